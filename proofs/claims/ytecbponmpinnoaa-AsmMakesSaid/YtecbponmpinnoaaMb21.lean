/- The law AsmMakes: for every input it returns true and leaves its arguments as they were. No condition. -/
import Derived.Test.YtecbponmpinnoaaMb0
import Derived.Test.YtecbponmpinnoaaMb1
import Derived.Test.YtecbponmpinnoaaMb2
import Derived.Test.YtecbponmpinnoaaMb3
import Derived.Test.YtecbponmpinnoaaMb4
import Derived.Test.YtecbponmpinnoaaMb5
import Derived.Test.YtecbponmpinnoaaMb6
import Derived.Test.YtecbponmpinnoaaMb7
import Derived.Test.YtecbponmpinnoaaMb8
import Derived.Test.YtecbponmpinnoaaMb9
import Derived.Test.YtecbponmpinnoaaMb10
import Derived.Test.YtecbponmpinnoaaMb11
import Derived.Test.YtecbponmpinnoaaMb12
import Derived.Test.YtecbponmpinnoaaMb13
import Derived.Test.YtecbponmpinnoaaMb14
import Derived.Test.YtecbponmpinnoaaMb15
import Derived.Test.YtecbponmpinnoaaMb16
import Derived.Test.YtecbponmpinnoaaMb17
import Derived.Test.YtecbponmpinnoaaMb18
import Derived.Test.YtecbponmpinnoaaMb19
import Derived.Test.YtecbponmpinnoaaMb20
import Derived.Test.YtecbponmpinnoaaRows
import Derived.Test.YtecbponmpinnoaaProg
import Derived.Below
import Derived.Deep.Draws
import Derived.Deep.AppendLies
import Derived.Maps.AppendAt
import Derived.OwnWalk
import Derived.Laws.BytesArg
import Derived.Laws.MakeOwn
import Derived.Laws.OwnMore
import Derived.Deep.OwnRows
import Derived.Tactics
import Derived.Lib.ConvBytes
import Derived.Laws.Slices
import Derived.WalkKit
import Derived.KernelRfl
import Derived.RowKit3
import Derived.Deep.LoopGhost
import Derived.Deep.QuietTactic
import Derived.BigQuiet
import Derived.WideLaws
import Derived.Deep.DeepCutAuto
import Derived.Deep.CutBlock
import Derived.Deep.RegionHeld3
import Derived.Laws.Rows
import Derived.Lib.AppendStr
import Derived.ArgAppend
import Derived.Laws.IdiomCopy
import Derived.OrdersHeld
import Derived.Laws.BitsLemmas
import Derived.RowKit
import Derived.Deep.WholeRow
import Derived.Outline
import Derived.WalkMore
import Derived.ScopeJumps
import Derived.Deep.DeepFit
import Derived.Maps.OwnOps
import Derived.Maps.Views
import Derived.Carry
import Derived.WalkArith
import Derived.Laws.StructEq
import Derived.Laws.BitsAllLaws
import Derived.IntWalk
import Derived.ProofKit
import Derived.OpenShut
import Derived.ShutString
import Derived.ChangeOld
import Derived.SizedLaws
import Derived.ChangeSame
import Derived.Laws.IdiomArrays
import Derived.Deep.Slices
set_option linter.unusedVariables false
set_option linter.unusedSimpArgs false
section
namespace Go.Proofs.Ytecbponmpinnoaa.asmMakes
open Go.ChangeShapes Go.WideShapes Go.ChangeAt Go.RowKit
set_option linter.unusedVariables false
theorem own:ownKnob Try.prog.godebug = none:=by kernel_rfl
theorem laidOut:laidOutB Try.prog = true:=by kernel_rfl
theorem cells3:Try.prog.cellsOf 3 = 1:=by kernel_rfl
theorem cells39:Try.prog.cellsOf 39 = 5:=by kernel_rfl
theorem cells41:Try.prog.cellsOf 41 = 7:=by kernel_rfl
theorem cells42:Try.prog.cellsOf 42 = 4:=by kernel_rfl
set_option maxRecDepth 100000 in
theorem int_of {H:Type} {enc:TypeId × Value→H} {w:World} {base:Nat} {spare:Nat→Bool} {held:Bool} {n:Nat} {v:Value} {o:Option (DataW H × List MemPlace)} {y:DataW H × List MemPlace}
  (h:DataW.trod enc Try.prog w base spare held n 3 [v] = o) (hy:o = some y):∃ a,v = .int .i64 a∧(Lit.int .i64 a).wf = true:=by
 rw [hy] at h
 obtain ⟨a,g,_,hw⟩:=DataW.trod_int Try.underlying3 h
 exact ⟨a,List.head_eq_of_cons_eq g,hw⟩
theorem i64_of {n:Int} (h:(Lit.int .i64 n).wf = true):-9223372036854775808≤n∧n≤9223372036854775807:=by
 simp [Lit.wf,IntKind.min,IntKind.max,IntKind.bits,IntKind.signed] at h
 omega
set_option maxRecDepth 100000 in
theorem open_cells {H:Type} {enc:TypeId × Value→H} {w:World} {base:Nat} {spare:Nat→Bool} {held:Bool} {cs:List Value} {fuel:Nat} {y:DataW H × List MemPlace}
  (hl:cs.length = 7) (hf:DataW.trod enc Try.prog w base spare held fuel 41 cs = some y) :
  ∃ x:P.S41,Pure.wfI x∧cs = [.int .i64 x.f0,.int .i64 x.f1.f0,.int .i64 x.f1.f1,.int .i64 x.f1.f2,.int .i64 x.f1.f3,.int .i64 x.f1.f4,.int .i64 x.f2]:=by
 match cs,hl with
 | [c0,c1,c2,c3,c4,c5,c6],_ =>
  obtain ⟨xs,n,_,_,_,hlen,hg⟩:=DataW.trod_struct Try.underlying41 hf
  match xs,hlen with
  | [y0,y1,y2],_ =>
   have g0:=hg 0 _ rfl
   have g1:=hg 1 _ rfl
   have g2:=hg 2 _ rfl
   obtain ⟨a0,rfl,_⟩:=int_of g0 rfl
   obtain ⟨a6,rfl,_⟩:=int_of g2 rfl
   obtain ⟨zs,m,_,_,_,hlen2,hk⟩:=DataW.trod_struct Try.underlying39 g1
   match zs,hlen2 with
   | [z0,z1,z2,z3,z4],_ =>
    have k0:=hk 0 _ rfl
    have k1:=hk 1 _ rfl
    have k2:=hk 2 _ rfl
    have k3:=hk 3 _ rfl
    have k4:=hk 4 _ rfl
    obtain ⟨a1,rfl,_⟩:=int_of k0 rfl
    obtain ⟨a2,rfl,_⟩:=int_of k1 rfl
    obtain ⟨a3,rfl,_⟩:=int_of k2 rfl
    obtain ⟨a4,rfl,_⟩:=int_of k3 rfl
    obtain ⟨a5,rfl,hw⟩:=int_of k4 rfl
    exact ⟨⟨a0,⟨a1,a2,a3,a4,a5⟩,a6⟩,i64_of hw,rfl⟩
set_option maxRecDepth 100000 in
theorem open_items {H:Type} {enc:TypeId × Value→H} {w:World} {base:Nat} {spare:Nat→Bool} {held:Bool} {r:Reach} {b0:Nat} {v:Value} {d:DataW H} {p:List MemPlace}
  (hv:Value.okWide Try.prog w r b0 22 v) (h:DataW.Trod enc Try.prog w base spare held 22 v d p) :
  ∃ (A:Option Addr) (c:Nat) (l:List P.S41),v = .slice A l.length c∧l.length≤c∧(∀ x ∈ l,Pure.wfI x)∧Go.Proofs.YtecbponmpinnoaaW.PrintWords.Kd.C P.k41 w A l.length l:=by
 obtain ⟨A0,n0,c0,rfl⟩:=okWide_slice Try.underlying22 hv
 obtain ⟨fuel,hf⟩:=h
 rcases Go.Deep.open_slice Try.underlying22 hf with ⟨hcs,_⟩|⟨a,len,cap,m,n,D,Pl,hcs,hb,hl,hm,hmm,_,hel⟩
 ·have hv2:Value.slice A0 n0 c0 = .slice none 0 0:=by
   simpa [Value.cells] using hcs
  exact ⟨none,0,[],hv2,Nat.le_refl _,fun x hx=>(by cases hx),rfl,Nat.zero_le _,fun h=>absurd h (Nat.lt_irrefl 0)⟩
 ·have hv2:Value.slice A0 n0 c0 = .slice (some a) len cap:=by
   simpa [Value.cells] using hcs
  have hlm:len≤m:=by rw [hmm];split <;> omega
  have one:∀ i,∃ x:P.S41,i < len→Pure.wfI x∧∀ j u,([.int .i64 x.f0,.int .i64 x.f1.f0,.int .i64 x.f1.f1,.int .i64 x.f1.f2,.int .i64 x.f1.f3,.int .i64 x.f1.f4,.int .i64 x.f2]:List Value)[j]? = some u→w.cell? (a.add (i * 7 + j)) = some u:=by
   intro i
   by_cases hi:i < len
   ·obtain ⟨cs',h1,h2⟩:=hel i (by omega)
    rw [cells41] at h1
    unfold World.cells? at h1
    have hbk:(a.add (i * 7)).block = a.block:=by
     unfold Addr.add
     split <;> rfl
    rw [if_pos (by rw [hbk];exact hb)] at h1
    have hlen:cs'.length = 7:=by simpa using mapM_some_length h1
    obtain ⟨x,hx,rfl⟩:=open_cells hlen h2
    refine ⟨x,fun _=>⟨hx,fun j u hj=>?_⟩⟩
    have hj7:j < 7:=by
     rcases List.getElem?_eq_some_iff.mp hj with ⟨q,_⟩
     simpa using q
    have:=mapM_some_get h1 j j (by rw [List.getElem?_range hj7])
    rw [hj] at this
    rw [← this]
    rw [Go.Deep.add_add]
   ·exact ⟨P.z41,fun h=>absurd h hi⟩
  obtain ⟨f,hf2⟩:=Classical.axiomOfChoice one
  refine ⟨some a,cap,(List.range len).map f,by simpa using hv2,by simpa using hl,fun x hx=>?_,by simp,?_,fun _=>⟨a,rfl,fun j p hj=>?_⟩⟩
  ·obtain ⟨i,hi,rfl⟩:=List.mem_map.mp hx
   exact (hf2 i (List.mem_range.mp hi)).1
  ·have:cap≤9223372036854775807:=hm
   simp
   omega
  ·rw [List.getElem?_map] at hj
   obtain ⟨q,hq,rfl⟩:=Option.map_eq_some_iff.mp hj
   obtain ⟨hq1,hq2⟩:=List.getElem?_eq_some_iff.mp hq
   simp at hq1 hq2
   subst hq2
   exact ⟨_,rfl,P.k41_mk w (f j),(hf2 j hq1).2⟩
set_option maxRecDepth 100000 in
theorem lifted (os:Os) (started:os.Started) (H:Type) (enc:TypeId × Value→H) :
  ReturnsInHanded {} Try.checked os 3 .any (Rows.asmMakesSpec.pre6 enc Try.prog Try.f3 Rows.asmMakesRow.domain false) (Rows.asmMakesSpec.post enc Try.prog Try.f3 false true false false):=by
 refine returnsInHanded_of_change_sized (C:=Try.checked) own started (by kernel_rfl) Try.func3
  (ChangeSpec.witness6 (enc:=enc) (C:=Try.checked) false ⟨#[],#[.slice none 0 0,.int .i64 0,.int .i64 0],[]⟩ 8 (by kernel_rfl) (by kernel_rfl) (by kernel_rfl) (by kernel_rfl)) ?_
 intro W base args ds gs before hval0 hW hcnd hsz0 _
 have hval:∀ (j:Nat) t v,Try.f3.params[j]? = some t→args[j]? = some v→Value.okWide Try.prog W .any base t v:=hval0
 have hW':=hW
 obtain ⟨p,q,hA0,hV,rfl,hfz,hnd⟩:=hW
 have hA:DataW.TrodAll enc Try.prog W 0 (fun _=>true) true Try.f3.params.toList args.toList ds p:=hA0
 rw [Try.params3] at hA hval
 obtain ⟨v0,vs0,d0,ds0,p0,q0,hargs,rfl,rfl,h0,r0⟩:=trodAll_cons hA
 obtain ⟨v1,vs1,d1,ds1,p1,q1,rfl,rfl,rfl,h1,r1⟩:=trodAll_cons r0
 obtain ⟨v2,vs2,d2,ds2,p2,q2,rfl,rfl,rfl,h2,r2⟩:=trodAll_cons r1
 obtain ⟨rfl,rfl,rfl⟩:=trodAll_nil r2
 obtain rfl:args = #[v0,v1,v2]:=by cases args;simp_all
 obtain ⟨rfl,rfl⟩:=trodVars_none hV
 have k0:=h0
 have lt0:∀ x ∈ p0,x.block < W.heap.size:=by obtain ⟨m,hm⟩:=k0;exact DataW.trod_lt m _ _ _ hm
 obtain ⟨A,c,l,rfl,hc,hwf,hC⟩:=open_items (hval 0 22 v0 rfl rfl) h0
 obtain ⟨a,rfl,rfl,rfl,w1⟩:=open_int Try.underlying3 (hval 1 3 v1 rfl rfl) h1
 obtain ⟨n,rfl,rfl,rfl,w2⟩:=open_int Try.underlying3 (hval 2 3 v2 rfl rfl) h2
 clear hA0 hval0 hsz0
 refine (P.rushlightlaw05_AsmMakes.calls 30000000 A c l a n true W hC hc (Pure.AsmMakes l hwf a n 30000000 (Nat.le_refl _))).mono fun e W' ⟨he,bel⟩=>?_
 subst he
 exact ⟨_,rfl,_,_,_,[],_,[],hW',trodAll_mk1 (shut_bool Try.underlying4 _),(trodAll_cons_mk (Below.trod laidOut (by kernel_rfl) (of_decide_eq_true (by kernel_rfl)) k0 bel lt0) (trodAll_cons_mk (shut_int Try.underlying3 w1) (trodAll_cons_mk (shut_int Try.underlying3 w2) trodAll_mk0))),rfl,bel.frame _,fun h=>by cases h⟩
theorem over:Rows.asmMakesRow.holds Try.pinned (OpenSpec.ofChange Rows.asmMakesSpec) :=
 OpenClaim.holds_of_wide 3 Try.f3 rfl rfl rfl rfl rfl rfl rfl ⟨rfl,rfl,rfl,rfl,rfl⟩ rfl rfl rfl rfl rfl (by kernel_rfl) Try.func3 (by kernel_rfl)
  (of_decide_eq_true (by kernel_rfl)) (by unfold Func.isWrapper;first|(rw [if_pos (by decide +kernel)];kernel_rfl)|(rw [if_neg (by decide +kernel)];exact ⟨rfl,rfl⟩))
  (fun os started H enc _=>lifted os started H enc)
theorem proved:Rows.AsmMakesSaid:=over
end Go.Proofs.Ytecbponmpinnoaa.asmMakes
namespace Go.Proofs.Ytecbponmpinnoaa
theorem asmMakes_holds:Rows.AsmMakesSaid:=asmMakes.proved
end Go.Proofs.Ytecbponmpinnoaa
end
