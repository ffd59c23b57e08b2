/- A claim's text, put together by a program of this session (wip/tools/shake.py): the declarations that the claim needs. -/
import Derived.Test.YtecbponmpinnoaaMb0
import Derived.Test.YtecbponmpinnoaaMb1
import Derived.Test.YtecbponmpinnoaaMb2
import Derived.Test.YtecbponmpinnoaaMb3
import Derived.Test.YtecbponmpinnoaaMb4
import Derived.Test.YtecbponmpinnoaaMb5
import Derived.Test.YtecbponmpinnoaaMb6
import Derived.Test.YtecbponmpinnoaaMb7
import Derived.Test.YtecbponmpinnoaaMb8
import Derived.Test.YtecbponmpinnoaaMb9
import Derived.Test.YtecbponmpinnoaaMb10
import Derived.Test.YtecbponmpinnoaaProg
import Derived.Below
import Derived.Deep.Draws
import Derived.Deep.AppendLies
import Derived.Maps.AppendAt
import Derived.OwnWalk
import Derived.Laws.BytesArg
import Derived.Laws.MakeOwn
import Derived.Laws.OwnMore
import Derived.Deep.OwnRows
import Derived.Tactics
import Derived.Lib.ConvBytes
import Derived.Laws.Slices
import Derived.WalkKit
import Derived.KernelRfl
import Derived.RowKit3
import Derived.Deep.LoopGhost
import Derived.Deep.QuietTactic
import Derived.BigQuiet
import Derived.WideLaws
import Derived.Deep.DeepCutAuto
import Derived.Deep.CutBlock
import Derived.Deep.RegionHeld3
import Derived.Laws.Rows
import Derived.Lib.AppendStr
import Derived.ArgAppend
import Derived.Laws.IdiomCopy
import Derived.OrdersHeld
import Derived.Laws.BitsLemmas
import Derived.RowKit
import Derived.Deep.WholeRow
import Derived.Outline
import Derived.WalkMore
import Derived.ScopeJumps
import Derived.Deep.DeepFit
import Derived.Maps.OwnOps
import Derived.Maps.Views
import Derived.Carry
import Derived.WalkArith
import Derived.Laws.StructEq
namespace Go
theorem zmb11_0 {p:Prop} (h:p:=by repeat (first|(with_reducible first|exact HB.out|apply below_alloc|apply pw_below_drewN|apply below_drew1)|exact HB.out)):p:=h
theorem zmb11_1 {p:Prop} (h:p:=by first|rfl|(simp;done)|(simp [*];done)):p:=h
theorem zmb11_2 {p:Prop} (h:p:=by (with_reducible repeat (first|refine blk_drewN ?_ _|refine blk_drew ?_|refine blk_alloc ?_ _));exact BK116.out):p:=h
theorem zmb11_3 {p:Prop} (h:p:=by repeat (first|(with_reducible first|exact HB.out|apply below_alloc|apply pw_below_drewN|apply below_drew1|refine below_set ?_ GE116.out)|exact HB.out)):p:=h
theorem zmb11_4 {p:Prop} (h:p:=by (try simp only [List.map_toArray,List.map_cons,List.map_nil]);first|done|rfl|(simp only [List.length_drop,List.length_take];rfl)):p:=h
theorem zmb11_5 {p:Prop} (h:p:=by first|rfl|(simp [errW_none,errW_some] <;> rfl)|(simp [*,errW_none,errW_some] <;> rfl)):p:=h
theorem zmb11_6 {p:Prop} (h:p:=by repeat (first|(with_reducible first|exact HB.out|apply below_alloc|apply pw_below_drewN|apply below_drew1|refine below_set ?_ GE116.out|refine below_set ?_ GE121.out)|exact HB.out)):p:=h
theorem zmb11_7 {p:Prop} (h:p:=by (with_reducible repeat (first|apply Kd.R_alloc|apply Kd.R_drewN|apply Kd.R_drew));exact HO182.out):p:=h
theorem zmb11_8 {p:Prop} (h:p:=by (with_reducible repeat (first|apply Kd.R_alloc|apply Kd.R_drewN|apply Kd.R_drew));exact HO187.out):p:=h
theorem zmb11_9 {p:Prop} (h:p:=by (with_reducible repeat (first|apply Kd.R_alloc|apply Kd.R_drewN|apply Kd.R_drew));exact HO189.out):p:=h
theorem zmb11_10 {p:Prop} (h:p:=by first|(with_reducible assumption)|assumption):p:=h
theorem zmb11_11 {p:Prop} (h:p:=by (with_reducible repeat (first|apply Kd.R_alloc|apply Kd.R_drewN|apply Kd.R_drew));exact HO_7.out):p:=h
theorem zmb11_12 {p:Prop} (h:p:=by have:=HK1.out;have:=HK2.out;omega):p:=h
end Go
set_option linter.unusedVariables false
set_option linter.unusedSimpArgs false
section
namespace Go.Proofs.Ytecbponmpinnoaa.P
open Go.RowKit Go.Proofs.YtecbponmpinnoaaW.PrintWords Go.Proofs.YtecbponmpinnoaaW.PrintLast Go.Proofs.YtecbponmpinnoaaW.PrintMore
attribute [local go_sem] max2_int min2_int max_two min_two max_three min_three max_four min_four   
set_option linter.unusedVariables false
set_option linter.unusedSimpArgs false
attribute [local go_sem high] eqA39
def asm_Right.j0:Nat→Bool→Int→Int→Int→Int→Int→Int→Int→Option (Bool)
 | 0,_,_,_,_,_,_,_,_=>none
 | k + 1,x3,x117000,x117001,x117002,x117003,x117004,x117005,x117006=>if x117000 = 1 then ((inst_Right.f k x117001 x117002 x117003 x117004 x117005).bind fun t117=>(if t117 = true then (some (x117006 == 0)) else (some false))) else (if x117000 = 2 then (if (x117001 == 0 && (x117002 == 0 && (x117003 == 0 && (x117004 == 0 && (x117005 == 0))))) = true then (some x3) else (some false)) else (if x117000 = 3 then ((inst_Right.f k x117001 x117002 x117003 x117004 x117005).bind fun t118=>(if t118 = true then ((asm_Contrary.f k x117001).bind fun t119=>(if t119 = 0 then (some false) else (if x117005 = 0 then (some x3) else (some false)))) else (some false))) else (if x117000 = 4 then ((inst_Right.f k x117001 x117002 x117003 x117004 x117005).bind fun t120=>(if t120 = true then (if x117001 = 3 then (if x117005 = 0 then (some x3) else (some false)) else (some false)) else (some false))) else (if x117000 = 5 then (if x117002 ≥ 0 then (if x117002 < 32 then (if (x117001 == 0 && (x117003 == 0 && (x117004 == 0))) = true then (if x117005 ≥ (-2147483648) then (if x117005 < 4294967296 then (some (x117006 == 0)) else (some false)) else (some false)) else (some false)) else (some false)) else (some false)) else (some false)))))
def asm_Right.f (k:Nat) (a0_0:Int) (a0_1:Int) (a0_2:Int) (a0_3:Int) (a0_4:Int) (a0_5:Int) (a0_6:Int):Option (Bool):=if a0_6 ≥ 0 then (asm_Right.j0 k (decide (a0_6 < 4096)) a0_0 a0_1 a0_2 a0_3 a0_4 a0_5 a0_6) else (asm_Right.j0 k false a0_0 a0_1 a0_2 a0_3 a0_4 a0_5 a0_6)
theorem asm_Right.mono_l:∀ k,(∀ y0 y1 y2 y3 y4 y5 y6 y7,LeO (asm_Right.j0 k y0 y1 y2 y3 y4 y5 y6 y7) (asm_Right.j0 (k + 1) y0 y1 y2 y3 y4 y5 y6 y7))
 | 0=>fun _ _ _ _ _ _ _ _ r h=>by simp [asm_Right.j0] at h
 | k + 1=>by
  have ih0:=asm_Right.mono_l k
  ·intro y0 y1 y2 y3 y4 y5 y6 y7
   unfold asm_Right.j0
   repeat' first
   | (with_reducible exact ih0 _ _ _ _ _ _ _ _)
   | (with_reducible exact asm_Contrary.mono _ _)
   | (with_reducible exact inst_Right.mono _ _ _ _ _ _)
   | (with_reducible exact LeO.refl _)
   | (with_reducible exact LeO.none _)
   | (with_reducible refine LeO.ite ?_ ?_)
   | (with_reducible refine LeO.bind ?_ (fun _=>?_))
   | exact ih0 _ _ _ _ _ _ _ _
   | exact asm_Contrary.mono _ _
   | exact inst_Right.mono _ _ _ _ _ _
   | exact LeO.none _
   | refine LeO.ite ?_ ?_
   | refine LeO.bind ?_ (fun _=>?_)
theorem asm_Right.mono:∀ a0 a1 a2 a3 a4 a5 a6 k,LeO (asm_Right.f k a0 a1 a2 a3 a4 a5 a6) (asm_Right.f (k + 1) a0 a1 a2 a3 a4 a5 a6):=by
 intro a0 a1 a2 a3 a4 a5 a6 k
 have ih0:=asm_Right.mono_l k
 unfold asm_Right.f
 repeat' first
   | (with_reducible exact ih0 _ _ _ _ _ _ _ _)
   | (with_reducible exact asm_Contrary.mono _ _)
   | (with_reducible exact inst_Right.mono _ _ _ _ _ _)
   | (with_reducible exact LeO.refl _)
   | (with_reducible exact LeO.none _)
   | (with_reducible refine LeO.ite ?_ ?_)
   | (with_reducible refine LeO.bind ?_ (fun _=>?_))
   | exact ih0 _ _ _ _ _ _ _ _
   | exact asm_Contrary.mono _ _
   | exact inst_Right.mono _ _ _ _ _ _
   | exact LeO.none _
   | refine LeO.ite ?_ ?_
   | refine LeO.bind ?_ (fun _=>?_)
set_option maxHeartbeats 8000000 in
set_option maxRecDepth 100000 in
theorem asm_Right.calls (k:Nat) (a0_0:Int) (a0_1:Int) (a0_2:Int) (a0_3:Int) (a0_4:Int) (a0_5:Int) (a0_6:Int) (r:Bool) (w:World) (h:asm_Right.f k a0_0 a0_1 a0_2 a0_3 a0_4 a0_5 a0_6 = some r) :
  Calls Try.prog 14 #[.agg #[.int .i64 a0_0,.int .i64 a0_1,.int .i64 a0_2,.int .i64 a0_3,.int .i64 a0_4,.int .i64 a0_5,.int .i64 a0_6]] w fun e w'=>e = .returned (.bool r)∧Below w.heap.size w w':=by
 have hu41:=Try.underlying41
 have hu39:=Try.underlying39
 have HB:=Aside0.mk (Below.refl w.heap.size w)
 have H:(if a0_6 ≥ 0 then (asm_Right.j0 k (decide (a0_6 < 4096)) a0_0 a0_1 a0_2 a0_3 a0_4 a0_5 a0_6) else (asm_Right.j0 k false a0_0 a0_1 a0_2 a0_3 a0_4 a0_5 a0_6)) = some r:=h
 clear h
 have HC2:=Aside0.mk H
 clear H
 go_enter Try.func14,Try.ntmps14
 go_upto_region 1 with (first|((with_reducible refine gate_dst (N:=1) rfl ?_);refine box_event ?hg (N:=1) ?hd (cs:=#[.int .i64 a0_0,.int .i64 a0_1,.int .i64 a0_2,.int .i64 a0_3,.int .i64 a0_4,.int .i64 a0_5,.int .i64 a0_6]) (t:=41) ?hr ?_;(case hd=>rfl);(case hg=>rfl);(case hr=>first|(go_simp;done)|(go_simp;rfl));intro gb116 hg w3 hbox hb;have n0_:=Aside0.mk (below_step zmb11_0 hb);have n1_:=Aside0.mk (hbox);have n2_:=Aside0.mk ((by rw [hg];exact (below_size zmb11_0):w.heap.size≤gb116));have n3_:=Aside0.mk ((by rw [hg];exact (below_size zmb11_0):w.heap.size≤gb116));clear HB;have HB:=n0_;have BK116:=n1_;have GW116:=n2_;have GE116:=n3_;clear n0_ n1_ n2_ n3_;clear hb hbox hg))
 (try simp only [Act.put,List.setIfInBounds_toArray,List.set_cons_zero,List.set_cons_succ])
 go_cut [3] (fun v3 wc=>∃ (kq:Nat) (x3_1:Bool),v3 = .bool x3_1∧Aside0 (asm_Right.j0 kq x3_1 a0_0 a0_1 a0_2 a0_3 a0_4 a0_5 a0_6 = some r)∧Aside0 (kq≤k)∧Aside0 (wc.heap[gb116]? = some (.cells #[.int .i64 a0_0,.int .i64 a0_1,.int .i64 a0_2,.int .i64 a0_3,.int .i64 a0_4,.int .i64 a0_5,.int .i64 a0_6] 41 (0,0)))∧Aside0 (Below w.heap.size w wc))
 case first =>
  have H:=HC2.out
  clear HC2
  by_cases c4:a0_6 ≥ 0
  ·rw [if_pos c4] at H
   have c4b0:decide (0≤a0_6) = true:=decide_eq_true c4
   clear c4
   (first|rw [c4b0]|(simp only [i64_w,i32_w];rw [c4b0])|skip)
   have H':=Aside0.mk H
   clear H
   have hcz5_0:w3.cell? ⟨gb116,0,none⟩ = some (.int .i64 a0_0):=(blk_cell BK116.out 0).trans rfl
   have hcz5_1:w3.cell? ⟨gb116,1,none⟩ = some (.int .i64 a0_1):=(blk_cell BK116.out 1).trans rfl
   have hcz5_2:w3.cell? ⟨gb116,2,none⟩ = some (.int .i64 a0_2):=(blk_cell BK116.out 2).trans rfl
   have hcz5_3:w3.cell? ⟨gb116,3,none⟩ = some (.int .i64 a0_3):=(blk_cell BK116.out 3).trans rfl
   have hcz5_4:w3.cell? ⟨gb116,4,none⟩ = some (.int .i64 a0_4):=(blk_cell BK116.out 4).trans rfl
   have hcz5_5:w3.cell? ⟨gb116,5,none⟩ = some (.int .i64 a0_5):=(blk_cell BK116.out 5).trans rfl
   have hcz5_6:w3.cell? ⟨gb116,6,none⟩ = some (.int .i64 a0_6):=(blk_cell BK116.out 6).trans rfl
   have hfz5_0:=blk_frozen BK116.out 0
   have hfz5_1:=blk_frozen BK116.out 1
   have hfz5_2:=blk_frozen BK116.out 2
   have hfz5_3:=blk_frozen BK116.out 3
   have hfz5_4:=blk_frozen BK116.out 4
   have hfz5_5:=blk_frozen BK116.out 5
   have hfz5_6:=blk_frozen BK116.out 6
   go_wp2
   go_meet
   case rel=>exact ⟨_,(decide (a0_6 < 4096)),zmb11_1,H',⟨by first|omega|exact Nat.le_refl _⟩,⟨zmb11_2⟩,⟨zmb11_3⟩⟩
  ·rw [if_neg c4] at H
   have c4b0:decide (0≤a0_6) = false:=decide_eq_false c4
   clear c4
   (first|rw [c4b0]|(simp only [i64_w,i32_w];rw [c4b0])|skip)
   have H':=Aside0.mk H
   clear H
   have hcz6_0:w3.cell? ⟨gb116,0,none⟩ = some (.int .i64 a0_0):=(blk_cell BK116.out 0).trans rfl
   have hcz6_1:w3.cell? ⟨gb116,1,none⟩ = some (.int .i64 a0_1):=(blk_cell BK116.out 1).trans rfl
   have hcz6_2:w3.cell? ⟨gb116,2,none⟩ = some (.int .i64 a0_2):=(blk_cell BK116.out 2).trans rfl
   have hcz6_3:w3.cell? ⟨gb116,3,none⟩ = some (.int .i64 a0_3):=(blk_cell BK116.out 3).trans rfl
   have hcz6_4:w3.cell? ⟨gb116,4,none⟩ = some (.int .i64 a0_4):=(blk_cell BK116.out 4).trans rfl
   have hcz6_5:w3.cell? ⟨gb116,5,none⟩ = some (.int .i64 a0_5):=(blk_cell BK116.out 5).trans rfl
   have hcz6_6:w3.cell? ⟨gb116,6,none⟩ = some (.int .i64 a0_6):=(blk_cell BK116.out 6).trans rfl
   have hfz6_0:=blk_frozen BK116.out 0
   have hfz6_1:=blk_frozen BK116.out 1
   have hfz6_2:=blk_frozen BK116.out 2
   have hfz6_3:=blk_frozen BK116.out 3
   have hfz6_4:=blk_frozen BK116.out 4
   have hfz6_5:=blk_frozen BK116.out 5
   have hfz6_6:=blk_frozen BK116.out 6
   go_wp2
   go_meet
   case rel=>exact ⟨_,(false),zmb11_1,H',⟨by first|omega|exact Nat.le_refl _⟩,⟨zmb11_2⟩,⟨zmb11_3⟩⟩
 case rest =>
  clear HC2
  try clear c1
  try clear p2
  try clear c4
  try clear c4b0
  try clear hcz5_0
  try clear hcz5_1
  try clear hcz5_2
  try clear hcz5_3
  try clear hcz5_4
  try clear hcz5_5
  try clear hcz5_6
  try clear hcz6_0
  try clear hcz6_1
  try clear hcz6_2
  try clear hcz6_3
  try clear hcz6_4
  try clear hcz6_5
  try clear hcz6_6
  try clear hfz5_0
  try clear hfz5_1
  try clear hfz5_2
  try clear hfz5_3
  try clear hfz5_4
  try clear hfz5_5
  try clear hfz5_6
  try clear hfz6_0
  try clear hfz6_1
  try clear hfz6_2
  try clear hfz6_3
  try clear hfz6_4
  try clear hfz6_5
  try clear hfz6_6
  obtain ⟨kq,x3_1,rfl,HA,HJ1,BK116,HB⟩:=hcut
  cases kq with
  | zero=>exact absurd HA.out (by simp [asm_Right.j0])
  | succ kj1 =>
   have H:=HA.out
   clear HA
   simp only [asm_Right.j0] at H
   by_cases c7:a0_0 = 1
   ·rw [if_pos c7] at H
    have c7b0:(a0_0 == 1) = true:=beq_iff_eq.mpr c7
    have c7b1:(a0_0 != 1) = false:=bne_eq_false_iff_eq.mpr c7
    clear c7
    replace H:=Option.bind_eq_some_iff.mp H
    obtain ⟨t117,A80,H⟩:=H
    replace H:(if t117 = true then (some (a0_6 == 0)) else (some false)) = some r:=H
    have A8:=Aside0.mk A80
    clear A80
    by_cases c9:t117 = true
    ·subst c9
     have H1:(some (a0_6 == 0)) = some r:=by rw [if_pos rfl] at H;exact H
     clear H
     have H:=H1
     clear H1
     obtain rfl:=Option.some.inj H
     have hcz10_0:wc.cell? ⟨gb116,0,none⟩ = some (.int .i64 a0_0):=(blk_cell BK116.out 0).trans rfl
     have hcz10_1:wc.cell? ⟨gb116,1,none⟩ = some (.int .i64 a0_1):=(blk_cell BK116.out 1).trans rfl
     have hcz10_2:wc.cell? ⟨gb116,2,none⟩ = some (.int .i64 a0_2):=(blk_cell BK116.out 2).trans rfl
     have hcz10_3:wc.cell? ⟨gb116,3,none⟩ = some (.int .i64 a0_3):=(blk_cell BK116.out 3).trans rfl
     have hcz10_4:wc.cell? ⟨gb116,4,none⟩ = some (.int .i64 a0_4):=(blk_cell BK116.out 4).trans rfl
     have hcz10_5:wc.cell? ⟨gb116,5,none⟩ = some (.int .i64 a0_5):=(blk_cell BK116.out 5).trans rfl
     have hcz10_6:wc.cell? ⟨gb116,6,none⟩ = some (.int .i64 a0_6):=(blk_cell BK116.out 6).trans rfl
     have hfz10_0:=blk_frozen BK116.out 0
     have hfz10_1:=blk_frozen BK116.out 1
     have hfz10_2:=blk_frozen BK116.out 2
     have hfz10_3:=blk_frozen BK116.out 3
     have hfz10_4:=blk_frozen BK116.out 4
     have hfz10_5:=blk_frozen BK116.out 5
     have hfz10_6:=blk_frozen BK116.out 6
     go_wp2_with (first|((with_reducible refine gate_callee (f:=35) rfl ?_);refine goesL_ (some 19) rfl rfl Try.func35 (by kernel_rfl) rfl #[.agg #[.int .i64 a0_1,.int .i64 a0_2,.int .i64 a0_3,.int .i64 a0_4,.int .i64 a0_5]] rfl zmb11_4 ?_;(with_reducible refine (inst_Right.calls kj1 a0_1 a0_2 a0_3 a0_4 a0_5 true _ A8.out).mono ?_);rintro e w11 ⟨rfl,hb⟩;refine ⟨_,rfl,?_⟩;have n0_:=Aside0.mk (blk_below (g:=gb116) (o:=.cells #[.int .i64 a0_0,.int .i64 a0_1,.int .i64 a0_2,.int .i64 a0_3,.int .i64 a0_4,.int .i64 a0_5,.int .i64 a0_6] 41 (0,0)) zmb11_2 hb);have n1_:=Aside0.mk (below_step zmb11_3 hb);clear BK116 HB;have BK116:=n0_;have HB:=n1_;clear n0_ n1_;(try clear hb);(try clear hb2);(try clear hk);(try clear hi);have hcz12_0:w11.cell? ⟨gb116,0,none⟩ = some (.int .i64 a0_0):=(blk_cell BK116.out 0).trans rfl;have hcz12_1:w11.cell? ⟨gb116,1,none⟩ = some (.int .i64 a0_1):=(blk_cell BK116.out 1).trans rfl;have hcz12_2:w11.cell? ⟨gb116,2,none⟩ = some (.int .i64 a0_2):=(blk_cell BK116.out 2).trans rfl;have hcz12_3:w11.cell? ⟨gb116,3,none⟩ = some (.int .i64 a0_3):=(blk_cell BK116.out 3).trans rfl;have hcz12_4:w11.cell? ⟨gb116,4,none⟩ = some (.int .i64 a0_4):=(blk_cell BK116.out 4).trans rfl;have hcz12_5:w11.cell? ⟨gb116,5,none⟩ = some (.int .i64 a0_5):=(blk_cell BK116.out 5).trans rfl;have hcz12_6:w11.cell? ⟨gb116,6,none⟩ = some (.int .i64 a0_6):=(blk_cell BK116.out 6).trans rfl;have hfz12_0:=blk_frozen BK116.out 0;have hfz12_1:=blk_frozen BK116.out 1;have hfz12_2:=blk_frozen BK116.out 2;have hfz12_3:=blk_frozen BK116.out 3;have hfz12_4:=blk_frozen BK116.out 4;have hfz12_5:=blk_frozen BK116.out 5;have hfz12_6:=blk_frozen BK116.out 6))
     go_ret
     exact ⟨zmb11_5,zmb11_3⟩
    ·replace c9:=Bool.eq_false_iff.mpr c9
     subst c9
     have H1:(some false) = some r:=by rw [if_neg (show ¬ (false = true) by decide)] at H;exact H
     clear H
     have H:=H1
     clear H1
     obtain rfl:=Option.some.inj H
     have hcz13_0:wc.cell? ⟨gb116,0,none⟩ = some (.int .i64 a0_0):=(blk_cell BK116.out 0).trans rfl
     have hcz13_1:wc.cell? ⟨gb116,1,none⟩ = some (.int .i64 a0_1):=(blk_cell BK116.out 1).trans rfl
     have hcz13_2:wc.cell? ⟨gb116,2,none⟩ = some (.int .i64 a0_2):=(blk_cell BK116.out 2).trans rfl
     have hcz13_3:wc.cell? ⟨gb116,3,none⟩ = some (.int .i64 a0_3):=(blk_cell BK116.out 3).trans rfl
     have hcz13_4:wc.cell? ⟨gb116,4,none⟩ = some (.int .i64 a0_4):=(blk_cell BK116.out 4).trans rfl
     have hcz13_5:wc.cell? ⟨gb116,5,none⟩ = some (.int .i64 a0_5):=(blk_cell BK116.out 5).trans rfl
     have hcz13_6:wc.cell? ⟨gb116,6,none⟩ = some (.int .i64 a0_6):=(blk_cell BK116.out 6).trans rfl
     have hfz13_0:=blk_frozen BK116.out 0
     have hfz13_1:=blk_frozen BK116.out 1
     have hfz13_2:=blk_frozen BK116.out 2
     have hfz13_3:=blk_frozen BK116.out 3
     have hfz13_4:=blk_frozen BK116.out 4
     have hfz13_5:=blk_frozen BK116.out 5
     have hfz13_6:=blk_frozen BK116.out 6
     go_wp2_with (first|((with_reducible refine gate_callee (f:=35) rfl ?_);refine goesL_ (some 19) rfl rfl Try.func35 (by kernel_rfl) rfl #[.agg #[.int .i64 a0_1,.int .i64 a0_2,.int .i64 a0_3,.int .i64 a0_4,.int .i64 a0_5]] rfl zmb11_4 ?_;(with_reducible refine (inst_Right.calls kj1 a0_1 a0_2 a0_3 a0_4 a0_5 false _ A8.out).mono ?_);rintro e w14 ⟨rfl,hb⟩;refine ⟨_,rfl,?_⟩;have n0_:=Aside0.mk (blk_below (g:=gb116) (o:=.cells #[.int .i64 a0_0,.int .i64 a0_1,.int .i64 a0_2,.int .i64 a0_3,.int .i64 a0_4,.int .i64 a0_5,.int .i64 a0_6] 41 (0,0)) zmb11_2 hb);have n1_:=Aside0.mk (below_step zmb11_3 hb);clear BK116 HB;have BK116:=n0_;have HB:=n1_;clear n0_ n1_;(try clear hb);(try clear hb2);(try clear hk);(try clear hi)))
     go_ret
     exact ⟨zmb11_5,zmb11_3⟩
   ·rw [if_neg c7] at H
    have c7b0:(a0_0 == 1) = false:=beq_eq_false_iff_ne.mpr c7
    have c7b1:(a0_0 != 1) = true:=bne_iff_ne.mpr c7
    by_cases c15:a0_0 = 2
    ·rw [if_pos c15] at H
     have c15b0:(a0_0 == 2) = true:=beq_iff_eq.mpr c15
     have c15b1:(a0_0 != 2) = false:=bne_eq_false_iff_eq.mpr c15
     clear c15
     by_cases c16:(a0_1 == 0 && (a0_2 == 0 && (a0_3 == 0 && (a0_4 == 0 && (a0_5 == 0))))) = true
     ·rw [if_pos c16] at H
      have c16b0:(a0_1 == 0 && (a0_2 == 0 && (a0_3 == 0 && (a0_4 == 0 && (a0_5 == 0))))) = true:=c16
      (try (have c16b1:decide (a0_1 = 0 && (a0_2 == 0 && (a0_3 == 0 && (a0_4 == 0 && (a0_5 == 0))))) = true:=by simpa using c16))
      (try (have c16b2:(a0_1 == 0 && (a0_2 == 0 && (a0_3 == 0 && (a0_4 == 0 && (a0_5 == 0))))) = true:=by simpa using c16))
      clear c16
      obtain rfl:=Option.some.inj H
      have hcz17_0:wc.cell? ⟨gb116,0,none⟩ = some (.int .i64 a0_0):=(blk_cell BK116.out 0).trans rfl
      have hcz17_1:wc.cell? ⟨gb116,1,none⟩ = some (.int .i64 a0_1):=(blk_cell BK116.out 1).trans rfl
      have hcz17_2:wc.cell? ⟨gb116,2,none⟩ = some (.int .i64 a0_2):=(blk_cell BK116.out 2).trans rfl
      have hcz17_3:wc.cell? ⟨gb116,3,none⟩ = some (.int .i64 a0_3):=(blk_cell BK116.out 3).trans rfl
      have hcz17_4:wc.cell? ⟨gb116,4,none⟩ = some (.int .i64 a0_4):=(blk_cell BK116.out 4).trans rfl
      have hcz17_5:wc.cell? ⟨gb116,5,none⟩ = some (.int .i64 a0_5):=(blk_cell BK116.out 5).trans rfl
      have hcz17_6:wc.cell? ⟨gb116,6,none⟩ = some (.int .i64 a0_6):=(blk_cell BK116.out 6).trans rfl
      have hfz17_0:=blk_frozen BK116.out 0
      have hfz17_1:=blk_frozen BK116.out 1
      have hfz17_2:=blk_frozen BK116.out 2
      have hfz17_3:=blk_frozen BK116.out 3
      have hfz17_4:=blk_frozen BK116.out 4
      have hfz17_5:=blk_frozen BK116.out 5
      have hfz17_6:=blk_frozen BK116.out 6
      go_wp2
      go_ret
      exact ⟨zmb11_5,zmb11_3⟩
     ·rw [if_neg c16] at H
      have c16b0:(a0_1 == 0 && (a0_2 == 0 && (a0_3 == 0 && (a0_4 == 0 && (a0_5 == 0))))) = false:=by simpa using c16
      (try (have c16b1:decide (a0_1 = 0 && (a0_2 == 0 && (a0_3 == 0 && (a0_4 == 0 && (a0_5 == 0))))) = false:=by simpa using c16))
      (try (have c16b2:(a0_1 == 0 && (a0_2 == 0 && (a0_3 == 0 && (a0_4 == 0 && (a0_5 == 0))))) = false:=by simpa using c16))
      (try (have c16b3:¬ (a0_1 = 0 && (a0_2 == 0 && (a0_3 == 0 && (a0_4 == 0 && (a0_5 == 0))))):=by simpa using c16))
      clear c16
      obtain rfl:=Option.some.inj H
      have hcz18_0:wc.cell? ⟨gb116,0,none⟩ = some (.int .i64 a0_0):=(blk_cell BK116.out 0).trans rfl
      have hcz18_1:wc.cell? ⟨gb116,1,none⟩ = some (.int .i64 a0_1):=(blk_cell BK116.out 1).trans rfl
      have hcz18_2:wc.cell? ⟨gb116,2,none⟩ = some (.int .i64 a0_2):=(blk_cell BK116.out 2).trans rfl
      have hcz18_3:wc.cell? ⟨gb116,3,none⟩ = some (.int .i64 a0_3):=(blk_cell BK116.out 3).trans rfl
      have hcz18_4:wc.cell? ⟨gb116,4,none⟩ = some (.int .i64 a0_4):=(blk_cell BK116.out 4).trans rfl
      have hcz18_5:wc.cell? ⟨gb116,5,none⟩ = some (.int .i64 a0_5):=(blk_cell BK116.out 5).trans rfl
      have hcz18_6:wc.cell? ⟨gb116,6,none⟩ = some (.int .i64 a0_6):=(blk_cell BK116.out 6).trans rfl
      have hfz18_0:=blk_frozen BK116.out 0
      have hfz18_1:=blk_frozen BK116.out 1
      have hfz18_2:=blk_frozen BK116.out 2
      have hfz18_3:=blk_frozen BK116.out 3
      have hfz18_4:=blk_frozen BK116.out 4
      have hfz18_5:=blk_frozen BK116.out 5
      have hfz18_6:=blk_frozen BK116.out 6
      go_wp2
      go_ret
      exact ⟨zmb11_5,zmb11_3⟩
    ·rw [if_neg c15] at H
     have c15b0:(a0_0 == 2) = false:=beq_eq_false_iff_ne.mpr c15
     have c15b1:(a0_0 != 2) = true:=bne_iff_ne.mpr c15
     by_cases c19:a0_0 = 3
     ·rw [if_pos c19] at H
      have c19b0:(a0_0 == 3) = true:=beq_iff_eq.mpr c19
      have c19b1:(a0_0 != 3) = false:=bne_eq_false_iff_eq.mpr c19
      clear c19
      replace H:=Option.bind_eq_some_iff.mp H
      obtain ⟨t118,A200,H⟩:=H
      replace H:(if t118 = true then ((asm_Contrary.f kj1 a0_1).bind fun t119=>(if t119 = 0 then (some false) else (if a0_5 = 0 then (some x3_1) else (some false)))) else (some false)) = some r:=H
      have A20:=Aside0.mk A200
      clear A200
      by_cases c21:t118 = true
      ·subst c21
       have H1:((asm_Contrary.f kj1 a0_1).bind fun t119=>(if t119 = 0 then (some false) else (if a0_5 = 0 then (some x3_1) else (some false)))) = some r:=by rw [if_pos rfl] at H;exact H
       clear H
       have H:=H1
       clear H1
       replace H:=Option.bind_eq_some_iff.mp H
       obtain ⟨t119,A220,H⟩:=H
       replace H:(if t119 = 0 then (some false) else (if a0_5 = 0 then (some x3_1) else (some false))) = some r:=H
       have A22:=Aside0.mk A220
       clear A220
       by_cases c23:t119 = 0
       ·rw [if_pos c23] at H
        have c23b0:(t119 == 0) = true:=beq_iff_eq.mpr c23
        have c23b1:(t119 != 0) = false:=bne_eq_false_iff_eq.mpr c23
        clear c23
        obtain rfl:=Option.some.inj H
        have hcz24_0:wc.cell? ⟨gb116,0,none⟩ = some (.int .i64 a0_0):=(blk_cell BK116.out 0).trans rfl
        have hcz24_1:wc.cell? ⟨gb116,1,none⟩ = some (.int .i64 a0_1):=(blk_cell BK116.out 1).trans rfl
        have hcz24_2:wc.cell? ⟨gb116,2,none⟩ = some (.int .i64 a0_2):=(blk_cell BK116.out 2).trans rfl
        have hcz24_3:wc.cell? ⟨gb116,3,none⟩ = some (.int .i64 a0_3):=(blk_cell BK116.out 3).trans rfl
        have hcz24_4:wc.cell? ⟨gb116,4,none⟩ = some (.int .i64 a0_4):=(blk_cell BK116.out 4).trans rfl
        have hcz24_5:wc.cell? ⟨gb116,5,none⟩ = some (.int .i64 a0_5):=(blk_cell BK116.out 5).trans rfl
        have hcz24_6:wc.cell? ⟨gb116,6,none⟩ = some (.int .i64 a0_6):=(blk_cell BK116.out 6).trans rfl
        have hfz24_0:=blk_frozen BK116.out 0
        have hfz24_1:=blk_frozen BK116.out 1
        have hfz24_2:=blk_frozen BK116.out 2
        have hfz24_3:=blk_frozen BK116.out 3
        have hfz24_4:=blk_frozen BK116.out 4
        have hfz24_5:=blk_frozen BK116.out 5
        have hfz24_6:=blk_frozen BK116.out 6
        go_wp2_with (first|((with_reducible refine gate_callee (f:=35) rfl ?_);refine goesL_ (some 38) rfl rfl Try.func35 (by kernel_rfl) rfl #[.agg #[.int .i64 a0_1,.int .i64 a0_2,.int .i64 a0_3,.int .i64 a0_4,.int .i64 a0_5]] rfl zmb11_4 ?_;(with_reducible refine (inst_Right.calls kj1 a0_1 a0_2 a0_3 a0_4 a0_5 true _ A20.out).mono ?_);rintro e w25 ⟨rfl,hb⟩;refine ⟨_,rfl,?_⟩;have n0_:=Aside0.mk (blk_below (g:=gb116) (o:=.cells #[.int .i64 a0_0,.int .i64 a0_1,.int .i64 a0_2,.int .i64 a0_3,.int .i64 a0_4,.int .i64 a0_5,.int .i64 a0_6] 41 (0,0)) zmb11_2 hb);have n1_:=Aside0.mk (below_step zmb11_3 hb);clear BK116 HB;have BK116:=n0_;have HB:=n1_;clear n0_ n1_;(try clear hb);(try clear hb2);(try clear hk);(try clear hi);have hcz26_0:w25.cell? ⟨gb116,0,none⟩ = some (.int .i64 a0_0):=(blk_cell BK116.out 0).trans rfl;have hcz26_1:w25.cell? ⟨gb116,1,none⟩ = some (.int .i64 a0_1):=(blk_cell BK116.out 1).trans rfl;have hcz26_2:w25.cell? ⟨gb116,2,none⟩ = some (.int .i64 a0_2):=(blk_cell BK116.out 2).trans rfl;have hcz26_3:w25.cell? ⟨gb116,3,none⟩ = some (.int .i64 a0_3):=(blk_cell BK116.out 3).trans rfl;have hcz26_4:w25.cell? ⟨gb116,4,none⟩ = some (.int .i64 a0_4):=(blk_cell BK116.out 4).trans rfl;have hcz26_5:w25.cell? ⟨gb116,5,none⟩ = some (.int .i64 a0_5):=(blk_cell BK116.out 5).trans rfl;have hcz26_6:w25.cell? ⟨gb116,6,none⟩ = some (.int .i64 a0_6):=(blk_cell BK116.out 6).trans rfl;have hfz26_0:=blk_frozen BK116.out 0;have hfz26_1:=blk_frozen BK116.out 1;have hfz26_2:=blk_frozen BK116.out 2;have hfz26_3:=blk_frozen BK116.out 3;have hfz26_4:=blk_frozen BK116.out 4;have hfz26_5:=blk_frozen BK116.out 5;have hfz26_6:=blk_frozen BK116.out 6)|(go_at_call 16;(with_reducible refine (asm_Contrary.calls kj1 a0_1 t119 _ A22.out).mono ?_);rintro e w' ⟨rfl,⟨nd,rfl⟩⟩))
        go_ret
        exact ⟨zmb11_5,zmb11_3⟩
       ·rw [if_neg c23] at H
        have c23b0:(t119 == 0) = false:=beq_eq_false_iff_ne.mpr c23
        have c23b1:(t119 != 0) = true:=bne_iff_ne.mpr c23
        by_cases c27:a0_5 = 0
        ·rw [if_pos c27] at H
         have c27b0:(a0_5 == 0) = true:=beq_iff_eq.mpr c27
         have c27b1:(a0_5 != 0) = false:=bne_eq_false_iff_eq.mpr c27
         clear c27
         obtain rfl:=Option.some.inj H
         have hcz28_0:wc.cell? ⟨gb116,0,none⟩ = some (.int .i64 a0_0):=(blk_cell BK116.out 0).trans rfl
         have hcz28_1:wc.cell? ⟨gb116,1,none⟩ = some (.int .i64 a0_1):=(blk_cell BK116.out 1).trans rfl
         have hcz28_2:wc.cell? ⟨gb116,2,none⟩ = some (.int .i64 a0_2):=(blk_cell BK116.out 2).trans rfl
         have hcz28_3:wc.cell? ⟨gb116,3,none⟩ = some (.int .i64 a0_3):=(blk_cell BK116.out 3).trans rfl
         have hcz28_4:wc.cell? ⟨gb116,4,none⟩ = some (.int .i64 a0_4):=(blk_cell BK116.out 4).trans rfl
         have hcz28_5:wc.cell? ⟨gb116,5,none⟩ = some (.int .i64 a0_5):=(blk_cell BK116.out 5).trans rfl
         have hcz28_6:wc.cell? ⟨gb116,6,none⟩ = some (.int .i64 a0_6):=(blk_cell BK116.out 6).trans rfl
         have hfz28_0:=blk_frozen BK116.out 0
         have hfz28_1:=blk_frozen BK116.out 1
         have hfz28_2:=blk_frozen BK116.out 2
         have hfz28_3:=blk_frozen BK116.out 3
         have hfz28_4:=blk_frozen BK116.out 4
         have hfz28_5:=blk_frozen BK116.out 5
         have hfz28_6:=blk_frozen BK116.out 6
         go_wp2_with (first|((with_reducible refine gate_callee (f:=35) rfl ?_);refine goesL_ (some 38) rfl rfl Try.func35 (by kernel_rfl) rfl #[.agg #[.int .i64 a0_1,.int .i64 a0_2,.int .i64 a0_3,.int .i64 a0_4,.int .i64 a0_5]] rfl zmb11_4 ?_;(with_reducible refine (inst_Right.calls kj1 a0_1 a0_2 a0_3 a0_4 a0_5 true _ A20.out).mono ?_);rintro e w29 ⟨rfl,hb⟩;refine ⟨_,rfl,?_⟩;have n0_:=Aside0.mk (blk_below (g:=gb116) (o:=.cells #[.int .i64 a0_0,.int .i64 a0_1,.int .i64 a0_2,.int .i64 a0_3,.int .i64 a0_4,.int .i64 a0_5,.int .i64 a0_6] 41 (0,0)) zmb11_2 hb);have n1_:=Aside0.mk (below_step zmb11_3 hb);clear BK116 HB;have BK116:=n0_;have HB:=n1_;clear n0_ n1_;(try clear hb);(try clear hb2);(try clear hk);(try clear hi);have hcz30_0:w29.cell? ⟨gb116,0,none⟩ = some (.int .i64 a0_0):=(blk_cell BK116.out 0).trans rfl;have hcz30_1:w29.cell? ⟨gb116,1,none⟩ = some (.int .i64 a0_1):=(blk_cell BK116.out 1).trans rfl;have hcz30_2:w29.cell? ⟨gb116,2,none⟩ = some (.int .i64 a0_2):=(blk_cell BK116.out 2).trans rfl;have hcz30_3:w29.cell? ⟨gb116,3,none⟩ = some (.int .i64 a0_3):=(blk_cell BK116.out 3).trans rfl;have hcz30_4:w29.cell? ⟨gb116,4,none⟩ = some (.int .i64 a0_4):=(blk_cell BK116.out 4).trans rfl;have hcz30_5:w29.cell? ⟨gb116,5,none⟩ = some (.int .i64 a0_5):=(blk_cell BK116.out 5).trans rfl;have hcz30_6:w29.cell? ⟨gb116,6,none⟩ = some (.int .i64 a0_6):=(blk_cell BK116.out 6).trans rfl;have hfz30_0:=blk_frozen BK116.out 0;have hfz30_1:=blk_frozen BK116.out 1;have hfz30_2:=blk_frozen BK116.out 2;have hfz30_3:=blk_frozen BK116.out 3;have hfz30_4:=blk_frozen BK116.out 4;have hfz30_5:=blk_frozen BK116.out 5;have hfz30_6:=blk_frozen BK116.out 6)|(go_at_call 16;(with_reducible refine (asm_Contrary.calls kj1 a0_1 t119 _ A22.out).mono ?_);rintro e w' ⟨rfl,⟨nd,rfl⟩⟩))
         go_ret
         exact ⟨zmb11_5,zmb11_3⟩
        ·rw [if_neg c27] at H
         have c27b0:(a0_5 == 0) = false:=beq_eq_false_iff_ne.mpr c27
         have c27b1:(a0_5 != 0) = true:=bne_iff_ne.mpr c27
         obtain rfl:=Option.some.inj H
         have hcz31_0:wc.cell? ⟨gb116,0,none⟩ = some (.int .i64 a0_0):=(blk_cell BK116.out 0).trans rfl
         have hcz31_1:wc.cell? ⟨gb116,1,none⟩ = some (.int .i64 a0_1):=(blk_cell BK116.out 1).trans rfl
         have hcz31_2:wc.cell? ⟨gb116,2,none⟩ = some (.int .i64 a0_2):=(blk_cell BK116.out 2).trans rfl
         have hcz31_3:wc.cell? ⟨gb116,3,none⟩ = some (.int .i64 a0_3):=(blk_cell BK116.out 3).trans rfl
         have hcz31_4:wc.cell? ⟨gb116,4,none⟩ = some (.int .i64 a0_4):=(blk_cell BK116.out 4).trans rfl
         have hcz31_5:wc.cell? ⟨gb116,5,none⟩ = some (.int .i64 a0_5):=(blk_cell BK116.out 5).trans rfl
         have hcz31_6:wc.cell? ⟨gb116,6,none⟩ = some (.int .i64 a0_6):=(blk_cell BK116.out 6).trans rfl
         have hfz31_0:=blk_frozen BK116.out 0
         have hfz31_1:=blk_frozen BK116.out 1
         have hfz31_2:=blk_frozen BK116.out 2
         have hfz31_3:=blk_frozen BK116.out 3
         have hfz31_4:=blk_frozen BK116.out 4
         have hfz31_5:=blk_frozen BK116.out 5
         have hfz31_6:=blk_frozen BK116.out 6
         go_wp2_with (first|((with_reducible refine gate_callee (f:=35) rfl ?_);refine goesL_ (some 38) rfl rfl Try.func35 (by kernel_rfl) rfl #[.agg #[.int .i64 a0_1,.int .i64 a0_2,.int .i64 a0_3,.int .i64 a0_4,.int .i64 a0_5]] rfl zmb11_4 ?_;(with_reducible refine (inst_Right.calls kj1 a0_1 a0_2 a0_3 a0_4 a0_5 true _ A20.out).mono ?_);rintro e w32 ⟨rfl,hb⟩;refine ⟨_,rfl,?_⟩;have n0_:=Aside0.mk (blk_below (g:=gb116) (o:=.cells #[.int .i64 a0_0,.int .i64 a0_1,.int .i64 a0_2,.int .i64 a0_3,.int .i64 a0_4,.int .i64 a0_5,.int .i64 a0_6] 41 (0,0)) zmb11_2 hb);have n1_:=Aside0.mk (below_step zmb11_3 hb);clear BK116 HB;have BK116:=n0_;have HB:=n1_;clear n0_ n1_;(try clear hb);(try clear hb2);(try clear hk);(try clear hi);have hcz33_0:w32.cell? ⟨gb116,0,none⟩ = some (.int .i64 a0_0):=(blk_cell BK116.out 0).trans rfl;have hcz33_1:w32.cell? ⟨gb116,1,none⟩ = some (.int .i64 a0_1):=(blk_cell BK116.out 1).trans rfl;have hcz33_2:w32.cell? ⟨gb116,2,none⟩ = some (.int .i64 a0_2):=(blk_cell BK116.out 2).trans rfl;have hcz33_3:w32.cell? ⟨gb116,3,none⟩ = some (.int .i64 a0_3):=(blk_cell BK116.out 3).trans rfl;have hcz33_4:w32.cell? ⟨gb116,4,none⟩ = some (.int .i64 a0_4):=(blk_cell BK116.out 4).trans rfl;have hcz33_5:w32.cell? ⟨gb116,5,none⟩ = some (.int .i64 a0_5):=(blk_cell BK116.out 5).trans rfl;have hcz33_6:w32.cell? ⟨gb116,6,none⟩ = some (.int .i64 a0_6):=(blk_cell BK116.out 6).trans rfl;have hfz33_0:=blk_frozen BK116.out 0;have hfz33_1:=blk_frozen BK116.out 1;have hfz33_2:=blk_frozen BK116.out 2;have hfz33_3:=blk_frozen BK116.out 3;have hfz33_4:=blk_frozen BK116.out 4;have hfz33_5:=blk_frozen BK116.out 5;have hfz33_6:=blk_frozen BK116.out 6)|(go_at_call 16;(with_reducible refine (asm_Contrary.calls kj1 a0_1 t119 _ A22.out).mono ?_);rintro e w' ⟨rfl,⟨nd,rfl⟩⟩))
         go_ret
         exact ⟨zmb11_5,zmb11_3⟩
      ·replace c21:=Bool.eq_false_iff.mpr c21
       subst c21
       have H1:(some false) = some r:=by rw [if_neg (show ¬ (false = true) by decide)] at H;exact H
       clear H
       have H:=H1
       clear H1
       obtain rfl:=Option.some.inj H
       have hcz34_0:wc.cell? ⟨gb116,0,none⟩ = some (.int .i64 a0_0):=(blk_cell BK116.out 0).trans rfl
       have hcz34_1:wc.cell? ⟨gb116,1,none⟩ = some (.int .i64 a0_1):=(blk_cell BK116.out 1).trans rfl
       have hcz34_2:wc.cell? ⟨gb116,2,none⟩ = some (.int .i64 a0_2):=(blk_cell BK116.out 2).trans rfl
       have hcz34_3:wc.cell? ⟨gb116,3,none⟩ = some (.int .i64 a0_3):=(blk_cell BK116.out 3).trans rfl
       have hcz34_4:wc.cell? ⟨gb116,4,none⟩ = some (.int .i64 a0_4):=(blk_cell BK116.out 4).trans rfl
       have hcz34_5:wc.cell? ⟨gb116,5,none⟩ = some (.int .i64 a0_5):=(blk_cell BK116.out 5).trans rfl
       have hcz34_6:wc.cell? ⟨gb116,6,none⟩ = some (.int .i64 a0_6):=(blk_cell BK116.out 6).trans rfl
       have hfz34_0:=blk_frozen BK116.out 0
       have hfz34_1:=blk_frozen BK116.out 1
       have hfz34_2:=blk_frozen BK116.out 2
       have hfz34_3:=blk_frozen BK116.out 3
       have hfz34_4:=blk_frozen BK116.out 4
       have hfz34_5:=blk_frozen BK116.out 5
       have hfz34_6:=blk_frozen BK116.out 6
       go_wp2_with (first|((with_reducible refine gate_callee (f:=35) rfl ?_);refine goesL_ (some 38) rfl rfl Try.func35 (by kernel_rfl) rfl #[.agg #[.int .i64 a0_1,.int .i64 a0_2,.int .i64 a0_3,.int .i64 a0_4,.int .i64 a0_5]] rfl zmb11_4 ?_;(with_reducible refine (inst_Right.calls kj1 a0_1 a0_2 a0_3 a0_4 a0_5 false _ A20.out).mono ?_);rintro e w35 ⟨rfl,hb⟩;refine ⟨_,rfl,?_⟩;have n0_:=Aside0.mk (blk_below (g:=gb116) (o:=.cells #[.int .i64 a0_0,.int .i64 a0_1,.int .i64 a0_2,.int .i64 a0_3,.int .i64 a0_4,.int .i64 a0_5,.int .i64 a0_6] 41 (0,0)) zmb11_2 hb);have n1_:=Aside0.mk (below_step zmb11_3 hb);clear BK116 HB;have BK116:=n0_;have HB:=n1_;clear n0_ n1_;(try clear hb);(try clear hb2);(try clear hk);(try clear hi)))
       go_ret
       exact ⟨zmb11_5,zmb11_3⟩
     ·rw [if_neg c19] at H
      have c19b0:(a0_0 == 3) = false:=beq_eq_false_iff_ne.mpr c19
      have c19b1:(a0_0 != 3) = true:=bne_iff_ne.mpr c19
      by_cases c36:a0_0 = 4
      ·rw [if_pos c36] at H
       have c36b0:(a0_0 == 4) = true:=beq_iff_eq.mpr c36
       have c36b1:(a0_0 != 4) = false:=bne_eq_false_iff_eq.mpr c36
       clear c36
       replace H:=Option.bind_eq_some_iff.mp H
       obtain ⟨t120,A370,H⟩:=H
       replace H:(if t120 = true then (if a0_1 = 3 then (if a0_5 = 0 then (some x3_1) else (some false)) else (some false)) else (some false)) = some r:=H
       have A37:=Aside0.mk A370
       clear A370
       by_cases c38:t120 = true
       ·subst c38
        have H1:(if a0_1 = 3 then (if a0_5 = 0 then (some x3_1) else (some false)) else (some false)) = some r:=by rw [if_pos rfl] at H;exact H
        clear H
        have H:=H1
        clear H1
        by_cases c39:a0_1 = 3
        ·rw [if_pos c39] at H
         have c39b0:(a0_1 == 3) = true:=beq_iff_eq.mpr c39
         have c39b1:(a0_1 != 3) = false:=bne_eq_false_iff_eq.mpr c39
         clear c39
         by_cases c40:a0_5 = 0
         ·rw [if_pos c40] at H
          have c40b0:(a0_5 == 0) = true:=beq_iff_eq.mpr c40
          have c40b1:(a0_5 != 0) = false:=bne_eq_false_iff_eq.mpr c40
          clear c40
          obtain rfl:=Option.some.inj H
          have hcz41_0:wc.cell? ⟨gb116,0,none⟩ = some (.int .i64 a0_0):=(blk_cell BK116.out 0).trans rfl
          have hcz41_1:wc.cell? ⟨gb116,1,none⟩ = some (.int .i64 a0_1):=(blk_cell BK116.out 1).trans rfl
          have hcz41_2:wc.cell? ⟨gb116,2,none⟩ = some (.int .i64 a0_2):=(blk_cell BK116.out 2).trans rfl
          have hcz41_3:wc.cell? ⟨gb116,3,none⟩ = some (.int .i64 a0_3):=(blk_cell BK116.out 3).trans rfl
          have hcz41_4:wc.cell? ⟨gb116,4,none⟩ = some (.int .i64 a0_4):=(blk_cell BK116.out 4).trans rfl
          have hcz41_5:wc.cell? ⟨gb116,5,none⟩ = some (.int .i64 a0_5):=(blk_cell BK116.out 5).trans rfl
          have hcz41_6:wc.cell? ⟨gb116,6,none⟩ = some (.int .i64 a0_6):=(blk_cell BK116.out 6).trans rfl
          have hfz41_0:=blk_frozen BK116.out 0
          have hfz41_1:=blk_frozen BK116.out 1
          have hfz41_2:=blk_frozen BK116.out 2
          have hfz41_3:=blk_frozen BK116.out 3
          have hfz41_4:=blk_frozen BK116.out 4
          have hfz41_5:=blk_frozen BK116.out 5
          have hfz41_6:=blk_frozen BK116.out 6
          go_wp2_with (first|((with_reducible refine gate_callee (f:=35) rfl ?_);refine goesL_ (some 59) rfl rfl Try.func35 (by kernel_rfl) rfl #[.agg #[.int .i64 a0_1,.int .i64 a0_2,.int .i64 a0_3,.int .i64 a0_4,.int .i64 a0_5]] rfl zmb11_4 ?_;(with_reducible refine (inst_Right.calls kj1 a0_1 a0_2 a0_3 a0_4 a0_5 true _ A37.out).mono ?_);rintro e w42 ⟨rfl,hb⟩;refine ⟨_,rfl,?_⟩;have n0_:=Aside0.mk (blk_below (g:=gb116) (o:=.cells #[.int .i64 a0_0,.int .i64 a0_1,.int .i64 a0_2,.int .i64 a0_3,.int .i64 a0_4,.int .i64 a0_5,.int .i64 a0_6] 41 (0,0)) zmb11_2 hb);have n1_:=Aside0.mk (below_step zmb11_3 hb);clear BK116 HB;have BK116:=n0_;have HB:=n1_;clear n0_ n1_;(try clear hb);(try clear hb2);(try clear hk);(try clear hi);have hcz43_0:w42.cell? ⟨gb116,0,none⟩ = some (.int .i64 a0_0):=(blk_cell BK116.out 0).trans rfl;have hcz43_1:w42.cell? ⟨gb116,1,none⟩ = some (.int .i64 a0_1):=(blk_cell BK116.out 1).trans rfl;have hcz43_2:w42.cell? ⟨gb116,2,none⟩ = some (.int .i64 a0_2):=(blk_cell BK116.out 2).trans rfl;have hcz43_3:w42.cell? ⟨gb116,3,none⟩ = some (.int .i64 a0_3):=(blk_cell BK116.out 3).trans rfl;have hcz43_4:w42.cell? ⟨gb116,4,none⟩ = some (.int .i64 a0_4):=(blk_cell BK116.out 4).trans rfl;have hcz43_5:w42.cell? ⟨gb116,5,none⟩ = some (.int .i64 a0_5):=(blk_cell BK116.out 5).trans rfl;have hcz43_6:w42.cell? ⟨gb116,6,none⟩ = some (.int .i64 a0_6):=(blk_cell BK116.out 6).trans rfl;have hfz43_0:=blk_frozen BK116.out 0;have hfz43_1:=blk_frozen BK116.out 1;have hfz43_2:=blk_frozen BK116.out 2;have hfz43_3:=blk_frozen BK116.out 3;have hfz43_4:=blk_frozen BK116.out 4;have hfz43_5:=blk_frozen BK116.out 5;have hfz43_6:=blk_frozen BK116.out 6))
          go_ret
          exact ⟨zmb11_5,zmb11_3⟩
         ·rw [if_neg c40] at H
          have c40b0:(a0_5 == 0) = false:=beq_eq_false_iff_ne.mpr c40
          have c40b1:(a0_5 != 0) = true:=bne_iff_ne.mpr c40
          obtain rfl:=Option.some.inj H
          have hcz44_0:wc.cell? ⟨gb116,0,none⟩ = some (.int .i64 a0_0):=(blk_cell BK116.out 0).trans rfl
          have hcz44_1:wc.cell? ⟨gb116,1,none⟩ = some (.int .i64 a0_1):=(blk_cell BK116.out 1).trans rfl
          have hcz44_2:wc.cell? ⟨gb116,2,none⟩ = some (.int .i64 a0_2):=(blk_cell BK116.out 2).trans rfl
          have hcz44_3:wc.cell? ⟨gb116,3,none⟩ = some (.int .i64 a0_3):=(blk_cell BK116.out 3).trans rfl
          have hcz44_4:wc.cell? ⟨gb116,4,none⟩ = some (.int .i64 a0_4):=(blk_cell BK116.out 4).trans rfl
          have hcz44_5:wc.cell? ⟨gb116,5,none⟩ = some (.int .i64 a0_5):=(blk_cell BK116.out 5).trans rfl
          have hcz44_6:wc.cell? ⟨gb116,6,none⟩ = some (.int .i64 a0_6):=(blk_cell BK116.out 6).trans rfl
          have hfz44_0:=blk_frozen BK116.out 0
          have hfz44_1:=blk_frozen BK116.out 1
          have hfz44_2:=blk_frozen BK116.out 2
          have hfz44_3:=blk_frozen BK116.out 3
          have hfz44_4:=blk_frozen BK116.out 4
          have hfz44_5:=blk_frozen BK116.out 5
          have hfz44_6:=blk_frozen BK116.out 6
          go_wp2_with (first|((with_reducible refine gate_callee (f:=35) rfl ?_);refine goesL_ (some 59) rfl rfl Try.func35 (by kernel_rfl) rfl #[.agg #[.int .i64 a0_1,.int .i64 a0_2,.int .i64 a0_3,.int .i64 a0_4,.int .i64 a0_5]] rfl zmb11_4 ?_;(with_reducible refine (inst_Right.calls kj1 a0_1 a0_2 a0_3 a0_4 a0_5 true _ A37.out).mono ?_);rintro e w45 ⟨rfl,hb⟩;refine ⟨_,rfl,?_⟩;have n0_:=Aside0.mk (blk_below (g:=gb116) (o:=.cells #[.int .i64 a0_0,.int .i64 a0_1,.int .i64 a0_2,.int .i64 a0_3,.int .i64 a0_4,.int .i64 a0_5,.int .i64 a0_6] 41 (0,0)) zmb11_2 hb);have n1_:=Aside0.mk (below_step zmb11_3 hb);clear BK116 HB;have BK116:=n0_;have HB:=n1_;clear n0_ n1_;(try clear hb);(try clear hb2);(try clear hk);(try clear hi);have hcz46_0:w45.cell? ⟨gb116,0,none⟩ = some (.int .i64 a0_0):=(blk_cell BK116.out 0).trans rfl;have hcz46_1:w45.cell? ⟨gb116,1,none⟩ = some (.int .i64 a0_1):=(blk_cell BK116.out 1).trans rfl;have hcz46_2:w45.cell? ⟨gb116,2,none⟩ = some (.int .i64 a0_2):=(blk_cell BK116.out 2).trans rfl;have hcz46_3:w45.cell? ⟨gb116,3,none⟩ = some (.int .i64 a0_3):=(blk_cell BK116.out 3).trans rfl;have hcz46_4:w45.cell? ⟨gb116,4,none⟩ = some (.int .i64 a0_4):=(blk_cell BK116.out 4).trans rfl;have hcz46_5:w45.cell? ⟨gb116,5,none⟩ = some (.int .i64 a0_5):=(blk_cell BK116.out 5).trans rfl;have hcz46_6:w45.cell? ⟨gb116,6,none⟩ = some (.int .i64 a0_6):=(blk_cell BK116.out 6).trans rfl;have hfz46_0:=blk_frozen BK116.out 0;have hfz46_1:=blk_frozen BK116.out 1;have hfz46_2:=blk_frozen BK116.out 2;have hfz46_3:=blk_frozen BK116.out 3;have hfz46_4:=blk_frozen BK116.out 4;have hfz46_5:=blk_frozen BK116.out 5;have hfz46_6:=blk_frozen BK116.out 6))
          go_ret
          exact ⟨zmb11_5,zmb11_3⟩
        ·rw [if_neg c39] at H
         have c39b0:(a0_1 == 3) = false:=beq_eq_false_iff_ne.mpr c39
         have c39b1:(a0_1 != 3) = true:=bne_iff_ne.mpr c39
         obtain rfl:=Option.some.inj H
         have hcz47_0:wc.cell? ⟨gb116,0,none⟩ = some (.int .i64 a0_0):=(blk_cell BK116.out 0).trans rfl
         have hcz47_1:wc.cell? ⟨gb116,1,none⟩ = some (.int .i64 a0_1):=(blk_cell BK116.out 1).trans rfl
         have hcz47_2:wc.cell? ⟨gb116,2,none⟩ = some (.int .i64 a0_2):=(blk_cell BK116.out 2).trans rfl
         have hcz47_3:wc.cell? ⟨gb116,3,none⟩ = some (.int .i64 a0_3):=(blk_cell BK116.out 3).trans rfl
         have hcz47_4:wc.cell? ⟨gb116,4,none⟩ = some (.int .i64 a0_4):=(blk_cell BK116.out 4).trans rfl
         have hcz47_5:wc.cell? ⟨gb116,5,none⟩ = some (.int .i64 a0_5):=(blk_cell BK116.out 5).trans rfl
         have hcz47_6:wc.cell? ⟨gb116,6,none⟩ = some (.int .i64 a0_6):=(blk_cell BK116.out 6).trans rfl
         have hfz47_0:=blk_frozen BK116.out 0
         have hfz47_1:=blk_frozen BK116.out 1
         have hfz47_2:=blk_frozen BK116.out 2
         have hfz47_3:=blk_frozen BK116.out 3
         have hfz47_4:=blk_frozen BK116.out 4
         have hfz47_5:=blk_frozen BK116.out 5
         have hfz47_6:=blk_frozen BK116.out 6
         go_wp2_with (first|((with_reducible refine gate_callee (f:=35) rfl ?_);refine goesL_ (some 59) rfl rfl Try.func35 (by kernel_rfl) rfl #[.agg #[.int .i64 a0_1,.int .i64 a0_2,.int .i64 a0_3,.int .i64 a0_4,.int .i64 a0_5]] rfl zmb11_4 ?_;(with_reducible refine (inst_Right.calls kj1 a0_1 a0_2 a0_3 a0_4 a0_5 true _ A37.out).mono ?_);rintro e w48 ⟨rfl,hb⟩;refine ⟨_,rfl,?_⟩;have n0_:=Aside0.mk (blk_below (g:=gb116) (o:=.cells #[.int .i64 a0_0,.int .i64 a0_1,.int .i64 a0_2,.int .i64 a0_3,.int .i64 a0_4,.int .i64 a0_5,.int .i64 a0_6] 41 (0,0)) zmb11_2 hb);have n1_:=Aside0.mk (below_step zmb11_3 hb);clear BK116 HB;have BK116:=n0_;have HB:=n1_;clear n0_ n1_;(try clear hb);(try clear hb2);(try clear hk);(try clear hi);have hcz49_0:w48.cell? ⟨gb116,0,none⟩ = some (.int .i64 a0_0):=(blk_cell BK116.out 0).trans rfl;have hcz49_1:w48.cell? ⟨gb116,1,none⟩ = some (.int .i64 a0_1):=(blk_cell BK116.out 1).trans rfl;have hcz49_2:w48.cell? ⟨gb116,2,none⟩ = some (.int .i64 a0_2):=(blk_cell BK116.out 2).trans rfl;have hcz49_3:w48.cell? ⟨gb116,3,none⟩ = some (.int .i64 a0_3):=(blk_cell BK116.out 3).trans rfl;have hcz49_4:w48.cell? ⟨gb116,4,none⟩ = some (.int .i64 a0_4):=(blk_cell BK116.out 4).trans rfl;have hcz49_5:w48.cell? ⟨gb116,5,none⟩ = some (.int .i64 a0_5):=(blk_cell BK116.out 5).trans rfl;have hcz49_6:w48.cell? ⟨gb116,6,none⟩ = some (.int .i64 a0_6):=(blk_cell BK116.out 6).trans rfl;have hfz49_0:=blk_frozen BK116.out 0;have hfz49_1:=blk_frozen BK116.out 1;have hfz49_2:=blk_frozen BK116.out 2;have hfz49_3:=blk_frozen BK116.out 3;have hfz49_4:=blk_frozen BK116.out 4;have hfz49_5:=blk_frozen BK116.out 5;have hfz49_6:=blk_frozen BK116.out 6))
         go_ret
         exact ⟨zmb11_5,zmb11_3⟩
       ·replace c38:=Bool.eq_false_iff.mpr c38
        subst c38
        have H1:(some false) = some r:=by rw [if_neg (show ¬ (false = true) by decide)] at H;exact H
        clear H
        have H:=H1
        clear H1
        obtain rfl:=Option.some.inj H
        have hcz50_0:wc.cell? ⟨gb116,0,none⟩ = some (.int .i64 a0_0):=(blk_cell BK116.out 0).trans rfl
        have hcz50_1:wc.cell? ⟨gb116,1,none⟩ = some (.int .i64 a0_1):=(blk_cell BK116.out 1).trans rfl
        have hcz50_2:wc.cell? ⟨gb116,2,none⟩ = some (.int .i64 a0_2):=(blk_cell BK116.out 2).trans rfl
        have hcz50_3:wc.cell? ⟨gb116,3,none⟩ = some (.int .i64 a0_3):=(blk_cell BK116.out 3).trans rfl
        have hcz50_4:wc.cell? ⟨gb116,4,none⟩ = some (.int .i64 a0_4):=(blk_cell BK116.out 4).trans rfl
        have hcz50_5:wc.cell? ⟨gb116,5,none⟩ = some (.int .i64 a0_5):=(blk_cell BK116.out 5).trans rfl
        have hcz50_6:wc.cell? ⟨gb116,6,none⟩ = some (.int .i64 a0_6):=(blk_cell BK116.out 6).trans rfl
        have hfz50_0:=blk_frozen BK116.out 0
        have hfz50_1:=blk_frozen BK116.out 1
        have hfz50_2:=blk_frozen BK116.out 2
        have hfz50_3:=blk_frozen BK116.out 3
        have hfz50_4:=blk_frozen BK116.out 4
        have hfz50_5:=blk_frozen BK116.out 5
        have hfz50_6:=blk_frozen BK116.out 6
        go_wp2_with (first|((with_reducible refine gate_callee (f:=35) rfl ?_);refine goesL_ (some 59) rfl rfl Try.func35 (by kernel_rfl) rfl #[.agg #[.int .i64 a0_1,.int .i64 a0_2,.int .i64 a0_3,.int .i64 a0_4,.int .i64 a0_5]] rfl zmb11_4 ?_;(with_reducible refine (inst_Right.calls kj1 a0_1 a0_2 a0_3 a0_4 a0_5 false _ A37.out).mono ?_);rintro e w51 ⟨rfl,hb⟩;refine ⟨_,rfl,?_⟩;have n0_:=Aside0.mk (blk_below (g:=gb116) (o:=.cells #[.int .i64 a0_0,.int .i64 a0_1,.int .i64 a0_2,.int .i64 a0_3,.int .i64 a0_4,.int .i64 a0_5,.int .i64 a0_6] 41 (0,0)) zmb11_2 hb);have n1_:=Aside0.mk (below_step zmb11_3 hb);clear BK116 HB;have BK116:=n0_;have HB:=n1_;clear n0_ n1_;(try clear hb);(try clear hb2);(try clear hk);(try clear hi)))
        go_ret
        exact ⟨zmb11_5,zmb11_3⟩
      ·rw [if_neg c36] at H
       have c36b0:(a0_0 == 4) = false:=beq_eq_false_iff_ne.mpr c36
       have c36b1:(a0_0 != 4) = true:=bne_iff_ne.mpr c36
       by_cases c52:a0_0 = 5
       ·rw [if_pos c52] at H
        have c52b0:(a0_0 == 5) = true:=beq_iff_eq.mpr c52
        have c52b1:(a0_0 != 5) = false:=bne_eq_false_iff_eq.mpr c52
        clear c52
        by_cases c53:a0_2 ≥ 0
        ·rw [if_pos c53] at H
         have c53b0:decide (0≤a0_2) = true:=decide_eq_true c53
         clear c53
         by_cases c54:a0_2 < 32
         ·rw [if_pos c54] at H
          have c54b0:decide (a0_2 < 32) = true:=decide_eq_true c54
          clear c54
          by_cases c55:(a0_1 == 0 && (a0_3 == 0 && (a0_4 == 0))) = true
          ·rw [if_pos c55] at H
           have c55b0:(a0_1 == 0 && (a0_3 == 0 && (a0_4 == 0))) = true:=c55
           (try (have c55b1:decide (a0_1 = 0 && (a0_3 == 0 && (a0_4 == 0))) = true:=by simpa using c55))
           (try (have c55b2:(a0_1 == 0 && (a0_3 == 0 && (a0_4 == 0))) = true:=by simpa using c55))
           clear c55
           by_cases c56:a0_5 ≥ (-2147483648)
           ·rw [if_pos c56] at H
            have c56b0:decide ((-2147483648)≤a0_5) = true:=decide_eq_true c56
            clear c56
            by_cases c57:a0_5 < 4294967296
            ·rw [if_pos c57] at H
             have c57b0:decide (a0_5 < 4294967296) = true:=decide_eq_true c57
             clear c57
             obtain rfl:=Option.some.inj H
             have hcz58_0:wc.cell? ⟨gb116,0,none⟩ = some (.int .i64 a0_0):=(blk_cell BK116.out 0).trans rfl
             have hcz58_1:wc.cell? ⟨gb116,1,none⟩ = some (.int .i64 a0_1):=(blk_cell BK116.out 1).trans rfl
             have hcz58_2:wc.cell? ⟨gb116,2,none⟩ = some (.int .i64 a0_2):=(blk_cell BK116.out 2).trans rfl
             have hcz58_3:wc.cell? ⟨gb116,3,none⟩ = some (.int .i64 a0_3):=(blk_cell BK116.out 3).trans rfl
             have hcz58_4:wc.cell? ⟨gb116,4,none⟩ = some (.int .i64 a0_4):=(blk_cell BK116.out 4).trans rfl
             have hcz58_5:wc.cell? ⟨gb116,5,none⟩ = some (.int .i64 a0_5):=(blk_cell BK116.out 5).trans rfl
             have hcz58_6:wc.cell? ⟨gb116,6,none⟩ = some (.int .i64 a0_6):=(blk_cell BK116.out 6).trans rfl
             have hfz58_0:=blk_frozen BK116.out 0
             have hfz58_1:=blk_frozen BK116.out 1
             have hfz58_2:=blk_frozen BK116.out 2
             have hfz58_3:=blk_frozen BK116.out 3
             have hfz58_4:=blk_frozen BK116.out 4
             have hfz58_5:=blk_frozen BK116.out 5
             have hfz58_6:=blk_frozen BK116.out 6
             go_wp2_with (first|((with_reducible refine gate_dst (N:=4) rfl ?_);refine box_event ?hg (N:=4) ?hd (cs:=#[.int .i64 0,.int .i64 0,.int .i64 0,.int .i64 0,.int .i64 0]) (t:=39) ?hr ?_;(case hd=>rfl);(case hg=>rfl);(case hr=>first|(go_simp;done)|(go_simp;rfl));intro gb121 hg w59 hbox hb;have n0_:=Aside0.mk (blk_below (g:=gb116) (o:=.cells #[.int .i64 a0_0,.int .i64 a0_1,.int .i64 a0_2,.int .i64 a0_3,.int .i64 a0_4,.int .i64 a0_5,.int .i64 a0_6] 41 (0,0)) zmb11_2 hb);have n1_:=Aside0.mk (below_step zmb11_3 hb);have n2_:=Aside0.mk (hbox);have n3_:=Aside0.mk ((by rw [hg];exact (below_size zmb11_3):w.heap.size≤gb121));have n4_:=Aside0.mk ((by rw [hg];exact (below_size zmb11_3):w.heap.size≤gb121));have n5_:=Aside0.mk ((by rw [hg];exact Nat.ne_of_lt (blk_lt (g:=gb116) (o:=.cells #[.int .i64 a0_0,.int .i64 a0_1,.int .i64 a0_2,.int .i64 a0_3,.int .i64 a0_4,.int .i64 a0_5,.int .i64 a0_6] 41 (0,0)) zmb11_2):gb116≠gb121));have n6_:=Aside0.mk ((by rw [hg];exact Nat.ne_of_gt (blk_lt (g:=gb116) (o:=.cells #[.int .i64 a0_0,.int .i64 a0_1,.int .i64 a0_2,.int .i64 a0_3,.int .i64 a0_4,.int .i64 a0_5,.int .i64 a0_6] 41 (0,0)) zmb11_2):gb121≠gb116));clear BK116 HB;have BK116:=n0_;have HB:=n1_;have BK121:=n2_;have GW121:=n3_;have GE121:=n4_;have NB116_121:=n5_;have NB121_116:=n6_;clear n0_ n1_ n2_ n3_ n4_ n5_ n6_;clear hb hbox hg;have hnb60:=NB121_116.out;have hnc60:=NB116_121.out;have hcz61_0:w59.cell? ⟨gb121,0,none⟩ = some (.int .i64 0):=(blk_cell BK121.out 0).trans rfl;have hcz61_1:w59.cell? ⟨gb121,1,none⟩ = some (.int .i64 0):=(blk_cell BK121.out 1).trans rfl;have hcz61_2:w59.cell? ⟨gb121,2,none⟩ = some (.int .i64 0):=(blk_cell BK121.out 2).trans rfl;have hcz61_3:w59.cell? ⟨gb121,3,none⟩ = some (.int .i64 0):=(blk_cell BK121.out 3).trans rfl;have hcz61_4:w59.cell? ⟨gb121,4,none⟩ = some (.int .i64 0):=(blk_cell BK121.out 4).trans rfl;have hfz61_0:=blk_frozen BK121.out 0;have hfz61_1:=blk_frozen BK121.out 1;have hfz61_2:=blk_frozen BK121.out 2;have hfz61_3:=blk_frozen BK121.out 3;have hfz61_4:=blk_frozen BK121.out 4;have hcz62_0:w59.cell? ⟨gb116,0,none⟩ = some (.int .i64 a0_0):=(blk_cell BK116.out 0).trans rfl;have hcz62_1:w59.cell? ⟨gb116,1,none⟩ = some (.int .i64 a0_1):=(blk_cell BK116.out 1).trans rfl;have hcz62_2:w59.cell? ⟨gb116,2,none⟩ = some (.int .i64 a0_2):=(blk_cell BK116.out 2).trans rfl;have hcz62_3:w59.cell? ⟨gb116,3,none⟩ = some (.int .i64 a0_3):=(blk_cell BK116.out 3).trans rfl;have hcz62_4:w59.cell? ⟨gb116,4,none⟩ = some (.int .i64 a0_4):=(blk_cell BK116.out 4).trans rfl;have hcz62_5:w59.cell? ⟨gb116,5,none⟩ = some (.int .i64 a0_5):=(blk_cell BK116.out 5).trans rfl;have hcz62_6:w59.cell? ⟨gb116,6,none⟩ = some (.int .i64 a0_6):=(blk_cell BK116.out 6).trans rfl;have hfz62_0:=blk_frozen BK116.out 0;have hfz62_1:=blk_frozen BK116.out 1;have hfz62_2:=blk_frozen BK116.out 2;have hfz62_3:=blk_frozen BK116.out 3;have hfz62_4:=blk_frozen BK116.out 4;have hfz62_5:=blk_frozen BK116.out 5;have hfz62_6:=blk_frozen BK116.out 6))
             go_ret
             exact ⟨zmb11_5,zmb11_6⟩
            ·rw [if_neg c57] at H
             have c57b0:decide (a0_5 < 4294967296) = false:=decide_eq_false c57
             clear c57
             obtain rfl:=Option.some.inj H
             have hcz63_0:wc.cell? ⟨gb116,0,none⟩ = some (.int .i64 a0_0):=(blk_cell BK116.out 0).trans rfl
             have hcz63_1:wc.cell? ⟨gb116,1,none⟩ = some (.int .i64 a0_1):=(blk_cell BK116.out 1).trans rfl
             have hcz63_2:wc.cell? ⟨gb116,2,none⟩ = some (.int .i64 a0_2):=(blk_cell BK116.out 2).trans rfl
             have hcz63_3:wc.cell? ⟨gb116,3,none⟩ = some (.int .i64 a0_3):=(blk_cell BK116.out 3).trans rfl
             have hcz63_4:wc.cell? ⟨gb116,4,none⟩ = some (.int .i64 a0_4):=(blk_cell BK116.out 4).trans rfl
             have hcz63_5:wc.cell? ⟨gb116,5,none⟩ = some (.int .i64 a0_5):=(blk_cell BK116.out 5).trans rfl
             have hcz63_6:wc.cell? ⟨gb116,6,none⟩ = some (.int .i64 a0_6):=(blk_cell BK116.out 6).trans rfl
             have hfz63_0:=blk_frozen BK116.out 0
             have hfz63_1:=blk_frozen BK116.out 1
             have hfz63_2:=blk_frozen BK116.out 2
             have hfz63_3:=blk_frozen BK116.out 3
             have hfz63_4:=blk_frozen BK116.out 4
             have hfz63_5:=blk_frozen BK116.out 5
             have hfz63_6:=blk_frozen BK116.out 6
             go_wp2_with (first|((with_reducible refine gate_dst (N:=4) rfl ?_);refine box_event ?hg (N:=4) ?hd (cs:=#[.int .i64 0,.int .i64 0,.int .i64 0,.int .i64 0,.int .i64 0]) (t:=39) ?hr ?_;(case hd=>rfl);(case hg=>rfl);(case hr=>first|(go_simp;done)|(go_simp;rfl));intro gb121 hg w64 hbox hb;have n0_:=Aside0.mk (blk_below (g:=gb116) (o:=.cells #[.int .i64 a0_0,.int .i64 a0_1,.int .i64 a0_2,.int .i64 a0_3,.int .i64 a0_4,.int .i64 a0_5,.int .i64 a0_6] 41 (0,0)) zmb11_2 hb);have n1_:=Aside0.mk (below_step zmb11_3 hb);have n2_:=Aside0.mk (hbox);have n3_:=Aside0.mk ((by rw [hg];exact (below_size zmb11_3):w.heap.size≤gb121));have n4_:=Aside0.mk ((by rw [hg];exact (below_size zmb11_3):w.heap.size≤gb121));have n5_:=Aside0.mk ((by rw [hg];exact Nat.ne_of_lt (blk_lt (g:=gb116) (o:=.cells #[.int .i64 a0_0,.int .i64 a0_1,.int .i64 a0_2,.int .i64 a0_3,.int .i64 a0_4,.int .i64 a0_5,.int .i64 a0_6] 41 (0,0)) zmb11_2):gb116≠gb121));have n6_:=Aside0.mk ((by rw [hg];exact Nat.ne_of_gt (blk_lt (g:=gb116) (o:=.cells #[.int .i64 a0_0,.int .i64 a0_1,.int .i64 a0_2,.int .i64 a0_3,.int .i64 a0_4,.int .i64 a0_5,.int .i64 a0_6] 41 (0,0)) zmb11_2):gb121≠gb116));clear BK116 HB;have BK116:=n0_;have HB:=n1_;have BK121:=n2_;have GW121:=n3_;have GE121:=n4_;have NB116_121:=n5_;have NB121_116:=n6_;clear n0_ n1_ n2_ n3_ n4_ n5_ n6_;clear hb hbox hg;have hnb65:=NB121_116.out;have hnc65:=NB116_121.out;have hcz66_0:w64.cell? ⟨gb121,0,none⟩ = some (.int .i64 0):=(blk_cell BK121.out 0).trans rfl;have hcz66_1:w64.cell? ⟨gb121,1,none⟩ = some (.int .i64 0):=(blk_cell BK121.out 1).trans rfl;have hcz66_2:w64.cell? ⟨gb121,2,none⟩ = some (.int .i64 0):=(blk_cell BK121.out 2).trans rfl;have hcz66_3:w64.cell? ⟨gb121,3,none⟩ = some (.int .i64 0):=(blk_cell BK121.out 3).trans rfl;have hcz66_4:w64.cell? ⟨gb121,4,none⟩ = some (.int .i64 0):=(blk_cell BK121.out 4).trans rfl;have hfz66_0:=blk_frozen BK121.out 0;have hfz66_1:=blk_frozen BK121.out 1;have hfz66_2:=blk_frozen BK121.out 2;have hfz66_3:=blk_frozen BK121.out 3;have hfz66_4:=blk_frozen BK121.out 4))
             go_ret
             exact ⟨zmb11_5,zmb11_6⟩
           ·rw [if_neg c56] at H
            have c56b0:decide ((-2147483648)≤a0_5) = false:=decide_eq_false c56
            clear c56
            obtain rfl:=Option.some.inj H
            have hcz67_0:wc.cell? ⟨gb116,0,none⟩ = some (.int .i64 a0_0):=(blk_cell BK116.out 0).trans rfl
            have hcz67_1:wc.cell? ⟨gb116,1,none⟩ = some (.int .i64 a0_1):=(blk_cell BK116.out 1).trans rfl
            have hcz67_2:wc.cell? ⟨gb116,2,none⟩ = some (.int .i64 a0_2):=(blk_cell BK116.out 2).trans rfl
            have hcz67_3:wc.cell? ⟨gb116,3,none⟩ = some (.int .i64 a0_3):=(blk_cell BK116.out 3).trans rfl
            have hcz67_4:wc.cell? ⟨gb116,4,none⟩ = some (.int .i64 a0_4):=(blk_cell BK116.out 4).trans rfl
            have hcz67_5:wc.cell? ⟨gb116,5,none⟩ = some (.int .i64 a0_5):=(blk_cell BK116.out 5).trans rfl
            have hcz67_6:wc.cell? ⟨gb116,6,none⟩ = some (.int .i64 a0_6):=(blk_cell BK116.out 6).trans rfl
            have hfz67_0:=blk_frozen BK116.out 0
            have hfz67_1:=blk_frozen BK116.out 1
            have hfz67_2:=blk_frozen BK116.out 2
            have hfz67_3:=blk_frozen BK116.out 3
            have hfz67_4:=blk_frozen BK116.out 4
            have hfz67_5:=blk_frozen BK116.out 5
            have hfz67_6:=blk_frozen BK116.out 6
            go_wp2_with (first|((with_reducible refine gate_dst (N:=4) rfl ?_);refine box_event ?hg (N:=4) ?hd (cs:=#[.int .i64 0,.int .i64 0,.int .i64 0,.int .i64 0,.int .i64 0]) (t:=39) ?hr ?_;(case hd=>rfl);(case hg=>rfl);(case hr=>first|(go_simp;done)|(go_simp;rfl));intro gb121 hg w68 hbox hb;have n0_:=Aside0.mk (blk_below (g:=gb116) (o:=.cells #[.int .i64 a0_0,.int .i64 a0_1,.int .i64 a0_2,.int .i64 a0_3,.int .i64 a0_4,.int .i64 a0_5,.int .i64 a0_6] 41 (0,0)) zmb11_2 hb);have n1_:=Aside0.mk (below_step zmb11_3 hb);have n2_:=Aside0.mk (hbox);have n3_:=Aside0.mk ((by rw [hg];exact (below_size zmb11_3):w.heap.size≤gb121));have n4_:=Aside0.mk ((by rw [hg];exact (below_size zmb11_3):w.heap.size≤gb121));have n5_:=Aside0.mk ((by rw [hg];exact Nat.ne_of_lt (blk_lt (g:=gb116) (o:=.cells #[.int .i64 a0_0,.int .i64 a0_1,.int .i64 a0_2,.int .i64 a0_3,.int .i64 a0_4,.int .i64 a0_5,.int .i64 a0_6] 41 (0,0)) zmb11_2):gb116≠gb121));have n6_:=Aside0.mk ((by rw [hg];exact Nat.ne_of_gt (blk_lt (g:=gb116) (o:=.cells #[.int .i64 a0_0,.int .i64 a0_1,.int .i64 a0_2,.int .i64 a0_3,.int .i64 a0_4,.int .i64 a0_5,.int .i64 a0_6] 41 (0,0)) zmb11_2):gb121≠gb116));clear BK116 HB;have BK116:=n0_;have HB:=n1_;have BK121:=n2_;have GW121:=n3_;have GE121:=n4_;have NB116_121:=n5_;have NB121_116:=n6_;clear n0_ n1_ n2_ n3_ n4_ n5_ n6_;clear hb hbox hg;have hnb69:=NB121_116.out;have hnc69:=NB116_121.out;have hcz70_0:w68.cell? ⟨gb121,0,none⟩ = some (.int .i64 0):=(blk_cell BK121.out 0).trans rfl;have hcz70_1:w68.cell? ⟨gb121,1,none⟩ = some (.int .i64 0):=(blk_cell BK121.out 1).trans rfl;have hcz70_2:w68.cell? ⟨gb121,2,none⟩ = some (.int .i64 0):=(blk_cell BK121.out 2).trans rfl;have hcz70_3:w68.cell? ⟨gb121,3,none⟩ = some (.int .i64 0):=(blk_cell BK121.out 3).trans rfl;have hcz70_4:w68.cell? ⟨gb121,4,none⟩ = some (.int .i64 0):=(blk_cell BK121.out 4).trans rfl;have hfz70_0:=blk_frozen BK121.out 0;have hfz70_1:=blk_frozen BK121.out 1;have hfz70_2:=blk_frozen BK121.out 2;have hfz70_3:=blk_frozen BK121.out 3;have hfz70_4:=blk_frozen BK121.out 4))
            go_ret
            exact ⟨zmb11_5,zmb11_6⟩
          ·rw [if_neg c55] at H
           have c55b0:(a0_1 == 0 && (a0_3 == 0 && (a0_4 == 0))) = false:=by simpa using c55
           (try (have c55b1:decide (a0_1 = 0 && (a0_3 == 0 && (a0_4 == 0))) = false:=by simpa using c55))
           (try (have c55b2:(a0_1 == 0 && (a0_3 == 0 && (a0_4 == 0))) = false:=by simpa using c55))
           (try (have c55b3:¬ (a0_1 = 0 && (a0_3 == 0 && (a0_4 == 0))):=by simpa using c55))
           clear c55
           obtain rfl:=Option.some.inj H
           have hcz71_0:wc.cell? ⟨gb116,0,none⟩ = some (.int .i64 a0_0):=(blk_cell BK116.out 0).trans rfl
           have hcz71_1:wc.cell? ⟨gb116,1,none⟩ = some (.int .i64 a0_1):=(blk_cell BK116.out 1).trans rfl
           have hcz71_2:wc.cell? ⟨gb116,2,none⟩ = some (.int .i64 a0_2):=(blk_cell BK116.out 2).trans rfl
           have hcz71_3:wc.cell? ⟨gb116,3,none⟩ = some (.int .i64 a0_3):=(blk_cell BK116.out 3).trans rfl
           have hcz71_4:wc.cell? ⟨gb116,4,none⟩ = some (.int .i64 a0_4):=(blk_cell BK116.out 4).trans rfl
           have hcz71_5:wc.cell? ⟨gb116,5,none⟩ = some (.int .i64 a0_5):=(blk_cell BK116.out 5).trans rfl
           have hcz71_6:wc.cell? ⟨gb116,6,none⟩ = some (.int .i64 a0_6):=(blk_cell BK116.out 6).trans rfl
           have hfz71_0:=blk_frozen BK116.out 0
           have hfz71_1:=blk_frozen BK116.out 1
           have hfz71_2:=blk_frozen BK116.out 2
           have hfz71_3:=blk_frozen BK116.out 3
           have hfz71_4:=blk_frozen BK116.out 4
           have hfz71_5:=blk_frozen BK116.out 5
           have hfz71_6:=blk_frozen BK116.out 6
           go_wp2_with (first|((with_reducible refine gate_dst (N:=4) rfl ?_);refine box_event ?hg (N:=4) ?hd (cs:=#[.int .i64 0,.int .i64 0,.int .i64 0,.int .i64 0,.int .i64 0]) (t:=39) ?hr ?_;(case hd=>rfl);(case hg=>rfl);(case hr=>first|(go_simp;done)|(go_simp;rfl));intro gb121 hg w72 hbox hb;have n0_:=Aside0.mk (blk_below (g:=gb116) (o:=.cells #[.int .i64 a0_0,.int .i64 a0_1,.int .i64 a0_2,.int .i64 a0_3,.int .i64 a0_4,.int .i64 a0_5,.int .i64 a0_6] 41 (0,0)) zmb11_2 hb);have n1_:=Aside0.mk (below_step zmb11_3 hb);have n2_:=Aside0.mk (hbox);have n3_:=Aside0.mk ((by rw [hg];exact (below_size zmb11_3):w.heap.size≤gb121));have n4_:=Aside0.mk ((by rw [hg];exact (below_size zmb11_3):w.heap.size≤gb121));have n5_:=Aside0.mk ((by rw [hg];exact Nat.ne_of_lt (blk_lt (g:=gb116) (o:=.cells #[.int .i64 a0_0,.int .i64 a0_1,.int .i64 a0_2,.int .i64 a0_3,.int .i64 a0_4,.int .i64 a0_5,.int .i64 a0_6] 41 (0,0)) zmb11_2):gb116≠gb121));have n6_:=Aside0.mk ((by rw [hg];exact Nat.ne_of_gt (blk_lt (g:=gb116) (o:=.cells #[.int .i64 a0_0,.int .i64 a0_1,.int .i64 a0_2,.int .i64 a0_3,.int .i64 a0_4,.int .i64 a0_5,.int .i64 a0_6] 41 (0,0)) zmb11_2):gb121≠gb116));clear BK116 HB;have BK116:=n0_;have HB:=n1_;have BK121:=n2_;have GW121:=n3_;have GE121:=n4_;have NB116_121:=n5_;have NB121_116:=n6_;clear n0_ n1_ n2_ n3_ n4_ n5_ n6_;clear hb hbox hg;have hnb73:=NB121_116.out;have hnc73:=NB116_121.out;have hcz74_0:w72.cell? ⟨gb121,0,none⟩ = some (.int .i64 0):=(blk_cell BK121.out 0).trans rfl;have hcz74_1:w72.cell? ⟨gb121,1,none⟩ = some (.int .i64 0):=(blk_cell BK121.out 1).trans rfl;have hcz74_2:w72.cell? ⟨gb121,2,none⟩ = some (.int .i64 0):=(blk_cell BK121.out 2).trans rfl;have hcz74_3:w72.cell? ⟨gb121,3,none⟩ = some (.int .i64 0):=(blk_cell BK121.out 3).trans rfl;have hcz74_4:w72.cell? ⟨gb121,4,none⟩ = some (.int .i64 0):=(blk_cell BK121.out 4).trans rfl;have hfz74_0:=blk_frozen BK121.out 0;have hfz74_1:=blk_frozen BK121.out 1;have hfz74_2:=blk_frozen BK121.out 2;have hfz74_3:=blk_frozen BK121.out 3;have hfz74_4:=blk_frozen BK121.out 4))
           go_ret
           exact ⟨zmb11_5,zmb11_6⟩
         ·rw [if_neg c54] at H
          have c54b0:decide (a0_2 < 32) = false:=decide_eq_false c54
          clear c54
          obtain rfl:=Option.some.inj H
          have hcz75_0:wc.cell? ⟨gb116,0,none⟩ = some (.int .i64 a0_0):=(blk_cell BK116.out 0).trans rfl
          have hcz75_1:wc.cell? ⟨gb116,1,none⟩ = some (.int .i64 a0_1):=(blk_cell BK116.out 1).trans rfl
          have hcz75_2:wc.cell? ⟨gb116,2,none⟩ = some (.int .i64 a0_2):=(blk_cell BK116.out 2).trans rfl
          have hcz75_3:wc.cell? ⟨gb116,3,none⟩ = some (.int .i64 a0_3):=(blk_cell BK116.out 3).trans rfl
          have hcz75_4:wc.cell? ⟨gb116,4,none⟩ = some (.int .i64 a0_4):=(blk_cell BK116.out 4).trans rfl
          have hcz75_5:wc.cell? ⟨gb116,5,none⟩ = some (.int .i64 a0_5):=(blk_cell BK116.out 5).trans rfl
          have hcz75_6:wc.cell? ⟨gb116,6,none⟩ = some (.int .i64 a0_6):=(blk_cell BK116.out 6).trans rfl
          have hfz75_0:=blk_frozen BK116.out 0
          have hfz75_1:=blk_frozen BK116.out 1
          have hfz75_2:=blk_frozen BK116.out 2
          have hfz75_3:=blk_frozen BK116.out 3
          have hfz75_4:=blk_frozen BK116.out 4
          have hfz75_5:=blk_frozen BK116.out 5
          have hfz75_6:=blk_frozen BK116.out 6
          go_wp2_with (first|((with_reducible refine gate_dst (N:=4) rfl ?_);refine box_event ?hg (N:=4) ?hd (cs:=#[.int .i64 0,.int .i64 0,.int .i64 0,.int .i64 0,.int .i64 0]) (t:=39) ?hr ?_;(case hd=>rfl);(case hg=>rfl);(case hr=>first|(go_simp;done)|(go_simp;rfl));intro gb121 hg w76 hbox hb;have n0_:=Aside0.mk (blk_below (g:=gb116) (o:=.cells #[.int .i64 a0_0,.int .i64 a0_1,.int .i64 a0_2,.int .i64 a0_3,.int .i64 a0_4,.int .i64 a0_5,.int .i64 a0_6] 41 (0,0)) zmb11_2 hb);have n1_:=Aside0.mk (below_step zmb11_3 hb);have n2_:=Aside0.mk (hbox);have n3_:=Aside0.mk ((by rw [hg];exact (below_size zmb11_3):w.heap.size≤gb121));have n4_:=Aside0.mk ((by rw [hg];exact (below_size zmb11_3):w.heap.size≤gb121));have n5_:=Aside0.mk ((by rw [hg];exact Nat.ne_of_lt (blk_lt (g:=gb116) (o:=.cells #[.int .i64 a0_0,.int .i64 a0_1,.int .i64 a0_2,.int .i64 a0_3,.int .i64 a0_4,.int .i64 a0_5,.int .i64 a0_6] 41 (0,0)) zmb11_2):gb116≠gb121));have n6_:=Aside0.mk ((by rw [hg];exact Nat.ne_of_gt (blk_lt (g:=gb116) (o:=.cells #[.int .i64 a0_0,.int .i64 a0_1,.int .i64 a0_2,.int .i64 a0_3,.int .i64 a0_4,.int .i64 a0_5,.int .i64 a0_6] 41 (0,0)) zmb11_2):gb121≠gb116));clear BK116 HB;have BK116:=n0_;have HB:=n1_;have BK121:=n2_;have GW121:=n3_;have GE121:=n4_;have NB116_121:=n5_;have NB121_116:=n6_;clear n0_ n1_ n2_ n3_ n4_ n5_ n6_;clear hb hbox hg;have hnb77:=NB121_116.out;have hnc77:=NB116_121.out;have hcz78_0:w76.cell? ⟨gb121,0,none⟩ = some (.int .i64 0):=(blk_cell BK121.out 0).trans rfl;have hcz78_1:w76.cell? ⟨gb121,1,none⟩ = some (.int .i64 0):=(blk_cell BK121.out 1).trans rfl;have hcz78_2:w76.cell? ⟨gb121,2,none⟩ = some (.int .i64 0):=(blk_cell BK121.out 2).trans rfl;have hcz78_3:w76.cell? ⟨gb121,3,none⟩ = some (.int .i64 0):=(blk_cell BK121.out 3).trans rfl;have hcz78_4:w76.cell? ⟨gb121,4,none⟩ = some (.int .i64 0):=(blk_cell BK121.out 4).trans rfl;have hfz78_0:=blk_frozen BK121.out 0;have hfz78_1:=blk_frozen BK121.out 1;have hfz78_2:=blk_frozen BK121.out 2;have hfz78_3:=blk_frozen BK121.out 3;have hfz78_4:=blk_frozen BK121.out 4))
          go_ret
          exact ⟨zmb11_5,zmb11_6⟩
        ·rw [if_neg c53] at H
         have c53b0:decide (0≤a0_2) = false:=decide_eq_false c53
         clear c53
         obtain rfl:=Option.some.inj H
         have hcz79_0:wc.cell? ⟨gb116,0,none⟩ = some (.int .i64 a0_0):=(blk_cell BK116.out 0).trans rfl
         have hcz79_1:wc.cell? ⟨gb116,1,none⟩ = some (.int .i64 a0_1):=(blk_cell BK116.out 1).trans rfl
         have hcz79_2:wc.cell? ⟨gb116,2,none⟩ = some (.int .i64 a0_2):=(blk_cell BK116.out 2).trans rfl
         have hcz79_3:wc.cell? ⟨gb116,3,none⟩ = some (.int .i64 a0_3):=(blk_cell BK116.out 3).trans rfl
         have hcz79_4:wc.cell? ⟨gb116,4,none⟩ = some (.int .i64 a0_4):=(blk_cell BK116.out 4).trans rfl
         have hcz79_5:wc.cell? ⟨gb116,5,none⟩ = some (.int .i64 a0_5):=(blk_cell BK116.out 5).trans rfl
         have hcz79_6:wc.cell? ⟨gb116,6,none⟩ = some (.int .i64 a0_6):=(blk_cell BK116.out 6).trans rfl
         have hfz79_0:=blk_frozen BK116.out 0
         have hfz79_1:=blk_frozen BK116.out 1
         have hfz79_2:=blk_frozen BK116.out 2
         have hfz79_3:=blk_frozen BK116.out 3
         have hfz79_4:=blk_frozen BK116.out 4
         have hfz79_5:=blk_frozen BK116.out 5
         have hfz79_6:=blk_frozen BK116.out 6
         go_wp2_with (first|((with_reducible refine gate_dst (N:=4) rfl ?_);refine box_event ?hg (N:=4) ?hd (cs:=#[.int .i64 0,.int .i64 0,.int .i64 0,.int .i64 0,.int .i64 0]) (t:=39) ?hr ?_;(case hd=>rfl);(case hg=>rfl);(case hr=>first|(go_simp;done)|(go_simp;rfl));intro gb121 hg w80 hbox hb;have n0_:=Aside0.mk (blk_below (g:=gb116) (o:=.cells #[.int .i64 a0_0,.int .i64 a0_1,.int .i64 a0_2,.int .i64 a0_3,.int .i64 a0_4,.int .i64 a0_5,.int .i64 a0_6] 41 (0,0)) zmb11_2 hb);have n1_:=Aside0.mk (below_step zmb11_3 hb);have n2_:=Aside0.mk (hbox);have n3_:=Aside0.mk ((by rw [hg];exact (below_size zmb11_3):w.heap.size≤gb121));have n4_:=Aside0.mk ((by rw [hg];exact (below_size zmb11_3):w.heap.size≤gb121));have n5_:=Aside0.mk ((by rw [hg];exact Nat.ne_of_lt (blk_lt (g:=gb116) (o:=.cells #[.int .i64 a0_0,.int .i64 a0_1,.int .i64 a0_2,.int .i64 a0_3,.int .i64 a0_4,.int .i64 a0_5,.int .i64 a0_6] 41 (0,0)) zmb11_2):gb116≠gb121));have n6_:=Aside0.mk ((by rw [hg];exact Nat.ne_of_gt (blk_lt (g:=gb116) (o:=.cells #[.int .i64 a0_0,.int .i64 a0_1,.int .i64 a0_2,.int .i64 a0_3,.int .i64 a0_4,.int .i64 a0_5,.int .i64 a0_6] 41 (0,0)) zmb11_2):gb121≠gb116));clear BK116 HB;have BK116:=n0_;have HB:=n1_;have BK121:=n2_;have GW121:=n3_;have GE121:=n4_;have NB116_121:=n5_;have NB121_116:=n6_;clear n0_ n1_ n2_ n3_ n4_ n5_ n6_;clear hb hbox hg;have hnb81:=NB121_116.out;have hnc81:=NB116_121.out;have hcz82_0:w80.cell? ⟨gb121,0,none⟩ = some (.int .i64 0):=(blk_cell BK121.out 0).trans rfl;have hcz82_1:w80.cell? ⟨gb121,1,none⟩ = some (.int .i64 0):=(blk_cell BK121.out 1).trans rfl;have hcz82_2:w80.cell? ⟨gb121,2,none⟩ = some (.int .i64 0):=(blk_cell BK121.out 2).trans rfl;have hcz82_3:w80.cell? ⟨gb121,3,none⟩ = some (.int .i64 0):=(blk_cell BK121.out 3).trans rfl;have hcz82_4:w80.cell? ⟨gb121,4,none⟩ = some (.int .i64 0):=(blk_cell BK121.out 4).trans rfl;have hfz82_0:=blk_frozen BK121.out 0;have hfz82_1:=blk_frozen BK121.out 1;have hfz82_2:=blk_frozen BK121.out 2;have hfz82_3:=blk_frozen BK121.out 3;have hfz82_4:=blk_frozen BK121.out 4))
         go_ret
         exact ⟨zmb11_5,zmb11_6⟩
       ·rw [if_neg c52] at H
        have c52b0:(a0_0 == 5) = false:=beq_eq_false_iff_ne.mpr c52
        have c52b1:(a0_0 != 5) = true:=bne_iff_ne.mpr c52
        obtain rfl:=Option.some.inj H
        have hcz83_0:wc.cell? ⟨gb116,0,none⟩ = some (.int .i64 a0_0):=(blk_cell BK116.out 0).trans rfl
        have hcz83_1:wc.cell? ⟨gb116,1,none⟩ = some (.int .i64 a0_1):=(blk_cell BK116.out 1).trans rfl
        have hcz83_2:wc.cell? ⟨gb116,2,none⟩ = some (.int .i64 a0_2):=(blk_cell BK116.out 2).trans rfl
        have hcz83_3:wc.cell? ⟨gb116,3,none⟩ = some (.int .i64 a0_3):=(blk_cell BK116.out 3).trans rfl
        have hcz83_4:wc.cell? ⟨gb116,4,none⟩ = some (.int .i64 a0_4):=(blk_cell BK116.out 4).trans rfl
        have hcz83_5:wc.cell? ⟨gb116,5,none⟩ = some (.int .i64 a0_5):=(blk_cell BK116.out 5).trans rfl
        have hcz83_6:wc.cell? ⟨gb116,6,none⟩ = some (.int .i64 a0_6):=(blk_cell BK116.out 6).trans rfl
        have hfz83_0:=blk_frozen BK116.out 0
        have hfz83_1:=blk_frozen BK116.out 1
        have hfz83_2:=blk_frozen BK116.out 2
        have hfz83_3:=blk_frozen BK116.out 3
        have hfz83_4:=blk_frozen BK116.out 4
        have hfz83_5:=blk_frozen BK116.out 5
        have hfz83_6:=blk_frozen BK116.out 6
        go_wp2
        go_ret
        exact ⟨zmb11_5,zmb11_3⟩
end Go.Proofs.Ytecbponmpinnoaa.P
end
section
namespace Go.Proofs.Ytecbponmpinnoaa.P
open Go.RowKit Go.Proofs.YtecbponmpinnoaaW.PrintWords Go.Proofs.YtecbponmpinnoaaW.PrintLast Go.Proofs.YtecbponmpinnoaaW.PrintMore
attribute [local go_sem] max2_int min2_int max_two min_two max_three min_three max_four min_four   
set_option linter.unusedVariables false
set_option linter.unusedSimpArgs false
set_option linter.unusedVariables false
set_option linter.unusedSimpArgs false
def asm_Assemble.l0:Nat→List S41→Nat→Option Bool
 | 0,_,_=>none
 | k + 1,xs,i=>if i < xs.length then
   (asm_Right.f k (rd_T41 xs i).f0 (rd_T41 xs i).f1.f0 (rd_T41 xs i).f1.f1 (rd_T41 xs i).f1.f2 (rd_T41 xs i).f1.f3 (rd_T41 xs i).f1.f4 (rd_T41 xs i).f2).bind fun b=>if b = true then asm_Assemble.l0 k xs (i + 1) else some false
  else some true
def asm_Assemble.l2:Nat→List S39→List Int→Nat→Option (List Int)
 | 0,_,_,_=>none
 | k + 1,own,out,j=>if j < own.length then
   (if out.length < 1000000000 then (inst_Encode.f k (rd_T39 own j).f0 (rd_T39 own j).f1 (rd_T39 own j).f2 (rd_T39 own j).f3 (rd_T39 own j).f4).bind fun r=>asm_Assemble.l2 k own (out ++ [r.1]) (j + 1) else none)
  else some out
def asm_Assemble.l1:Nat→List S41→List Bool→List Int→List Int→List Int→Nat→Option (Option (List Int))
 | 0,_,_,_,_,_,_=>none
 | k + 1,xs,far,at_,lab,out,i=>if i < xs.length then
   (asm_insts.f k xs far at_ lab i).bind fun q=>if q.2 = true then (asm_Assemble.l2 k q.1 out 0).bind fun o=>asm_Assemble.l1 k xs far at_ lab o (i + 1) else some none
  else some (some out)
def asm_Assemble.f (k:Nat) (xs:List S41):Option (List Int × List Int × Int) :=
 if 32768 < xs.length then some ([],[],2) else
 (asm_Assemble.l0 k xs 0).bind fun b=>if b = true then
  ((asm_labels.f k xs).bind fun e=>if e.1 = 0 then
   ((asm_grow.l0 k xs (List.replicate xs.length false) (List.replicate (xs.length + 1) 0) (List.replicate e.2 (-1))).bind fun p =>
    (asm_Assemble.l1 k xs p.1 p.2.1 p.2.2 [] 0).bind fun q=>match q with
     | some out=>some (out,p.2.2,0)
     | none=>some ([],[],7))
   else some ([],[],e.1))
  else some ([],[],1)
theorem asm_labels.l0_mono:∀ k xs s m i,LeO (asm_labels.l0 k xs s m i) (asm_labels.l0 (k + 1) xs s m i)
 | 0=>fun _ _ _ _ r h=>by simp [asm_labels.l0] at h
 | k + 1=>fun xs s m i=>by
  have ih:=asm_labels.l0_mono k
  unfold asm_labels.l0
  repeat' first|exact ih _ _ _ _|exact LeO.refl _|refine LeO.ite ?_ ?_|refine LeO.bind ?_ (fun _=>?_)
theorem asm_labels.l1_mono:∀ k xs s i,LeO (asm_labels.l1 k xs s i) (asm_labels.l1 (k + 1) xs s i)
 | 0=>fun _ _ _ r h=>by simp [asm_labels.l1] at h
 | k + 1=>fun xs s i=>by
  have ih:=asm_labels.l1_mono k
  unfold asm_labels.l1
  repeat' first|exact ih _ _ _|exact LeO.refl _|refine LeO.ite ?_ ?_|refine LeO.bind ?_ (fun _=>?_)
theorem asm_labels.mono (k:Nat) (xs:List S41):LeO (asm_labels.f k xs) (asm_labels.f (k + 1) xs):=by
 unfold asm_labels.f
 refine LeO.bind (asm_labels.l0_mono _ _ _ _ _) (fun p=>?_)
 cases p with
 | none=>exact LeO.refl _
 | some q=>exact LeO.map _ (asm_labels.l1_mono _ _ _ _)
theorem asm_place.l0_mono:∀ k xs far at_ lab a i,LeO (asm_place.l0 k xs far at_ lab a i) (asm_place.l0 (k + 1) xs far at_ lab a i)
 | 0=>fun _ _ _ _ _ _ r h=>by simp [asm_place.l0] at h
 | k + 1=>fun xs far at_ lab a i=>by
  have ih:=asm_place.l0_mono k
  unfold asm_place.l0
  repeat' first|exact ih _ _ _ _ _ _|exact LeO.refl _|refine LeO.ite ?_ ?_|refine LeO.bind ?_ (fun _=>?_)
theorem asm_grow.l1_mono:∀ k xs far at_ lab gr i,LeO (asm_grow.l1 k xs far at_ lab gr i) (asm_grow.l1 (k + 1) xs far at_ lab gr i)
 | 0=>fun _ _ _ _ _ _ r h=>by simp [asm_grow.l1] at h
 | k + 1=>fun xs far at_ lab gr i=>by
  have ih:=asm_grow.l1_mono k
  unfold asm_grow.l1
  repeat' first|exact ih _ _ _ _ _ _|exact LeO.refl _|refine LeO.ite ?_ ?_|refine LeO.bind ?_ (fun _=>?_)
theorem asm_grow.l0_mono:∀ k xs far at_ lab,LeO (asm_grow.l0 k xs far at_ lab) (asm_grow.l0 (k + 1) xs far at_ lab)
 | 0=>fun _ _ _ _ r h=>by simp [asm_grow.l0] at h
 | k + 1=>fun xs far at_ lab=>by
  have ih:=asm_grow.l0_mono k
  unfold asm_grow.l0
  refine LeO.bind (asm_place.l0_mono _ _ _ _ _ _ _) (fun p=>LeO.bind (asm_grow.l1_mono _ _ _ _ _ _ _) (fun q=>LeO.ite (ih _ _ _ _) (LeO.refl _)))
theorem asm_insts.mono (k:Nat) (xs:List S41) (far:List Bool) (at_ lab:List Int) (i:Nat):LeO (asm_insts.f k xs far at_ lab i) (asm_insts.f (k + 1) xs far at_ lab i):=by
 unfold asm_insts.f
 repeat' first|exact LeO.refl _|exact asm_Contrary.mono _ _|refine LeO.ite ?_ ?_|refine LeO.bind ?_ (fun _=>?_)
theorem asm_Assemble.l0_mono:∀ k xs i,LeO (asm_Assemble.l0 k xs i) (asm_Assemble.l0 (k + 1) xs i)
 | 0=>fun _ _ r h=>by simp [asm_Assemble.l0] at h
 | k + 1=>fun xs i=>by
  have ih:=asm_Assemble.l0_mono k
  unfold asm_Assemble.l0
  repeat' first|exact ih _ _|exact asm_Right.mono _ _ _ _ _ _ _ _|exact LeO.refl _|refine LeO.ite ?_ ?_|refine LeO.bind ?_ (fun _=>?_)
theorem asm_Assemble.l2_mono:∀ k own out j,LeO (asm_Assemble.l2 k own out j) (asm_Assemble.l2 (k + 1) own out j)
 | 0=>fun _ _ _ r h=>by simp [asm_Assemble.l2] at h
 | k + 1=>fun own out j=>by
  have ih:=asm_Assemble.l2_mono k
  unfold asm_Assemble.l2
  repeat' first|exact ih _ _ _|exact inst_Encode.mono _ _ _ _ _ _|exact LeO.refl _|refine LeO.ite ?_ ?_|refine LeO.bind ?_ (fun _=>?_)
theorem asm_Assemble.l1_mono:∀ k xs far at_ lab out i,LeO (asm_Assemble.l1 k xs far at_ lab out i) (asm_Assemble.l1 (k + 1) xs far at_ lab out i)
 | 0=>fun _ _ _ _ _ _ r h=>by simp [asm_Assemble.l1] at h
 | k + 1=>fun xs far at_ lab out i=>by
  have ih:=asm_Assemble.l1_mono k
  unfold asm_Assemble.l1
  repeat' first|exact ih _ _ _ _ _ _|exact asm_insts.mono _ _ _ _ _ _|exact asm_Assemble.l2_mono _ _ _ _|exact LeO.refl _|refine LeO.ite ?_ ?_|refine LeO.bind ?_ (fun _=>?_)
theorem asm_Assemble.mono (xs:List S41) (k:Nat):LeO (asm_Assemble.f k xs) (asm_Assemble.f (k + 1) xs):=by
 unfold asm_Assemble.f
 refine LeO.ite (LeO.refl _) (LeO.bind (asm_Assemble.l0_mono _ _ _) (fun b=>LeO.ite (LeO.bind (asm_labels.mono _ _) (fun e=>LeO.ite (LeO.bind (asm_grow.l0_mono _ _ _ _ _) (fun p=>LeO.bind (asm_Assemble.l1_mono _ _ _ _ _ _ _) (fun q=>?_))) (LeO.refl _))) (LeO.refl _)))
 cases q <;> exact LeO.refl _
theorem own_type {α:Type} {d:Kd α} {e:Nat} {w:World} {base:Nat} {ok:Nat→Prop} {v:Value} {xs:List α} (h:d.R e w base ok v xs) {k:Nat} (hk:v.ownBlock = some k):base≤k∧∃ q,q ∈ e :: d.E∧∃ cells,w.heap[k]? = some (.cells cells q (0,0)):=by
 have:=(Kd.R_bound h).1 k hk
 exact ⟨this.2.1,this.2.2.2⟩
theorem grown_cells {W W1:World} {base:Nat} {ok:Nat→Prop} {v:Value} {out:List Int} (hR:Kd.R (Kd.int .u32) 35 W base ok v out) (hg:W.grownBy W1 v.ownBlock) {j:Nat} {cs:Array Value} {t:TypeId} (ht:t≠35) (hj:W.heap[j]? = some (.cells cs t (0,0))):W1.heap[j]? = some (.cells cs t (0,0)):=by
 rw [hg.block j (blk_lt hj) ?_,hj]
 intro he
 obtain ⟨_,q,hq,cells,hc⟩:=own_type hR he.symm
 have hq2:q = 35:=by simpa [Kd.int,Kd.scalar] using hq
 subst hq2
 rw [hj] at hc
 simp at hc
 exact ht hc.2
theorem Sheet.row {w0 W W1:World} {g:Nat} {A:Option Addr} {c gf ga:Nat} {lv:Value} {xs:List S41} {far:List Bool} {at_:List Int} (h:Sheet w0 W g A c gf ga lv xs far at_) {base:Nat} {ok:Nat→Prop} {v:Value} {out:List Int} (hR:Kd.R (Kd.int .u32) 35 W base ok v out) (hb:w0.heap.size≤base) (hg:W.grownBy W1 v.ownBlock):Sheet w0 W1 g A c gf ga lv xs far at_ :=
 ⟨grown_cells hR hg (by decide) h.blk,h.items,h.len,grown_cells hR hg (by decide) h.farB,h.farL,grown_cells hR hg (by decide) h.atB,h.atL,
  ⟨hg.os.trans h.bel.os,hg.tape.trans h.bel.tape,hg.output.trans h.bel.output,Nat.le_trans h.bel.size hg.size,fun k hk=>(hg.block k (by have:=h.bel.size;omega) (fun he=>by have:=(own_type hR he.symm).1;omega)).trans (h.bel.block k hk)⟩,h.gB,h.gfB,h.gaB⟩
theorem Lab.row {w0 W W1:World} {ga gl:Nat} {lv:Value} {lab:List Int} (h:Lab w0 W ga gl lv lab) {base:Nat} {ok:Nat→Prop} {v:Value} {out:List Int} (hR:Kd.R (Kd.int .u32) 35 W base ok v out) (hg:W.grownBy W1 v.ownBlock):Lab w0 W1 ga gl lv lab :=
 ⟨h.val,grown_cells hR hg (by decide) h.blk,h.base,h.len,h.ne⟩
theorem rows_apart {w:World} {b1 b2:Nat} {ok1 ok2:Nat→Prop} {v u:Value} {out:List Int} {own:List S39} (h1:Kd.R (Kd.int .u32) 35 w b1 ok1 v out) (h2:Kd.R k39 39 w b2 ok2 u own) (k:Nat) (hk:v.ownBlock = some k):some k≠u.ownBlock:=by
 intro he
 obtain ⟨_,q,hq,cells,hc⟩:=own_type h1 hk
 obtain ⟨_,q',hq',cells',hc'⟩:=own_type h2 he.symm
 have hq2:q = 35:=by simpa [Kd.int,Kd.scalar] using hq
 have hq3:q' ∈ [39]:=hq'
 have hq4:q' = 39:=by simpa using hq3
 subst hq2 hq4
 rw [hc] at hc'
 simp at hc'
theorem own_len {α:Type} {d:Kd α} {e:Nat} {w:World} {base:Nat} {ok:Nat→Prop} {v:Value} {xs:List α} (h:d.R e w base ok v xs):xs.length≤9223372036854775807:=by
 obtain ⟨_,inner,⟨_,h⟩,_⟩:=h
 rcases h with ⟨_,h⟩|⟨g,cap,cur,_,_,_,h1,h2,_⟩
 ·omega
 ·have:maxLen = 9223372036854775807:=rfl
  omega
theorem new_sheet {w wr:World} {A:Option Addr} {c:Nat} {xs:List S41} (hI:Kd.C k41 w A xs.length xs) (hl:xs.length≤32768) (hb:Below w.heap.size w wr) {W:World} {g gf ga:Nat} (hW:Below wr.heap.size wr W) (h1:W.heap[g]? = some (.cells #[.slice A xs.length c,.slice (some ⟨gf,0,none⟩) xs.length xs.length,.slice (some ⟨ga,0,none⟩) (xs.length + 1) (xs.length + 1),.slice none 0 0] 65 (0,0))) (h2:W.heap[gf]? = some (.cells (zeroBools xs.length) 4 (0,0))) (h3:W.heap[ga]? = some (.cells (zeroInts (xs.length + 1)) 3 (0,0))) (hg:wr.heap.size≤g) (hgf:wr.heap.size≤gf) (hga:wr.heap.size≤ga):Sheet w W g A c gf ga (.slice none 0 0) xs (List.replicate xs.length false) (List.replicate (xs.length + 1) 0) :=
 ⟨h1,hI,hl,h2,by simp,h3,by simp,below_then hb hb.size hW,Nat.le_trans hb.size hg,Nat.le_trans hb.size hgf,Nat.le_trans hb.size hga⟩
theorem heap_third (w:World) (o1 o2 o3:Obj):(((w.alloc o1).alloc o2).alloc o3).heap[w.heap.size + 1 + 1]? = some o3∧(((w.alloc o1).alloc o2).alloc o3).heap[w.heap.size + 1]? = some o2∧(((w.alloc o1).alloc o2).alloc o3).heap[w.heap.size]? = some o1:=by
 refine ⟨?_,?_,?_⟩
 ·have h:=heap_alloc_last ((w.alloc o1).alloc o2) o3
  simpa using h
 ·rw [heap_alloc_old _ _ (by simp)]
  exact heap_second w o1 o2
 ·rw [heap_alloc_old _ _ (by simp;omega),heap_alloc_old _ _ (by simp)]
  exact heap_alloc_last w o1
theorem lab_row {w W:World} {ga gl:Nat} {lv:Value} {lab:List Int} (h:Lab w W ga gl lv lab):Kd.R (Kd.int .i64) 3 W w.heap.size (fun _=>True) (.slice (some ⟨gl,0,none⟩) lab.length lab.length) lab :=
 ⟨fun _ _=>trivial,lab.map (Value.int .i64),⟨by simp [Kd.int,Kd.scalar],Or.inr ⟨gl,lab.length,_,rfl,h.base,h.blk,Nat.le_refl _,by have:=h.len;have:maxLen = 9223372036854775807:=rfl;omega,by simp [Kd.int,Kd.scalar],by simp [Kd.int,Kd.scalar,List.take_of_length_le]⟩⟩,⟨by simp [Kd.int,Kd.scalar],fun j p hj=>by
  show List.take 1 (List.drop (j * 1) (lab.map (Value.int .i64))) = [Value.int .i64 p]
  rw [Nat.mul_one,List.take_one,List.head?_drop,List.getElem?_map,hj]
  rfl⟩⟩
theorem info_u32:(Try.prog.info? 35).map (fun i=>(i.zero,i.size,i.bytes)) = some (some (.int .u32 0),1,4):=by kernel_rfl
set_option maxHeartbeats 1000000 in
set_option maxRecDepth 100000 in
theorem asm_Assemble.calls (k:Nat) (A0:Option Addr) (c0:Nat) (l0:List (S41)) (r1:List Int) (r2:List Int) (r3:Int) (w:World) (hr0:Kd.C k41 w A0 l0.length l0) (hc0:l0.length≤c0) (h:asm_Assemble.f k l0 = some (r1,r2,r3)) :
  Calls Try.prog 10 #[.slice A0 l0.length c0] w fun e w'=>∃ v0_ v1_:Value,e = .returned (.tuple #[v0_,v1_,.int .i64 r3])∧Kd.R (Kd.int .u32) 35 w' w.heap.size (fun _=>True) v0_ r1∧Kd.R (Kd.int .i64) 3 w' w.heap.size (fun _=>True) v1_ r2∧Below w.heap.size w w':=by
 have hu41:=Try.underlying41
 have hu39:=Try.underlying39
 have hu65:=Try.underlying65
 have HI:=Aside0.mk hr0
 have hlI:∀ ad,A0 = some ad→0 < l0.length→True:=fun _ _ _=>trivial
 clear hlI hr0
 simp only [asm_Assemble.f] at h
 by_cases kl:32768 < l0.length
 ·rw [if_pos kl] at h
  simp only [Option.some.injEq,Prod.mk.injEq] at h
  obtain ⟨rfl,rfl,rfl⟩:=h
  have kl2:(32768:Int) < (l0.length:Int):=by omega
  go_enter Try.func10,Try.ntmps10
  go_wp2
  go_ret3
  exact ⟨_,_,rfl,Kd.R_nil _ _ _ _ _,Kd.R_nil _ _ _ _ _,Below.refl _ _⟩
 rw [if_neg kl] at h
 have kl2:¬ (32768:Int) < (l0.length:Int):=by omega
 replace h:=Option.bind_eq_some_iff.mp h
 obtain ⟨rb,hrb,h⟩:=h
 have H:=Aside0.mk hrb
 have HR:=Aside0.mk h
 clear h hrb
 go_enter Try.func10,Try.ntmps10
 go_wp2
 go_loopw [22] (fun v22 wr=>∃ (kq i:Nat),v22 = .int .i64 (i:Int)∧i≤l0.length∧Aside0 (asm_Assemble.l0 kq l0 i = some rb)∧Aside0 (Below w.heap.size w wr)) (fun v22 _=>l0.length - (intOf v22).toNat)
 case atStart=>exact ⟨k,0,rfl,by omega,H,⟨Below.refl _ _⟩⟩
 case round =>
  clear H
  obtain ⟨kq,i,rfl,hi,H,HB⟩:=hrel
  cases kq with
  | zero=>exact absurd H.out (by simp [asm_Assemble.l0])
  | succ kq =>
  have h0:=H.out
  clear H
  simp only [asm_Assemble.l0] at h0
  by_cases hlt:i < l0.length
  ·rw [if_pos hlt] at h0
   obtain ⟨ad,rfl,e0,e1,e2,e3,e4,e5,e6⟩:=at_T41 (Kd.C_below HI.out HB.out) (i:Int) (by omega) (by omega)
   simp only [Int.toNat_natCast] at e0 e1 e2 e3 e4 e5 e6
   generalize rd_T41 l0 i = x at *
   obtain ⟨x0,⟨y0,y1,y2,y3,y4⟩,x2⟩:=x
   dsimp only at e0 e1 e2 e3 e4 e5 e6 h0
   replace h0:=Option.bind_eq_some_iff.mp h0
   obtain ⟨b,hb,h0⟩:=h0
   have HQ:=Aside0.mk hb
   clear hb
   cases b with
   | false =>
    rw [if_neg (by simp)] at h0
    obtain rfl:=Option.some.inj h0
    have h1:=HR.out
    rw [if_neg (by simp)] at h1
    simp only [Option.some.injEq,Prod.mk.injEq] at h1
    obtain ⟨rfl,rfl,rfl⟩:=h1
    clear HR
    go_wp2_with (go_at_call 14;refine (asm_Right.calls kq x0 y0 y1 y2 y3 y4 x2 false _ HQ.out).mono ?_;rintro e w3 ⟨rfl,hb3⟩;have HB3:=Aside0.mk hb3;clear hb3)
    go_ret3
    exact ⟨_,_,rfl,Kd.R_nil _ _ _ _ _,Kd.R_nil _ _ _ _ _,below_then (below_alloc HB.out _) (by have:=HB.out.size;simp;omega) HB3.out⟩
   | true =>
    rw [if_pos rfl] at h0
    have H:=Aside0.mk h0
    clear h0
    go_wp2_with (go_at_call 14;refine (asm_Right.calls kq x0 y0 y1 y2 y3 y4 x2 true _ HQ.out).mono ?_;rintro e w3 ⟨rfl,hb3⟩;have HB3:=Aside0.mk hb3;clear hb3)
    exact ⟨⟨kq,i + 1,by go_num,by omega,H,⟨below_then (below_alloc HB.out _) (by have:=HB.out.size;simp;omega) HB3.out⟩⟩,by simp [intOf];omega⟩
  ·rw [if_neg hlt] at h0
   obtain rfl:=Option.some.inj h0
   clear h0
   have h1:=HR.out
   clear HR
   rw [if_pos rfl] at h1
   replace h1:=Option.bind_eq_some_iff.mp h1
   obtain ⟨⟨er,n⟩,he,h1⟩:=h1
   have HE:=Aside0.mk he
   have HR:=Aside0.mk h1
   clear he h1
   have hmb:=fun W=>make_bool W l0.length (by omega)
   have hmi:∀ W:World,(Instr.makeSlice 26 (.int .i64 ((l0.length:Int) + 1)) (.int .i64 ((l0.length:Int) + 1))).run Try.prog W = .ok (.slice (some ⟨W.heap.size,0,none⟩) (l0.length + 1) (l0.length + 1)) (W.alloc (.cells (zeroInts (l0.length + 1)) 3)):=fun W=>make_int W (l0.length + 1) (by omega)
   have hlen:l0.length≤32768:=by omega
   go_wp2
   go_region
   (have HS:=Aside0.mk (new_sheet (c:=c0) (g:=wr.heap.size + 1 + 1) (gf:=wr.heap.size) (ga:=wr.heap.size + 1) HI.out hlen HB.out (below_drew (below_alloc (below_alloc (below_alloc (Below.refl _ _) (.cells (zeroBools l0.length) 4)) (.cells (zeroInts (l0.length + 1)) 3)) (.cells #[.slice A0 l0.length c0,.slice (some ⟨wr.heap.size,0,none⟩) l0.length l0.length,.slice (some ⟨wr.heap.size + 1,0,none⟩) (l0.length + 1) (l0.length + 1),.slice none 0 0] 65))) (heap_third wr _ _ _).1 (heap_third wr _ _ _).2.2 (heap_third wr _ _ _).2.1 (by omega) (by omega) (by omega));generalize ((((wr.alloc (.cells (zeroBools l0.length) 4)).alloc (.cells (zeroInts (l0.length + 1)) 3)).alloc (.cells #[.slice A0 l0.length c0,.slice (some ⟨wr.heap.size,0,none⟩) l0.length l0.length,.slice (some ⟨wr.heap.size + 1,0,none⟩) (l0.length + 1) (l0.length + 1),.slice none 0 0] 65)).drew) = W at HS ⊢;generalize wr.heap.size + 1 + 1 = g at HS ⊢;generalize wr.heap.size + 1 = ga at HS ⊢;generalize wr.heap.size = gf at HS ⊢)
   rotate_left 1
   (have HS:=Aside0.mk (new_sheet (c:=c0) (g:=wr.heap.size + 1 + 1) (gf:=wr.heap.size + 1) (ga:=wr.heap.size) HI.out hlen HB.out (below_drew (below_alloc (below_alloc (below_alloc (Below.refl _ _) (.cells (zeroInts (l0.length + 1)) 3)) (.cells (zeroBools l0.length) 4)) (.cells #[.slice A0 l0.length c0,.slice (some ⟨wr.heap.size + 1,0,none⟩) l0.length l0.length,.slice (some ⟨wr.heap.size,0,none⟩) (l0.length + 1) (l0.length + 1),.slice none 0 0] 65))) (heap_third wr _ _ _).1 (heap_third wr _ _ _).2.1 (heap_third wr _ _ _).2.2 (by omega) (by omega) (by omega));generalize ((((wr.alloc (.cells (zeroInts (l0.length + 1)) 3)).alloc (.cells (zeroBools l0.length) 4)).alloc (.cells #[.slice A0 l0.length c0,.slice (some ⟨wr.heap.size + 1,0,none⟩) l0.length l0.length,.slice (some ⟨wr.heap.size,0,none⟩) (l0.length + 1) (l0.length + 1),.slice none 0 0] 65)).drew) = W at HS ⊢;generalize wr.heap.size + 1 + 1 = g at HS ⊢;generalize wr.heap.size + 1 = gf at HS ⊢;generalize wr.heap.size = ga at HS ⊢)
   rotate_right 1
   all_goals
    clear HB HI hmb hmi hlt hi
    by_cases ke:er = 0
    ·subst ke
     have h1:=HR.out
     clear HR
     rw [if_pos rfl] at h1
     replace h1:=Option.bind_eq_some_iff.mp h1
     obtain ⟨⟨far,at_,lab⟩,hgr,h1⟩:=h1
     have HG:=Aside0.mk hgr
     have HR:=Aside0.mk h1
     clear hgr h1
     go_wp2_with (first|(go_at_call 26;refine (asm_labels.calls k w _ g A0 c0 gf ga _ l0 _ _ HS.out 0 n HE.out).mono ?_;rintro e w3 ⟨rfl,lv,hS3,hL3⟩;obtain ⟨gl,hL3⟩:=hL3 rfl;clear HS;have HS:=Aside0.mk hS3;have HL:=Aside0.mk hL3;clear hS3 hL3)|(go_at_call 27;refine (asm_grow.calls k w _ g A0 c0 gf ga gl _ l0 _ _ _ HS.out HL.out _ _ _ HG.out).mono ?_;rintro e w4 ⟨rfl,hS4,hL4⟩;clear HS HL;have HS:=Aside0.mk hS4;have HL:=Aside0.mk hL4;clear hS4 hL4))
     have h1:=HR.out
     clear HR
     replace h1:=Option.bind_eq_some_iff.mp h1
     obtain ⟨q,hq,h1⟩:=h1
     have H:=Aside0.mk hq
     have HR:=Aside0.mk h1
     clear hq h1 HG HE
     go_loopw [9,49] (fun v9 v49 wr=>∃ (kq i:Nat) (out:List Int),v49 = .int .i64 (i:Int)∧i≤l0.length∧Aside0 (asm_Assemble.l1 kq l0 far at_ lab out i = some q)∧Aside0 (Sheet w wr g A0 c0 gf ga lv l0 far at_)∧Aside0 (Lab w wr ga gl lv lab)∧Aside0 (Kd.R (Kd.int .u32) 35 wr w.heap.size (fun _=>True) v9 out)) (fun _ v49 _=>l0.length - (intOf v49).toNat)
     case atStart=>exact ⟨k,0,[],rfl,by omega,H,HS,HL,⟨Kd.R_nil _ _ _ _ _⟩⟩
     case round =>
      clear H HS HL
      obtain ⟨kq,i,out,rfl,hi,H,HS,HL,HO⟩:=hrel
      cases kq with
      | zero=>exact absurd H.out (by simp [asm_Assemble.l1])
      | succ kq =>
      have h0:=H.out
      clear H
      simp only [asm_Assemble.l1] at h0
      have l1:=blk_lt HS.out.blk
      by_cases hlt:i < l0.length
      ·rw [if_pos hlt] at h0
       replace h0:=Option.bind_eq_some_iff.mp h0
       obtain ⟨⟨own,is⟩,hin,h0⟩:=h0
       have HIN:=Aside0.mk hin
       clear hin
       cases is with
       | false =>
        rw [if_neg (by simp)] at h0
        obtain rfl:=Option.some.inj h0
        have h1:=HR.out
        clear HR h0
        simp only [Option.some.injEq,Prod.mk.injEq] at h1
        obtain ⟨rfl,rfl,rfl⟩:=h1
        go_wp2_with (go_at_call 28;refine (asm_insts.calls kq w _ g A0 c0 gf ga gl lv l0 far at_ lab HS.out HL.out i hlt own false HIN.out).mono ?_;rintro e w5 ⟨vo,rfl,ho5,hb5⟩;have HB5:=Aside0.mk hb5;clear hb5 ho5)
        go_ret3
        exact ⟨_,_,rfl,Kd.R_nil _ _ _ _ _,Kd.R_nil _ _ _ _ _,(HS.out.below HB5.out).bel⟩
       | true =>
        rw [if_pos rfl] at h0
        replace h0:=Option.bind_eq_some_iff.mp h0
        obtain ⟨o,ho,h0⟩:=h0
        have H:=Aside0.mk h0
        have HJ:=Aside0.mk ho
        clear h0 ho
        have hw0:=HS.out.bel.size
        go_wp2_with (go_at_call 28;refine (asm_insts.calls kq w _ g A0 c0 gf ga gl lv l0 far at_ lab HS.out HL.out i hlt own true HIN.out).mono ?_;rintro e w5 ⟨vo,rfl,ho5,hb5⟩;obtain ⟨Ao,co,rfl,hco,_⟩:=Kd.R_reads ho5;have HS5:=Aside0.mk (HS.out.below hb5);have HL5:=Aside0.mk (HL.out.below hb5);have HO5:=Aside0.mk (Kd.R_below HO.out hb5);have HW:=Aside0.mk (Kd.R_lower ho5 hw0);clear hb5 ho5)
        go_loopw [9,62] (fun v9 v62 wq=>∃ (kp j:Nat) (oj:List Int),v62 = .int .i64 (j:Int)∧j≤own.length∧Aside0 (asm_Assemble.l2 kp own oj j = some o)∧Aside0 (Sheet w wq g A0 c0 gf ga lv l0 far at_)∧Aside0 (Lab w wq ga gl lv lab)∧Aside0 (Kd.R (Kd.int .u32) 35 wq w.heap.size (fun _=>True) v9 oj)∧Aside0 (Kd.R k39 39 wq w.heap.size (fun _=>True) (.slice Ao own.length co) own)) (fun _ v62 _=>own.length - (intOf v62).toNat)
        case atStart=>exact ⟨kq,0,out,rfl,by omega,HJ,HS5,HL5,HO5,HW⟩
        case round =>
         clear HJ HS5 HL5 HO5 HW HO HS HL l1 hw0
         obtain ⟨kp,j,oj,rfl,hj,HJ,HS,HL,HO,HW⟩:=hrel
         cases kp with
         | zero=>exact absurd HJ.out (by simp [asm_Assemble.l2])
         | succ kp =>
         have h0:=HJ.out
         clear HJ
         simp only [asm_Assemble.l2] at h0
         have hw0:=HS.out.bel.size
         by_cases hjl:j < own.length
         ·rw [if_pos hjl] at h0
          by_cases hol:oj.length < 1000000000
          ·rw [if_pos hol] at h0
           obtain ⟨Ao2,co2,he2,_,hC⟩:=Kd.R_reads HW.out
           cases he2
           have hol2:=own_len HW.out
           obtain ⟨ad,rfl,e0,e1,e2,e3,e4⟩:=at_T39 hC (j:Int) (by omega) (by omega)
           clear hC
           simp only [Int.toNat_natCast] at e0 e1 e2 e3 e4
           generalize rd_T39 own j = x at *
           obtain ⟨y0,y1,y2,y3,y4⟩:=x
           dsimp only at e0 e1 e2 e3 e4 h0
           replace h0:=Option.bind_eq_some_iff.mp h0
           obtain ⟨⟨re,rr⟩,hre,h0⟩:=h0
           have HQ:=Aside0.mk hre
           have HJ:=Aside0.mk h0
           clear hre h0
           go_wp2_with (first|(go_at_call 29;refine (inst_Encode.calls kp y0 y1 y2 y3 y4 re rr _ HQ.out).mono ?_;rintro e w6 ⟨rfl,hb6⟩;have HS6:=Aside0.mk ((HS.out.below (below_alloc (Below.refl _ _) _)).below hb6);have HL6:=Aside0.mk ((HL.out.below (below_alloc (Below.refl _ _) _)).below hb6);have HO6:=Aside0.mk (Kd.R_below (Kd.R_alloc HO.out _) hb6);have HW6:=Aside0.mk (Kd.R_below (Kd.R_alloc HW.out _) hb6);clear hb6)|((with_reducible refine gate_builtin (b:=.append) (xs:=#[.tmp 71,.tmp 73]) rfl ?_);at_builtin;refine Kd.R_append (Kd.int .u32) (w0:=w) w.heap.size rfl (.tmp 71) (.tmp 73) 25 35 (.int .u32 0) 4 rfl Try.underlying25 info_u32 rfl (by decide) (by omega) _ oj re [.int .u32 re] (fun _=>True) (fun _=>False) rfl rfl ?aP (fun _ hk=>hk.elim) ?aF ?aO ?aB ?aS ?aL ?_;(case aP=>exact rfl);(case aB=>exact HS6.out.bel);(case aF=>exact (fun _ _=>trivial));(case aO=>exact HO6.out);(case aS=>exact HS6.out.bel.size);(case aL=>omega);intro v7 w7 ho hb hg hat;have HS7:=Aside0.mk (HS6.out.row HO6.out (Nat.le_refl _) hg);have HL7:=Aside0.mk (HL6.out.row HO6.out hg);have HO7:=Aside0.mk ho;have HW7:=Aside0.mk (Kd.R_grown2 HW6.out rfl hg (rows_apart HO6.out HW6.out));clear ho hb hg hat HS6 HL6 HO6 HW6))
           exact ⟨⟨kp,j + 1,_,by go_num,by omega,HJ,HS7,HL7,HO7,HW7⟩,by simp [intOf];omega⟩
          ·rw [if_neg hol] at h0
           cases h0
         ·rw [if_neg hjl] at h0
          obtain rfl:=Option.some.inj h0
          clear h0
          go_wp2
          exact ⟨⟨kq,i + 1,oj,by go_num,by omega,H,HS,HL,HO⟩,by simp [intOf];omega⟩
      ·rw [if_neg hlt] at h0
       obtain rfl:=Option.some.inj h0
       have h1:=HR.out
       clear HR h0
       simp only [Option.some.injEq,Prod.mk.injEq] at h1
       obtain ⟨rfl,rfl,rfl⟩:=h1
       have s3:=blk_cell HS.out.blk 3
       simp only [List.getElem?_toArray,List.getElem?_cons_zero,List.getElem?_cons_succ] at s3
       go_wp2
       go_region
       all_goals go_wp2
       go_ret3
       have hv:=HL.out.val
       subst hv
       exact ⟨_,_,rfl,Kd.R_drew HO.out,lab_row HL.out.drew,below_drew HS.out.bel⟩
    ·have h1:=HR.out
     clear HR
     rw [if_neg ke] at h1
     simp only [Option.some.injEq,Prod.mk.injEq] at h1
     obtain ⟨rfl,rfl,rfl⟩:=h1
     have be:(er == 0) = false:=by simp [ke]
     go_wp2_with (go_at_call 26;refine (asm_labels.calls k w _ g A0 c0 gf ga _ l0 _ _ HS.out er n HE.out).mono ?_;rintro e w3 ⟨rfl,lv,hS3,_⟩;clear HS;have HS:=Aside0.mk hS3;clear hS3)
     go_ret3
     exact ⟨_,_,rfl,Kd.R_nil _ _ _ _ _,Kd.R_nil _ _ _ _ _,HS.out.bel⟩
def asm_Inst.f (a0:Int) (a1:Int) (a2:Int) (a3:Int) (a4:Int):Option (Int × Int × Int × Int × Int × Int × Int):=some (1,a0,a1,a2,a3,a4,0)
set_option maxHeartbeats 8000000 in
set_option maxRecDepth 100000 in
theorem asm_Inst.calls (a0:Int) (a1:Int) (a2:Int) (a3:Int) (a4:Int) (r1:Int) (r2:Int) (r3:Int) (r4:Int) (r5:Int) (r6:Int) (r7:Int) (w:World) (h:asm_Inst.f a0 a1 a2 a3 a4 = some (r1,r2,r3,r4,r5,r6,r7)) :
  Calls Try.prog 13 #[.int .i64 a0,.int .i64 a1,.int .i64 a2,.int .i64 a3,.int .i64 a4] w fun e w'=>e = .returned (.agg #[.int .i64 r1,.int .i64 r2,.int .i64 r3,.int .i64 r4,.int .i64 r5,.int .i64 r6,.int .i64 r7])∧Below w.heap.size w w':=by
 have hu41:=Try.underlying41
 have hu39:=Try.underlying39
 have HB:=Aside0.mk (Below.refl w.heap.size w)
 have H:(some (1,a0,a1,a2,a3,a4,0)) = some (r1,r2,r3,r4,r5,r6,r7):=h
 clear h
 simp only [Option.some.injEq,Prod.mk.injEq] at H
 obtain ⟨rfl,rfl,rfl,rfl,rfl,rfl,rfl⟩:=H
 go_enter Try.func13,Try.ntmps13
 go_wp2_with (first|((with_reducible refine gate_dst (N:=10) rfl ?_);refine box_event ?hg (N:=10) ?hd (cs:=#[.int .i64 0,.int .i64 0,.int .i64 0,.int .i64 0,.int .i64 0,.int .i64 0,.int .i64 0]) (t:=41) ?hr ?_;(case hd=>rfl);(case hg=>rfl);(case hr=>first|(go_simp;done)|(go_simp;rfl));intro gb155 hg w6 hbox hb;have n0_:=Aside0.mk (below_step zmb11_0 hb);have n1_:=Aside0.mk (hbox);have n2_:=Aside0.mk ((by rw [hg];exact (below_size zmb11_0):w.heap.size≤gb155));have n3_:=Aside0.mk ((by rw [hg];exact (below_size zmb11_0):w.heap.size≤gb155));clear HB;have HB:=n0_;have BK155:=n1_;have GW155:=n2_;have GE155:=n3_;clear n0_ n1_ n2_ n3_;clear hb hbox hg;have hcz7_0:w6.cell? ⟨gb155,0,none⟩ = some (.int .i64 0):=(blk_cell BK155.out 0).trans rfl;have hcz7_1:w6.cell? ⟨gb155,1,none⟩ = some (.int .i64 0):=(blk_cell BK155.out 1).trans rfl;have hcz7_2:w6.cell? ⟨gb155,2,none⟩ = some (.int .i64 0):=(blk_cell BK155.out 2).trans rfl;have hcz7_3:w6.cell? ⟨gb155,3,none⟩ = some (.int .i64 0):=(blk_cell BK155.out 3).trans rfl;have hcz7_4:w6.cell? ⟨gb155,4,none⟩ = some (.int .i64 0):=(blk_cell BK155.out 4).trans rfl;have hcz7_5:w6.cell? ⟨gb155,5,none⟩ = some (.int .i64 0):=(blk_cell BK155.out 5).trans rfl;have hcz7_6:w6.cell? ⟨gb155,6,none⟩ = some (.int .i64 0):=(blk_cell BK155.out 6).trans rfl;have hfz7_0:=blk_frozen BK155.out 0;have hfz7_1:=blk_frozen BK155.out 1;have hfz7_2:=blk_frozen BK155.out 2;have hfz7_3:=blk_frozen BK155.out 3;have hfz7_4:=blk_frozen BK155.out 4;have hfz7_5:=blk_frozen BK155.out 5;have hfz7_6:=blk_frozen BK155.out 6))
 refine bodyPost_ret (results_cell_row rfl _ _ gb155 41 #[.int .i64 1,.int .i64 a0,.int .i64 a1,.int .i64 a2,.int .i64 a3,.int .i64 a4,.int .i64 0] (0,0) _ rfl (by (with_reducible repeat (first|refine blk_drewN ?_ _|refine blk_drew ?_|refine blk_alloc ?_ _));refine blk_put (cs:=#[.int .i64 1,.int .i64 a0,.int .i64 a1,.int .i64 a2,.int .i64 a3,.int .i64 a4,.int .i64 0]) ?_ 6 _ rfl;(with_reducible repeat (first|refine blk_drewN ?_ _|refine blk_drew ?_|refine blk_alloc ?_ _));refine blk_put (cs:=#[.int .i64 1,.int .i64 a0,.int .i64 a1,.int .i64 a2,.int .i64 a3,.int .i64 0,.int .i64 0]) ?_ 5 _ rfl;(with_reducible repeat (first|refine blk_drewN ?_ _|refine blk_drew ?_|refine blk_alloc ?_ _));refine blk_put (cs:=#[.int .i64 1,.int .i64 a0,.int .i64 a1,.int .i64 a2,.int .i64 0,.int .i64 0,.int .i64 0]) ?_ 4 _ rfl;(with_reducible repeat (first|refine blk_drewN ?_ _|refine blk_drew ?_|refine blk_alloc ?_ _));refine blk_put (cs:=#[.int .i64 1,.int .i64 a0,.int .i64 a1,.int .i64 0,.int .i64 0,.int .i64 0,.int .i64 0]) ?_ 3 _ rfl;(with_reducible repeat (first|refine blk_drewN ?_ _|refine blk_drew ?_|refine blk_alloc ?_ _));refine blk_put (cs:=#[.int .i64 1,.int .i64 a0,.int .i64 0,.int .i64 0,.int .i64 0,.int .i64 0,.int .i64 0]) ?_ 2 _ rfl;(with_reducible repeat (first|refine blk_drewN ?_ _|refine blk_drew ?_|refine blk_alloc ?_ _));refine blk_put (cs:=#[.int .i64 1,.int .i64 0,.int .i64 0,.int .i64 0,.int .i64 0,.int .i64 0,.int .i64 0]) ?_ 1 _ rfl;(with_reducible repeat (first|refine blk_drewN ?_ _|refine blk_drew ?_|refine blk_alloc ?_ _));refine blk_put (cs:=#[.int .i64 0,.int .i64 0,.int .i64 0,.int .i64 0,.int .i64 0,.int .i64 0,.int .i64 0]) ?_ 0 _ rfl;(with_reducible repeat (first|refine blk_drewN ?_ _|refine blk_drew ?_|refine blk_alloc ?_ _));exact BK155.out) Try.underlying41 rfl (by kernel_rfl)) rfl ?_
 exact ⟨zmb11_5,by repeat (first|(with_reducible first|exact HB.out|apply below_alloc|apply pw_below_drewN|apply below_drew1|refine below_set ?_ GE155.out)|exact HB.out)⟩
def asm_Const.f (a0:Int) (a1:Int):Option (Int × Int × Int × Int × Int × Int × Int):=some (5,0,a0,0,0,wrap64 (a1),0)
set_option maxHeartbeats 8000000 in
set_option maxRecDepth 100000 in
theorem asm_Const.calls (a0:Int) (a1:Int) (r1:Int) (r2:Int) (r3:Int) (r4:Int) (r5:Int) (r6:Int) (r7:Int) (w:World) (h:asm_Const.f a0 a1 = some (r1,r2,r3,r4,r5,r6,r7)) :
  Calls Try.prog 18 #[.int .i64 a0,.int .u32 a1] w fun e w'=>e = .returned (.agg #[.int .i64 r1,.int .i64 r2,.int .i64 r3,.int .i64 r4,.int .i64 r5,.int .i64 r6,.int .i64 r7])∧Below w.heap.size w w':=by
 have hu41:=Try.underlying41
 have hu39:=Try.underlying39
 have HB:=Aside0.mk (Below.refl w.heap.size w)
 have H:(some (5,0,a0,0,0,wrap64 (a1),0)) = some (r1,r2,r3,r4,r5,r6,r7):=h
 clear h
 simp only [Option.some.injEq,Prod.mk.injEq] at H
 obtain ⟨rfl,rfl,rfl,rfl,rfl,rfl,rfl⟩:=H
 go_enter Try.func18,Try.ntmps18
 go_wp2_with (first|((with_reducible refine gate_dst (N:=4) rfl ?_);refine box_event ?hg (N:=4) ?hd (cs:=#[.int .i64 0,.int .i64 0,.int .i64 0,.int .i64 0,.int .i64 0,.int .i64 0,.int .i64 0]) (t:=41) ?hr ?_;(case hd=>rfl);(case hg=>rfl);(case hr=>first|(go_simp;done)|(go_simp;rfl));intro gb156 hg w3 hbox hb;have n0_:=Aside0.mk (below_step zmb11_0 hb);have n1_:=Aside0.mk (hbox);have n2_:=Aside0.mk ((by rw [hg];exact (below_size zmb11_0):w.heap.size≤gb156));have n3_:=Aside0.mk ((by rw [hg];exact (below_size zmb11_0):w.heap.size≤gb156));clear HB;have HB:=n0_;have BK156:=n1_;have GW156:=n2_;have GE156:=n3_;clear n0_ n1_ n2_ n3_;clear hb hbox hg;have hcz4_0:w3.cell? ⟨gb156,0,none⟩ = some (.int .i64 0):=(blk_cell BK156.out 0).trans rfl;have hcz4_1:w3.cell? ⟨gb156,1,none⟩ = some (.int .i64 0):=(blk_cell BK156.out 1).trans rfl;have hcz4_2:w3.cell? ⟨gb156,2,none⟩ = some (.int .i64 0):=(blk_cell BK156.out 2).trans rfl;have hcz4_3:w3.cell? ⟨gb156,3,none⟩ = some (.int .i64 0):=(blk_cell BK156.out 3).trans rfl;have hcz4_4:w3.cell? ⟨gb156,4,none⟩ = some (.int .i64 0):=(blk_cell BK156.out 4).trans rfl;have hcz4_5:w3.cell? ⟨gb156,5,none⟩ = some (.int .i64 0):=(blk_cell BK156.out 5).trans rfl;have hcz4_6:w3.cell? ⟨gb156,6,none⟩ = some (.int .i64 0):=(blk_cell BK156.out 6).trans rfl;have hfz4_0:=blk_frozen BK156.out 0;have hfz4_1:=blk_frozen BK156.out 1;have hfz4_2:=blk_frozen BK156.out 2;have hfz4_3:=blk_frozen BK156.out 3;have hfz4_4:=blk_frozen BK156.out 4;have hfz4_5:=blk_frozen BK156.out 5;have hfz4_6:=blk_frozen BK156.out 6))
 refine bodyPost_ret (results_cell_row rfl _ _ gb156 41 #[.int .i64 5,.int .i64 0,.int .i64 a0,.int .i64 0,.int .i64 0,.int .i64 (wrap64 (a1)),.int .i64 0] (0,0) _ rfl (by (with_reducible repeat (first|refine blk_drewN ?_ _|refine blk_drew ?_|refine blk_alloc ?_ _));refine blk_put (cs:=#[.int .i64 5,.int .i64 0,.int .i64 a0,.int .i64 0,.int .i64 0,.int .i64 (wrap64 (a1)),.int .i64 0]) ?_ 6 _ rfl;(with_reducible repeat (first|refine blk_drewN ?_ _|refine blk_drew ?_|refine blk_alloc ?_ _));refine blk_put (cs:=#[.int .i64 5,.int .i64 0,.int .i64 a0,.int .i64 0,.int .i64 0,.int .i64 0,.int .i64 0]) ?_ 5 _ rfl;(with_reducible repeat (first|refine blk_drewN ?_ _|refine blk_drew ?_|refine blk_alloc ?_ _));refine blk_put (cs:=#[.int .i64 5,.int .i64 0,.int .i64 a0,.int .i64 0,.int .i64 0,.int .i64 0,.int .i64 0]) ?_ 4 _ rfl;(with_reducible repeat (first|refine blk_drewN ?_ _|refine blk_drew ?_|refine blk_alloc ?_ _));refine blk_put (cs:=#[.int .i64 5,.int .i64 0,.int .i64 a0,.int .i64 0,.int .i64 0,.int .i64 0,.int .i64 0]) ?_ 3 _ rfl;(with_reducible repeat (first|refine blk_drewN ?_ _|refine blk_drew ?_|refine blk_alloc ?_ _));refine blk_put (cs:=#[.int .i64 5,.int .i64 0,.int .i64 0,.int .i64 0,.int .i64 0,.int .i64 0,.int .i64 0]) ?_ 2 _ rfl;(with_reducible repeat (first|refine blk_drewN ?_ _|refine blk_drew ?_|refine blk_alloc ?_ _));refine blk_put (cs:=#[.int .i64 5,.int .i64 0,.int .i64 0,.int .i64 0,.int .i64 0,.int .i64 0,.int .i64 0]) ?_ 1 _ rfl;(with_reducible repeat (first|refine blk_drewN ?_ _|refine blk_drew ?_|refine blk_alloc ?_ _));refine blk_put (cs:=#[.int .i64 0,.int .i64 0,.int .i64 0,.int .i64 0,.int .i64 0,.int .i64 0,.int .i64 0]) ?_ 0 _ rfl;(with_reducible repeat (first|refine blk_drewN ?_ _|refine blk_drew ?_|refine blk_alloc ?_ _));exact BK156.out) Try.underlying41 rfl (by kernel_rfl)) rfl ?_
 exact ⟨zmb11_5,by repeat (first|(with_reducible first|exact HB.out|apply below_alloc|apply pw_below_drewN|apply below_drew1|refine below_set ?_ GE156.out)|exact HB.out)⟩
def asm_Label.f (a0:Int):Option (Int × Int × Int × Int × Int × Int × Int):=some (2,0,0,0,0,0,a0)
set_option maxHeartbeats 8000000 in
set_option maxRecDepth 100000 in
theorem asm_Label.calls (a0:Int) (r1:Int) (r2:Int) (r3:Int) (r4:Int) (r5:Int) (r6:Int) (r7:Int) (w:World) (h:asm_Label.f a0 = some (r1,r2,r3,r4,r5,r6,r7)) :
  Calls Try.prog 19 #[.int .i64 a0] w fun e w'=>e = .returned (.agg #[.int .i64 r1,.int .i64 r2,.int .i64 r3,.int .i64 r4,.int .i64 r5,.int .i64 r6,.int .i64 r7])∧Below w.heap.size w w':=by
 have hu41:=Try.underlying41
 have HB:=Aside0.mk (Below.refl w.heap.size w)
 have H:(some (2,0,0,0,0,0,a0)) = some (r1,r2,r3,r4,r5,r6,r7):=h
 clear h
 simp only [Option.some.injEq,Prod.mk.injEq] at H
 obtain ⟨rfl,rfl,rfl,rfl,rfl,rfl,rfl⟩:=H
 go_enter Try.func19,Try.ntmps19
 go_wp2_with (first|((with_reducible refine gate_dst (N:=2) rfl ?_);refine box_event ?hg (N:=2) ?hd (cs:=#[.int .i64 0,.int .i64 0,.int .i64 0,.int .i64 0,.int .i64 0,.int .i64 0,.int .i64 0]) (t:=41) ?hr ?_;(case hd=>rfl);(case hg=>rfl);(case hr=>first|(go_simp;done)|(go_simp;rfl));intro gb157 hg w2 hbox hb;have n0_:=Aside0.mk (below_step zmb11_0 hb);have n1_:=Aside0.mk (hbox);have n2_:=Aside0.mk ((by rw [hg];exact (below_size zmb11_0):w.heap.size≤gb157));have n3_:=Aside0.mk ((by rw [hg];exact (below_size zmb11_0):w.heap.size≤gb157));clear HB;have HB:=n0_;have BK157:=n1_;have GW157:=n2_;have GE157:=n3_;clear n0_ n1_ n2_ n3_;clear hb hbox hg;have hcz3_0:w2.cell? ⟨gb157,0,none⟩ = some (.int .i64 0):=(blk_cell BK157.out 0).trans rfl;have hcz3_1:w2.cell? ⟨gb157,1,none⟩ = some (.int .i64 0):=(blk_cell BK157.out 1).trans rfl;have hcz3_2:w2.cell? ⟨gb157,2,none⟩ = some (.int .i64 0):=(blk_cell BK157.out 2).trans rfl;have hcz3_3:w2.cell? ⟨gb157,3,none⟩ = some (.int .i64 0):=(blk_cell BK157.out 3).trans rfl;have hcz3_4:w2.cell? ⟨gb157,4,none⟩ = some (.int .i64 0):=(blk_cell BK157.out 4).trans rfl;have hcz3_5:w2.cell? ⟨gb157,5,none⟩ = some (.int .i64 0):=(blk_cell BK157.out 5).trans rfl;have hcz3_6:w2.cell? ⟨gb157,6,none⟩ = some (.int .i64 0):=(blk_cell BK157.out 6).trans rfl;have hfz3_0:=blk_frozen BK157.out 0;have hfz3_1:=blk_frozen BK157.out 1;have hfz3_2:=blk_frozen BK157.out 2;have hfz3_3:=blk_frozen BK157.out 3;have hfz3_4:=blk_frozen BK157.out 4;have hfz3_5:=blk_frozen BK157.out 5;have hfz3_6:=blk_frozen BK157.out 6))
 refine bodyPost_ret (results_cell_row rfl _ _ gb157 41 #[.int .i64 2,.int .i64 0,.int .i64 0,.int .i64 0,.int .i64 0,.int .i64 0,.int .i64 a0] (0,0) _ rfl (by (with_reducible repeat (first|refine blk_drewN ?_ _|refine blk_drew ?_|refine blk_alloc ?_ _));refine blk_put (cs:=#[.int .i64 2,.int .i64 0,.int .i64 0,.int .i64 0,.int .i64 0,.int .i64 0,.int .i64 0]) ?_ 6 _ rfl;(with_reducible repeat (first|refine blk_drewN ?_ _|refine blk_drew ?_|refine blk_alloc ?_ _));refine blk_put (cs:=#[.int .i64 2,.int .i64 0,.int .i64 0,.int .i64 0,.int .i64 0,.int .i64 0,.int .i64 0]) ?_ 5 _ rfl;(with_reducible repeat (first|refine blk_drewN ?_ _|refine blk_drew ?_|refine blk_alloc ?_ _));refine blk_put (cs:=#[.int .i64 2,.int .i64 0,.int .i64 0,.int .i64 0,.int .i64 0,.int .i64 0,.int .i64 0]) ?_ 4 _ rfl;(with_reducible repeat (first|refine blk_drewN ?_ _|refine blk_drew ?_|refine blk_alloc ?_ _));refine blk_put (cs:=#[.int .i64 2,.int .i64 0,.int .i64 0,.int .i64 0,.int .i64 0,.int .i64 0,.int .i64 0]) ?_ 3 _ rfl;(with_reducible repeat (first|refine blk_drewN ?_ _|refine blk_drew ?_|refine blk_alloc ?_ _));refine blk_put (cs:=#[.int .i64 2,.int .i64 0,.int .i64 0,.int .i64 0,.int .i64 0,.int .i64 0,.int .i64 0]) ?_ 2 _ rfl;(with_reducible repeat (first|refine blk_drewN ?_ _|refine blk_drew ?_|refine blk_alloc ?_ _));refine blk_put (cs:=#[.int .i64 2,.int .i64 0,.int .i64 0,.int .i64 0,.int .i64 0,.int .i64 0,.int .i64 0]) ?_ 1 _ rfl;(with_reducible repeat (first|refine blk_drewN ?_ _|refine blk_drew ?_|refine blk_alloc ?_ _));refine blk_put (cs:=#[.int .i64 0,.int .i64 0,.int .i64 0,.int .i64 0,.int .i64 0,.int .i64 0,.int .i64 0]) ?_ 0 _ rfl;(with_reducible repeat (first|refine blk_drewN ?_ _|refine blk_drew ?_|refine blk_alloc ?_ _));exact BK157.out) Try.underlying41 rfl (by kernel_rfl)) rfl ?_
 exact ⟨zmb11_5,by repeat (first|(with_reducible first|exact HB.out|apply below_alloc|apply pw_below_drewN|apply below_drew1|refine below_set ?_ GE157.out)|exact HB.out)⟩
def asm_Branch.f (a0:Int) (a1:Int) (a2:Int) (a3:Int):Option (Int × Int × Int × Int × Int × Int × Int):=some (3,a0,0,a1,a2,0,a3)
set_option maxHeartbeats 8000000 in
set_option maxRecDepth 100000 in
theorem asm_Branch.calls (a0:Int) (a1:Int) (a2:Int) (a3:Int) (r1:Int) (r2:Int) (r3:Int) (r4:Int) (r5:Int) (r6:Int) (r7:Int) (w:World) (h:asm_Branch.f a0 a1 a2 a3 = some (r1,r2,r3,r4,r5,r6,r7)) :
  Calls Try.prog 20 #[.int .i64 a0,.int .i64 a1,.int .i64 a2,.int .i64 a3] w fun e w'=>e = .returned (.agg #[.int .i64 r1,.int .i64 r2,.int .i64 r3,.int .i64 r4,.int .i64 r5,.int .i64 r6,.int .i64 r7])∧Below w.heap.size w w':=by
 have hu41:=Try.underlying41
 have hu39:=Try.underlying39
 have HB:=Aside0.mk (Below.refl w.heap.size w)
 have H:(some (3,a0,0,a1,a2,0,a3)) = some (r1,r2,r3,r4,r5,r6,r7):=h
 clear h
 simp only [Option.some.injEq,Prod.mk.injEq] at H
 obtain ⟨rfl,rfl,rfl,rfl,rfl,rfl,rfl⟩:=H
 go_enter Try.func20,Try.ntmps20
 go_wp2_with (first|((with_reducible refine gate_dst (N:=8) rfl ?_);refine box_event ?hg (N:=8) ?hd (cs:=#[.int .i64 0,.int .i64 0,.int .i64 0,.int .i64 0,.int .i64 0,.int .i64 0,.int .i64 0]) (t:=41) ?hr ?_;(case hd=>rfl);(case hg=>rfl);(case hr=>first|(go_simp;done)|(go_simp;rfl));intro gb158 hg w5 hbox hb;have n0_:=Aside0.mk (below_step zmb11_0 hb);have n1_:=Aside0.mk (hbox);have n2_:=Aside0.mk ((by rw [hg];exact (below_size zmb11_0):w.heap.size≤gb158));have n3_:=Aside0.mk ((by rw [hg];exact (below_size zmb11_0):w.heap.size≤gb158));clear HB;have HB:=n0_;have BK158:=n1_;have GW158:=n2_;have GE158:=n3_;clear n0_ n1_ n2_ n3_;clear hb hbox hg;have hcz6_0:w5.cell? ⟨gb158,0,none⟩ = some (.int .i64 0):=(blk_cell BK158.out 0).trans rfl;have hcz6_1:w5.cell? ⟨gb158,1,none⟩ = some (.int .i64 0):=(blk_cell BK158.out 1).trans rfl;have hcz6_2:w5.cell? ⟨gb158,2,none⟩ = some (.int .i64 0):=(blk_cell BK158.out 2).trans rfl;have hcz6_3:w5.cell? ⟨gb158,3,none⟩ = some (.int .i64 0):=(blk_cell BK158.out 3).trans rfl;have hcz6_4:w5.cell? ⟨gb158,4,none⟩ = some (.int .i64 0):=(blk_cell BK158.out 4).trans rfl;have hcz6_5:w5.cell? ⟨gb158,5,none⟩ = some (.int .i64 0):=(blk_cell BK158.out 5).trans rfl;have hcz6_6:w5.cell? ⟨gb158,6,none⟩ = some (.int .i64 0):=(blk_cell BK158.out 6).trans rfl;have hfz6_0:=blk_frozen BK158.out 0;have hfz6_1:=blk_frozen BK158.out 1;have hfz6_2:=blk_frozen BK158.out 2;have hfz6_3:=blk_frozen BK158.out 3;have hfz6_4:=blk_frozen BK158.out 4;have hfz6_5:=blk_frozen BK158.out 5;have hfz6_6:=blk_frozen BK158.out 6))
 refine bodyPost_ret (results_cell_row rfl _ _ gb158 41 #[.int .i64 3,.int .i64 a0,.int .i64 0,.int .i64 a1,.int .i64 a2,.int .i64 0,.int .i64 a3] (0,0) _ rfl (by (with_reducible repeat (first|refine blk_drewN ?_ _|refine blk_drew ?_|refine blk_alloc ?_ _));refine blk_put (cs:=#[.int .i64 3,.int .i64 a0,.int .i64 0,.int .i64 a1,.int .i64 a2,.int .i64 0,.int .i64 0]) ?_ 6 _ rfl;(with_reducible repeat (first|refine blk_drewN ?_ _|refine blk_drew ?_|refine blk_alloc ?_ _));refine blk_put (cs:=#[.int .i64 3,.int .i64 a0,.int .i64 0,.int .i64 a1,.int .i64 a2,.int .i64 0,.int .i64 0]) ?_ 5 _ rfl;(with_reducible repeat (first|refine blk_drewN ?_ _|refine blk_drew ?_|refine blk_alloc ?_ _));refine blk_put (cs:=#[.int .i64 3,.int .i64 a0,.int .i64 0,.int .i64 a1,.int .i64 0,.int .i64 0,.int .i64 0]) ?_ 4 _ rfl;(with_reducible repeat (first|refine blk_drewN ?_ _|refine blk_drew ?_|refine blk_alloc ?_ _));refine blk_put (cs:=#[.int .i64 3,.int .i64 a0,.int .i64 0,.int .i64 0,.int .i64 0,.int .i64 0,.int .i64 0]) ?_ 3 _ rfl;(with_reducible repeat (first|refine blk_drewN ?_ _|refine blk_drew ?_|refine blk_alloc ?_ _));refine blk_put (cs:=#[.int .i64 3,.int .i64 a0,.int .i64 0,.int .i64 0,.int .i64 0,.int .i64 0,.int .i64 0]) ?_ 2 _ rfl;(with_reducible repeat (first|refine blk_drewN ?_ _|refine blk_drew ?_|refine blk_alloc ?_ _));refine blk_put (cs:=#[.int .i64 3,.int .i64 0,.int .i64 0,.int .i64 0,.int .i64 0,.int .i64 0,.int .i64 0]) ?_ 1 _ rfl;(with_reducible repeat (first|refine blk_drewN ?_ _|refine blk_drew ?_|refine blk_alloc ?_ _));refine blk_put (cs:=#[.int .i64 0,.int .i64 0,.int .i64 0,.int .i64 0,.int .i64 0,.int .i64 0,.int .i64 0]) ?_ 0 _ rfl;(with_reducible repeat (first|refine blk_drewN ?_ _|refine blk_drew ?_|refine blk_alloc ?_ _));exact BK158.out) Try.underlying41 rfl (by kernel_rfl)) rfl ?_
 exact ⟨zmb11_5,by repeat (first|(with_reducible first|exact HB.out|apply below_alloc|apply pw_below_drewN|apply below_drew1|refine below_set ?_ GE158.out)|exact HB.out)⟩
def rushlightlaw05_awake.f (k:Nat) :Option (Bool):=(asm_Label.f 0).bind fun bt159=>((asm_Inst.f 19 1 1 0 (-1)).bind fun bt166=>((asm_Branch.f 6 1 0 0).bind fun bt173=>((asm_Assemble.f k (([(⟨bt159.1,(⟨bt159.2.1,bt159.2.2.1,bt159.2.2.2.1,bt159.2.2.2.2.1,bt159.2.2.2.2.2.1⟩:S39),bt159.2.2.2.2.2.2⟩:S41),(⟨bt166.1,(⟨bt166.2.1,bt166.2.2.1,bt166.2.2.2.1,bt166.2.2.2.2.1,bt166.2.2.2.2.2.1⟩:S39),bt166.2.2.2.2.2.2⟩:S41),(⟨bt173.1,(⟨bt173.2.1,bt173.2.2.1,bt173.2.2.2.1,bt173.2.2.2.2.1,bt173.2.2.2.2.2.1⟩:S39),bt173.2.2.2.2.2.2⟩:S41)]:List (S41)))).bind fun bt183=>((asm_Const.f 5 305419896).bind fun bt190=>((asm_Assemble.f k (([(⟨bt190.1,(⟨bt190.2.1,bt190.2.2.1,bt190.2.2.2.1,bt190.2.2.2.2.1,bt190.2.2.2.2.2.1⟩:S39),bt190.2.2.2.2.2.2⟩:S41)]:List (S41)))).bind fun bt200=>(if bt183.2.2 = 0 then (if bt200.2.2 = 0 then (if (bt183.1.length:Int) = 2 then (if 1 < (bt183.1.length:Int) then (if (rd bt183.1 1) = 4261453539 then (if (bt183.2.1.length:Int) = 1 then (if 0 < (bt183.2.1.length:Int) then (if (rd bt183.2.1 0) = 0 then (if (bt200.1.length:Int) = 2 then (if 0 < (bt200.1.length:Int) then (if (rd bt200.1 0) = 305418935 then (if 1 < (bt200.1.length:Int) then (some ((rd bt200.1 1) == 1736606355)) else (none)) else (some false)) else (none)) else (some false)) else (some false)) else (none)) else (some false)) else (some false)) else (none)) else (some false)) else (some false)) else (some false)))))))
theorem rushlightlaw05_awake.mono:∀ k,LeO (rushlightlaw05_awake.f k ) (rushlightlaw05_awake.f (k + 1) ):=by
 intro  k
 unfold rushlightlaw05_awake.f
 repeat' first
   | (with_reducible exact asm_Assemble.mono _ _)
   | (with_reducible exact LeO.refl _)
   | (with_reducible exact LeO.none _)
   | (with_reducible refine LeO.ite ?_ ?_)
   | (with_reducible refine LeO.bind ?_ (fun _=>?_))
   | exact asm_Assemble.mono _ _
   | exact LeO.none _
   | refine LeO.ite ?_ ?_
   | refine LeO.bind ?_ (fun _=>?_)
set_option maxHeartbeats 8000000 in
set_option maxRecDepth 100000 in
theorem rushlightlaw05_awake.calls (k:Nat)  (r:Bool) (w:World) (h:rushlightlaw05_awake.f k  = some r) :
  Calls Try.prog 8 #[] w fun e w'=>e = .returned (.bool r)∧Below w.heap.size w w':=by
 have HR_:Aside0 (r = true):=by
  have up:∀ d,rushlightlaw05_awake.f (k + d) = some r:=by
   intro d
   induction d with
   | zero=>exact h
   | succ d ih=>exact rushlightlaw05_awake.mono (k + d) _ ih
  have up2:∀ d,rushlightlaw05_awake.f (60 + d) = some true:=by
   intro d
   induction d with
   | zero=>kernel_rfl
   | succ d ih=>exact rushlightlaw05_awake.mono (60 + d) _ ih
  have h2:=up2 k
  rw [Nat.add_comm,up 60] at h2
  exact ⟨Option.some.inj h2⟩
 have HB:=Aside0.mk (Below.refl w.heap.size w)
 have H:((asm_Label.f 0).bind fun bt159=>((asm_Inst.f 19 1 1 0 (-1)).bind fun bt166=>((asm_Branch.f 6 1 0 0).bind fun bt173=>((asm_Assemble.f k (([(⟨bt159.1,(⟨bt159.2.1,bt159.2.2.1,bt159.2.2.2.1,bt159.2.2.2.2.1,bt159.2.2.2.2.2.1⟩:S39),bt159.2.2.2.2.2.2⟩:S41),(⟨bt166.1,(⟨bt166.2.1,bt166.2.2.1,bt166.2.2.2.1,bt166.2.2.2.2.1,bt166.2.2.2.2.2.1⟩:S39),bt166.2.2.2.2.2.2⟩:S41),(⟨bt173.1,(⟨bt173.2.1,bt173.2.2.1,bt173.2.2.2.1,bt173.2.2.2.2.1,bt173.2.2.2.2.2.1⟩:S39),bt173.2.2.2.2.2.2⟩:S41)]:List (S41)))).bind fun bt183=>((asm_Const.f 5 305419896).bind fun bt190=>((asm_Assemble.f k (([(⟨bt190.1,(⟨bt190.2.1,bt190.2.2.1,bt190.2.2.2.1,bt190.2.2.2.2.1,bt190.2.2.2.2.2.1⟩:S39),bt190.2.2.2.2.2.2⟩:S41)]:List (S41)))).bind fun bt200=>(if bt183.2.2 = 0 then (if bt200.2.2 = 0 then (if (bt183.1.length:Int) = 2 then (if 1 < (bt183.1.length:Int) then (if (rd bt183.1 1) = 4261453539 then (if (bt183.2.1.length:Int) = 1 then (if 0 < (bt183.2.1.length:Int) then (if (rd bt183.2.1 0) = 0 then (if (bt200.1.length:Int) = 2 then (if 0 < (bt200.1.length:Int) then (if (rd bt200.1 0) = 305418935 then (if 1 < (bt200.1.length:Int) then (some ((rd bt200.1 1) == 1736606355)) else (none)) else (some false)) else (none)) else (some false)) else (some false)) else (none)) else (some false)) else (some false)) else (none)) else (some false)) else (some false)) else (some false)))))))) = some r:=h
 clear h
 replace H:=Option.bind_eq_some_iff.mp H
 obtain ⟨⟨t159,t160,t161,t162,t163,t164,t165⟩,A10,H⟩:=H
 replace H:((asm_Inst.f 19 1 1 0 (-1)).bind fun bt166=>((asm_Branch.f 6 1 0 0).bind fun bt173=>((asm_Assemble.f k (([(⟨t159,(⟨t160,t161,t162,t163,t164⟩:S39),t165⟩:S41),(⟨bt166.1,(⟨bt166.2.1,bt166.2.2.1,bt166.2.2.2.1,bt166.2.2.2.2.1,bt166.2.2.2.2.2.1⟩:S39),bt166.2.2.2.2.2.2⟩:S41),(⟨bt173.1,(⟨bt173.2.1,bt173.2.2.1,bt173.2.2.2.1,bt173.2.2.2.2.1,bt173.2.2.2.2.2.1⟩:S39),bt173.2.2.2.2.2.2⟩:S41)]:List (S41)))).bind fun bt183=>((asm_Const.f 5 305419896).bind fun bt190=>((asm_Assemble.f k (([(⟨bt190.1,(⟨bt190.2.1,bt190.2.2.1,bt190.2.2.2.1,bt190.2.2.2.2.1,bt190.2.2.2.2.2.1⟩:S39),bt190.2.2.2.2.2.2⟩:S41)]:List (S41)))).bind fun bt200=>(if bt183.2.2 = 0 then (if bt200.2.2 = 0 then (if (bt183.1.length:Int) = 2 then (if 1 < (bt183.1.length:Int) then (if (rd bt183.1 1) = 4261453539 then (if (bt183.2.1.length:Int) = 1 then (if 0 < (bt183.2.1.length:Int) then (if (rd bt183.2.1 0) = 0 then (if (bt200.1.length:Int) = 2 then (if 0 < (bt200.1.length:Int) then (if (rd bt200.1 0) = 305418935 then (if 1 < (bt200.1.length:Int) then (some ((rd bt200.1 1) == 1736606355)) else (none)) else (some false)) else (none)) else (some false)) else (some false)) else (none)) else (some false)) else (some false)) else (none)) else (some false)) else (some false)) else (some false))))))) = some r:=H
 have A1:=Aside0.mk A10
 clear A10
 replace H:=Option.bind_eq_some_iff.mp H
 obtain ⟨⟨t166,t167,t168,t169,t170,t171,t172⟩,A20,H⟩:=H
 replace H:((asm_Branch.f 6 1 0 0).bind fun bt173=>((asm_Assemble.f k (([(⟨t159,(⟨t160,t161,t162,t163,t164⟩:S39),t165⟩:S41),(⟨t166,(⟨t167,t168,t169,t170,t171⟩:S39),t172⟩:S41),(⟨bt173.1,(⟨bt173.2.1,bt173.2.2.1,bt173.2.2.2.1,bt173.2.2.2.2.1,bt173.2.2.2.2.2.1⟩:S39),bt173.2.2.2.2.2.2⟩:S41)]:List (S41)))).bind fun bt183=>((asm_Const.f 5 305419896).bind fun bt190=>((asm_Assemble.f k (([(⟨bt190.1,(⟨bt190.2.1,bt190.2.2.1,bt190.2.2.2.1,bt190.2.2.2.2.1,bt190.2.2.2.2.2.1⟩:S39),bt190.2.2.2.2.2.2⟩:S41)]:List (S41)))).bind fun bt200=>(if bt183.2.2 = 0 then (if bt200.2.2 = 0 then (if (bt183.1.length:Int) = 2 then (if 1 < (bt183.1.length:Int) then (if (rd bt183.1 1) = 4261453539 then (if (bt183.2.1.length:Int) = 1 then (if 0 < (bt183.2.1.length:Int) then (if (rd bt183.2.1 0) = 0 then (if (bt200.1.length:Int) = 2 then (if 0 < (bt200.1.length:Int) then (if (rd bt200.1 0) = 305418935 then (if 1 < (bt200.1.length:Int) then (some ((rd bt200.1 1) == 1736606355)) else (none)) else (some false)) else (none)) else (some false)) else (some false)) else (none)) else (some false)) else (some false)) else (none)) else (some false)) else (some false)) else (some false)))))) = some r:=H
 have A2:=Aside0.mk A20
 clear A20
 replace H:=Option.bind_eq_some_iff.mp H
 obtain ⟨⟨t173,t174,t175,t176,t177,t178,t179⟩,A30,H⟩:=H
 replace H:((asm_Assemble.f k (([(⟨t159,(⟨t160,t161,t162,t163,t164⟩:S39),t165⟩:S41),(⟨t166,(⟨t167,t168,t169,t170,t171⟩:S39),t172⟩:S41),(⟨t173,(⟨t174,t175,t176,t177,t178⟩:S39),t179⟩:S41)]:List (S41)))).bind fun bt183=>((asm_Const.f 5 305419896).bind fun bt190=>((asm_Assemble.f k (([(⟨bt190.1,(⟨bt190.2.1,bt190.2.2.1,bt190.2.2.2.1,bt190.2.2.2.2.1,bt190.2.2.2.2.2.1⟩:S39),bt190.2.2.2.2.2.2⟩:S41)]:List (S41)))).bind fun bt200=>(if bt183.2.2 = 0 then (if bt200.2.2 = 0 then (if (bt183.1.length:Int) = 2 then (if 1 < (bt183.1.length:Int) then (if (rd bt183.1 1) = 4261453539 then (if (bt183.2.1.length:Int) = 1 then (if 0 < (bt183.2.1.length:Int) then (if (rd bt183.2.1 0) = 0 then (if (bt200.1.length:Int) = 2 then (if 0 < (bt200.1.length:Int) then (if (rd bt200.1 0) = 305418935 then (if 1 < (bt200.1.length:Int) then (some ((rd bt200.1 1) == 1736606355)) else (none)) else (some false)) else (none)) else (some false)) else (some false)) else (none)) else (some false)) else (some false)) else (none)) else (some false)) else (some false)) else (some false))))) = some r:=H
 have A3:=Aside0.mk A30
 clear A30
 obtain ⟨y180,hy180⟩:∃ y_:List (S41),y_ = (([(⟨t159,(⟨t160,t161,t162,t163,t164⟩:S39),t165⟩:S41),(⟨t166,(⟨t167,t168,t169,t170,t171⟩:S39),t172⟩:S41),(⟨t173,(⟨t174,t175,t176,t177,t178⟩:S39),t179⟩:S41)]:List (S41))):=⟨_,rfl⟩
 replace H:((asm_Assemble.f k y180).bind fun bt183=>((asm_Const.f 5 305419896).bind fun bt190=>((asm_Assemble.f k (([(⟨bt190.1,(⟨bt190.2.1,bt190.2.2.1,bt190.2.2.2.1,bt190.2.2.2.2.1,bt190.2.2.2.2.2.1⟩:S39),bt190.2.2.2.2.2.2⟩:S41)]:List (S41)))).bind fun bt200=>(if bt183.2.2 = 0 then (if bt200.2.2 = 0 then (if (bt183.1.length:Int) = 2 then (if 1 < (bt183.1.length:Int) then (if (rd bt183.1 1) = 4261453539 then (if (bt183.2.1.length:Int) = 1 then (if 0 < (bt183.2.1.length:Int) then (if (rd bt183.2.1 0) = 0 then (if (bt200.1.length:Int) = 2 then (if 0 < (bt200.1.length:Int) then (if (rd bt200.1 0) = 305418935 then (if 1 < (bt200.1.length:Int) then (some ((rd bt200.1 1) == 1736606355)) else (none)) else (some false)) else (none)) else (some false)) else (some false)) else (none)) else (some false)) else (some false)) else (none)) else (some false)) else (some false)) else (some false))))) = some r:=by first|(rw [hy180];with_reducible exact H)|(have H2_:=(Option.bind_some _ _).symm.trans H;rw [hy180];with_reducible exact H2_)|(have H2_:=(Option.bind_some _ _).symm.trans H;with_reducible exact H2_)|with_reducible exact H|(rw [hy180];exact H)|exact H
 have Ny180:=Aside0.mk hy180
 clear hy180
 replace H:=Option.bind_eq_some_iff.mp H
 obtain ⟨⟨t183,t184,t185⟩,A40,H⟩:=H
 replace H:((asm_Const.f 5 305419896).bind fun bt190=>((asm_Assemble.f k (([(⟨bt190.1,(⟨bt190.2.1,bt190.2.2.1,bt190.2.2.2.1,bt190.2.2.2.2.1,bt190.2.2.2.2.2.1⟩:S39),bt190.2.2.2.2.2.2⟩:S41)]:List (S41)))).bind fun bt200=>(if t185 = 0 then (if bt200.2.2 = 0 then (if (t183.length:Int) = 2 then (if 1 < (t183.length:Int) then (if (rd t183 1) = 4261453539 then (if (t184.length:Int) = 1 then (if 0 < (t184.length:Int) then (if (rd t184 0) = 0 then (if (bt200.1.length:Int) = 2 then (if 0 < (bt200.1.length:Int) then (if (rd bt200.1 0) = 305418935 then (if 1 < (bt200.1.length:Int) then (some ((rd bt200.1 1) == 1736606355)) else (none)) else (some false)) else (none)) else (some false)) else (some false)) else (none)) else (some false)) else (some false)) else (none)) else (some false)) else (some false)) else (some false)))) = some r:=H
 have A4:=Aside0.mk A40
 clear A40
 replace H:=Option.bind_eq_some_iff.mp H
 obtain ⟨⟨t190,t191,t192,t193,t194,t195,t196⟩,A50,H⟩:=H
 replace H:((asm_Assemble.f k (([(⟨t190,(⟨t191,t192,t193,t194,t195⟩:S39),t196⟩:S41)]:List (S41)))).bind fun bt200=>(if t185 = 0 then (if bt200.2.2 = 0 then (if (t183.length:Int) = 2 then (if 1 < (t183.length:Int) then (if (rd t183 1) = 4261453539 then (if (t184.length:Int) = 1 then (if 0 < (t184.length:Int) then (if (rd t184 0) = 0 then (if (bt200.1.length:Int) = 2 then (if 0 < (bt200.1.length:Int) then (if (rd bt200.1 0) = 305418935 then (if 1 < (bt200.1.length:Int) then (some ((rd bt200.1 1) == 1736606355)) else (none)) else (some false)) else (none)) else (some false)) else (some false)) else (none)) else (some false)) else (some false)) else (none)) else (some false)) else (some false)) else (some false))) = some r:=H
 have A5:=Aside0.mk A50
 clear A50
 obtain ⟨y197,hy197⟩:∃ y_:List (S41),y_ = (([(⟨t190,(⟨t191,t192,t193,t194,t195⟩:S39),t196⟩:S41)]:List (S41))):=⟨_,rfl⟩
 replace H:((asm_Assemble.f k y197).bind fun bt200=>(if t185 = 0 then (if bt200.2.2 = 0 then (if (t183.length:Int) = 2 then (if 1 < (t183.length:Int) then (if (rd t183 1) = 4261453539 then (if (t184.length:Int) = 1 then (if 0 < (t184.length:Int) then (if (rd t184 0) = 0 then (if (bt200.1.length:Int) = 2 then (if 0 < (bt200.1.length:Int) then (if (rd bt200.1 0) = 305418935 then (if 1 < (bt200.1.length:Int) then (some ((rd bt200.1 1) == 1736606355)) else (none)) else (some false)) else (none)) else (some false)) else (some false)) else (none)) else (some false)) else (some false)) else (none)) else (some false)) else (some false)) else (some false))) = some r:=by first|(rw [hy197];with_reducible exact H)|(have H2_:=(Option.bind_some _ _).symm.trans H;rw [hy197];with_reducible exact H2_)|(have H2_:=(Option.bind_some _ _).symm.trans H;with_reducible exact H2_)|with_reducible exact H|(rw [hy197];exact H)|exact H
 have Ny197:=Aside0.mk hy197
 clear hy197
 replace H:=Option.bind_eq_some_iff.mp H
 obtain ⟨⟨t200,t201,t202⟩,A60,H⟩:=H
 replace H:(if t185 = 0 then (if t202 = 0 then (if (t183.length:Int) = 2 then (if 1 < (t183.length:Int) then (if (rd t183 1) = 4261453539 then (if (t184.length:Int) = 1 then (if 0 < (t184.length:Int) then (if (rd t184 0) = 0 then (if (t200.length:Int) = 2 then (if 0 < (t200.length:Int) then (if (rd t200 0) = 305418935 then (if 1 < (t200.length:Int) then (some ((rd t200 1) == 1736606355)) else (none)) else (some false)) else (none)) else (some false)) else (some false)) else (none)) else (some false)) else (some false)) else (none)) else (some false)) else (some false)) else (some false)) = some r:=H
 have A6:=Aside0.mk A60
 clear A60
 by_cases c7:t185 = 0
 ·rw [if_pos c7] at H
  have c7b0:(t185 == 0) = true:=beq_iff_eq.mpr c7
  have c7b1:(t185 != 0) = false:=bne_eq_false_iff_eq.mpr c7
  clear c7
  by_cases c8:t202 = 0
  ·rw [if_pos c8] at H
   have c8b0:(t202 == 0) = true:=beq_iff_eq.mpr c8
   have c8b1:(t202 != 0) = false:=bne_eq_false_iff_eq.mpr c8
   clear c8
   by_cases c9:(t183.length:Int) = 2
   ·rw [if_pos c9] at H
    have c9b0:((t183.length:Int) == 2) = true:=beq_iff_eq.mpr c9
    have c9b1:((t183.length:Int) != 2) = false:=bne_eq_false_iff_eq.mpr c9
    clear c9
    by_cases c10:1 < (t183.length:Int)
    ·rw [if_pos c10] at H
     have c10b0:decide (1 < (t183.length:Int)) = true:=decide_eq_true c10
     have c10b1:decide (1 < t183.length) = true:=decide_eq_true (by omega)
     clear c10
     by_cases c11:(rd t183 1) = 4261453539
     ·rw [if_pos c11] at H
      have c11b0:((rd t183 1) == 4261453539) = true:=beq_iff_eq.mpr c11
      have c11b1:((rd t183 1) != 4261453539) = false:=bne_eq_false_iff_eq.mpr c11
      clear c11
      by_cases c12:(t184.length:Int) = 1
      ·rw [if_pos c12] at H
       have c12b0:((t184.length:Int) == 1) = true:=beq_iff_eq.mpr c12
       have c12b1:((t184.length:Int) != 1) = false:=bne_eq_false_iff_eq.mpr c12
       clear c12
       by_cases c13:0 < (t184.length:Int)
       ·rw [if_pos c13] at H
        have c13b0:decide (0 < (t184.length:Int)) = true:=decide_eq_true c13
        have c13b1:decide (0 < t184.length) = true:=decide_eq_true (by omega)
        clear c13
        by_cases c14:(rd t184 0) = 0
        ·rw [if_pos c14] at H
         have c14b0:((rd t184 0) == 0) = true:=beq_iff_eq.mpr c14
         have c14b1:((rd t184 0) != 0) = false:=bne_eq_false_iff_eq.mpr c14
         clear c14
         by_cases c15:(t200.length:Int) = 2
         ·rw [if_pos c15] at H
          have c15b0:((t200.length:Int) == 2) = true:=beq_iff_eq.mpr c15
          have c15b1:((t200.length:Int) != 2) = false:=bne_eq_false_iff_eq.mpr c15
          clear c15
          by_cases c16:0 < (t200.length:Int)
          ·rw [if_pos c16] at H
           have c16b0:decide (0 < (t200.length:Int)) = true:=decide_eq_true c16
           have c16b1:decide (0 < t200.length) = true:=decide_eq_true (by omega)
           clear c16
           by_cases c17:(rd t200 0) = 305418935
           ·rw [if_pos c17] at H
            have c17b0:((rd t200 0) == 305418935) = true:=beq_iff_eq.mpr c17
            have c17b1:((rd t200 0) != 305418935) = false:=bne_eq_false_iff_eq.mpr c17
            clear c17
            by_cases c18:1 < (t200.length:Int)
            ·rw [if_pos c18] at H
             have c18b0:decide (1 < (t200.length:Int)) = true:=decide_eq_true c18
             have c18b1:decide (1 < t200.length) = true:=decide_eq_true (by omega)
             clear c18
             obtain rfl:=Option.some.inj H
             go_enter Try.func8,Try.ntmps8
             go_wp2_with (first|((with_reducible refine gate_callee (f:=19) rfl ?_);refine goesL_ (some 8) rfl rfl Try.func19 (by kernel_rfl) rfl #[.int .i64 0] rfl zmb11_4 ?_;(with_reducible refine (asm_Label.calls 0 t159 t160 t161 t162 t163 t164 t165 _ A1.out).mono ?_);rintro e w19 ⟨rfl,hb⟩;refine ⟨_,rfl,?_⟩;have n0_:=Aside0.mk (below_step zmb11_0 hb);clear HB;have HB:=n0_;clear n0_;(try clear hb);(try clear hb2);(try clear hk);(try clear hi))|((with_reducible refine gate_callee (f:=13) rfl ?_);refine goesL_ (some 9) rfl rfl Try.func13 (by kernel_rfl) rfl #[.int .i64 19,.int .i64 1,.int .i64 1,.int .i64 0,.int .i64 (-1)] rfl zmb11_4 ?_;(with_reducible refine (asm_Inst.calls 19 1 1 0 (-1) t166 t167 t168 t169 t170 t171 t172 _ A2.out).mono ?_);rintro e w20 ⟨rfl,hb⟩;refine ⟨_,rfl,?_⟩;have n0_:=Aside0.mk (below_step zmb11_0 hb);clear HB;have HB:=n0_;clear n0_;(try clear hb);(try clear hb2);(try clear hk);(try clear hi))|((with_reducible refine gate_callee (f:=20) rfl ?_);refine goesL_ (some 10) rfl rfl Try.func20 (by kernel_rfl) rfl #[.int .i64 6,.int .i64 1,.int .i64 0,.int .i64 0] rfl zmb11_4 ?_;(with_reducible refine (asm_Branch.calls 6 1 0 0 t173 t174 t175 t176 t177 t178 t179 _ A3.out).mono ?_);rintro e w21 ⟨rfl,hb⟩;refine ⟨_,rfl,?_⟩;have n0_:=Aside0.mk (below_step zmb11_0 hb);clear HB;have HB:=n0_;clear n0_;(try clear hb);(try clear hb2);(try clear hk);(try clear hi))|((with_reducible refine gate_dst (N:=11) rfl ?_);(try (refine gate_guard (by rfl) ?_;dsimp only));refine Kd.R_lit k41 _ 41 ?hg (N:=11) ?hd (xs:=([(⟨t159,(⟨t160,t161,t162,t163,t164⟩:S39),t165⟩:S41),(⟨t166,(⟨t167,t168,t169,t170,t171⟩:S39),t172⟩:S41),(⟨t173,(⟨t174,t175,t176,t177,t178⟩:S39),t179⟩:S41)]:List (S41))) (inner:=[.int .i64 t159,.int .i64 t160,.int .i64 t161,.int .i64 t162,.int .i64 t163,.int .i64 t164,.int .i64 t165,.int .i64 t166,.int .i64 t167,.int .i64 t168,.int .i64 t169,.int .i64 t170,.int .i64 t171,.int .i64 t172,.int .i64 t173,.int .i64 t174,.int .i64 t175,.int .i64 t176,.int .i64 t177,.int .i64 t178,.int .i64 t179]) (ok:=fun _=>True) (okp:=fun _=>True) ?hr ?hp (fun _ hk=>hk) trivial (Below.refl _ _) (Nat.le_refl _) (by simp) ?_;(case hd=>rfl);(case hg=>rfl);(case hr=>first|(go_simp;done)|(go_simp;rfl));(case hp=>exact (Reps.c7 (show Kd.M k41 _ _ _ (⟨t159,(⟨t160,t161,t162,t163,t164⟩:S39),t165⟩:S41) [.int .i64 t159,.int .i64 t160,.int .i64 t161,.int .i64 t162,.int .i64 t163,.int .i64 t164,.int .i64 t165] from (k41_mkM _ _ _ (⟨t159,(⟨t160,t161,t162,t163,t164⟩:S39),t165⟩:S41) )) (Reps.c7 (show Kd.M k41 _ _ _ (⟨t166,(⟨t167,t168,t169,t170,t171⟩:S39),t172⟩:S41) [.int .i64 t166,.int .i64 t167,.int .i64 t168,.int .i64 t169,.int .i64 t170,.int .i64 t171,.int .i64 t172] from (k41_mkM _ _ _ (⟨t166,(⟨t167,t168,t169,t170,t171⟩:S39),t172⟩:S41) )) (Reps.c7 (show Kd.M k41 _ _ _ (⟨t173,(⟨t174,t175,t176,t177,t178⟩:S39),t179⟩:S41) [.int .i64 t173,.int .i64 t174,.int .i64 t175,.int .i64 t176,.int .i64 t177,.int .i64 t178,.int .i64 t179] from (k41_mkM _ _ _ (⟨t173,(⟨t174,t175,t176,t177,t178⟩:S39),t179⟩:S41) )) (Reps.none _ _)))));intro v181 w22 ho23 hb hg_ hnew_;clear hg_ hnew_;(first|rw [← Ny180.out] at ho23|(simp only [Int.reduceToNat] at ho23;rw [← Ny180.out] at ho23));have n0_:=Aside0.mk (Kd.R_lower ho23 (below_size zmb11_0));have n1_:=Aside0.mk (below_step zmb11_0 hb);clear HB;have HO182:=n0_;have HB:=n1_;clear n0_ n1_;clear hb ho23;obtain ⟨Ao24,co24,eo24⟩:=Kd.R_slice HO182.out;subst eo24)|((with_reducible refine gate_callee (f:=10) rfl ?_);refine goesL_ (some 12) rfl rfl Try.func10 (by kernel_rfl) rfl #[.slice Ao24 y180.length co24] rfl zmb11_4 ?_;(with_reducible refine (asm_Assemble.calls k _ _ y180 t183 t184 t185 _ ?side1 ?side2 A4.out).mono ?_);(case side1=>repeat (first|exact (Kd.R_reads' HO182.out).2.2|(with_reducible refine Kd.C_alloc ?_ _)|(with_reducible refine Kd.C_drewN ?_ _)|(with_reducible refine Kd.C_drew ?_)));(case side2=>exact (Kd.R_reads' HO182.out).2.1);rintro e w25 ⟨v186,v188,rfl,ho0,ho1,hb⟩;refine ⟨_,rfl,?_⟩;have n0_:=Aside0.mk (Kd.R_below zmb11_7 hb);have n1_:=Aside0.mk (Kd.R_lower ho0 (below_size zmb11_0));have n2_:=Aside0.mk (Kd.R_lower ho1 (below_size zmb11_0));have n3_:=Aside0.mk (below_step zmb11_0 hb);clear HO182 HB;have HO182:=n0_;have HO187:=n1_;have HO189:=n2_;have HB:=n3_;clear n0_ n1_ n2_ n3_;(try clear hb);(try clear hb2);(try clear hk);(try clear hi);(try clear ho0);(try clear ho1))|((with_reducible refine gate_callee (f:=18) rfl ?_);refine goesL_ (some 17) rfl rfl Try.func18 (by kernel_rfl) rfl #[.int .i64 5,.int .u32 305419896] rfl zmb11_4 ?_;(with_reducible refine (asm_Const.calls 5 305419896 t190 t191 t192 t193 t194 t195 t196 _ A5.out).mono ?_);rintro e w26 ⟨rfl,hb⟩;refine ⟨_,rfl,?_⟩;have n0_:=Aside0.mk (Kd.R_below zmb11_7 hb);have n1_:=Aside0.mk (Kd.R_below zmb11_8 hb);have n2_:=Aside0.mk (Kd.R_below zmb11_9 hb);have n3_:=Aside0.mk (below_step zmb11_0 hb);clear HO182 HO187 HO189 HB;have HO182:=n0_;have HO187:=n1_;have HO189:=n2_;have HB:=n3_;clear n0_ n1_ n2_ n3_;(try clear hb);(try clear hb2);(try clear hk);(try clear hi))|((with_reducible refine gate_dst (N:=18) rfl ?_);(try (refine gate_guard (by rfl) ?_;dsimp only));refine Kd.R_lit k41 _ 41 ?hg (N:=18) ?hd (xs:=([(⟨t190,(⟨t191,t192,t193,t194,t195⟩:S39),t196⟩:S41)]:List (S41))) (inner:=[.int .i64 t190,.int .i64 t191,.int .i64 t192,.int .i64 t193,.int .i64 t194,.int .i64 t195,.int .i64 t196]) (ok:=fun _=>True) (okp:=fun _=>True) ?hr ?hp (fun _ hk=>hk) trivial (Below.refl _ _) (Nat.le_refl _) (by simp) ?_;(case hd=>rfl);(case hg=>rfl);(case hr=>first|(go_simp;done)|(go_simp;rfl));(case hp=>exact (Reps.c7 (show Kd.M k41 _ _ _ (⟨t190,(⟨t191,t192,t193,t194,t195⟩:S39),t196⟩:S41) [.int .i64 t190,.int .i64 t191,.int .i64 t192,.int .i64 t193,.int .i64 t194,.int .i64 t195,.int .i64 t196] from (k41_mkM _ _ _ (⟨t190,(⟨t191,t192,t193,t194,t195⟩:S39),t196⟩:S41) )) (Reps.none _ _)));intro v198 w27 ho28 hb hg_ hnew_;clear hg_ hnew_;(first|rw [← Ny197.out] at ho28|(simp only [Int.reduceToNat] at ho28;rw [← Ny197.out] at ho28));have n0_:=Aside0.mk (Kd.R_elder' zmb11_7 (Kd.R_base ho28) hb);have n1_:=Aside0.mk (Kd.R_below zmb11_8 hb);have n2_:=Aside0.mk (Kd.R_below zmb11_9 hb);have n3_:=Aside0.mk (Kd.R_lower (Kd.R_new' ho28 (Kd.R_lt zmb11_7)) (below_size zmb11_0));have n4_:=Aside0.mk (below_step zmb11_0 hb);clear HO182 HO187 HO189 HB;have HO182:=n0_;have HO187:=n1_;have HO189:=n2_;have HO199:=n3_;have HB:=n4_;clear n0_ n1_ n2_ n3_ n4_;clear hb ho28;obtain ⟨Ao29,co29,eo29⟩:=Kd.R_slice HO199.out;subst eo29)|((with_reducible refine gate_callee (f:=10) rfl ?_);refine goesL_ (some 19) rfl rfl Try.func10 (by kernel_rfl) rfl #[.slice Ao29 y197.length co29] rfl zmb11_4 ?_;(with_reducible refine (asm_Assemble.calls k _ _ y197 t200 t201 t202 _ ?side1 ?side2 A6.out).mono ?_);(case side1=>repeat (first|exact (Kd.R_reads' HO199.out).2.2|(with_reducible refine Kd.C_alloc ?_ _)|(with_reducible refine Kd.C_drewN ?_ _)|(with_reducible refine Kd.C_drew ?_)));(case side2=>exact (Kd.R_reads' HO199.out).2.1);rintro e w30 ⟨v203,v205,rfl,ho0,ho1,hb⟩;refine ⟨_,rfl,?_⟩;have n0_:=Aside0.mk (Kd.R_below zmb11_7 hb);have n1_:=Aside0.mk (Kd.R_elder' zmb11_8 (Kd.R_base ho0) hb);have n2_:=Aside0.mk (Kd.R_elder' zmb11_9 (Kd.R_base ho1) hb);have n3_:=Aside0.mk (Kd.R_below (by (with_reducible repeat (first|apply Kd.R_alloc|apply Kd.R_drewN|apply Kd.R_drew));exact HO199.out) hb);have n4_:=Aside0.mk (Kd.R_lower (Kd.R_new' ho0 (Kd.R_lt zmb11_8)) (below_size zmb11_0));have n5_:=Aside0.mk (Kd.R_lower (Kd.R_new' ho1 (Kd.R_lt zmb11_9)) (below_size zmb11_0));have n6_:=Aside0.mk (below_step zmb11_0 hb);clear HO182 HO187 HO189 HO199 HB;have HO182:=n0_;have HO187:=n1_;have HO189:=n2_;have HO199:=n3_;have HO204:=n4_;have HO206:=n5_;have HB:=n6_;clear n0_ n1_ n2_ n3_ n4_ n5_ n6_;(try clear hb);(try clear hb2);(try clear hk);(try clear hi);(try clear ho0);(try clear ho1);obtain ⟨Ao31,co31,eo31⟩:=Kd.R_slice HO187.out;subst eo31;have p207:0≤(1:Int):=(by omega);have q207:1 < (t183.length:Int):=of_decide_eq_true zmb11_10;obtain ⟨ad207,e207,hx207_0⟩:=Kd.at_int (Kd.R_reads' HO187.out).2.2 1 p207 q207;cases e207;(try simp only [show (1:Int).toNat = 1 from rfl,Nat.reduceMul,Nat.reduceEqDiff,Go.Addr.add,↓reduceIte] at hx207_0);have qi207:(1 < t183.length) = True:=eq_true (by omega);(try rw [show ((1:Int)).toNat = 1 from rfl] at hx207_0);replace p207:=eq_true p207;replace q207:=eq_true q207;obtain ⟨Ao32,co32,eo32⟩:=Kd.R_slice HO189.out;subst eo32;have p208:0≤(0:Int):=(by omega);have q208:0 < (t184.length:Int):=of_decide_eq_true zmb11_10;obtain ⟨ad208,e208,hx208_0⟩:=Kd.at_int (Kd.R_reads' HO189.out).2.2 0 p208 q208;cases e208;have qi208:(0 < t184.length) = True:=eq_true (by omega);(try rw [show ((0:Int)).toNat = 0 from rfl] at hx208_0);(try rw [Addr.add_zero'] at hx208_0);replace p208:=eq_true p208;replace q208:=eq_true q208;obtain ⟨Ao33,co33,eo33⟩:=Kd.R_slice HO204.out;subst eo33;have p209:0≤(0:Int):=(by omega);have q209:0 < (t200.length:Int):=of_decide_eq_true zmb11_10;obtain ⟨ad209,e209,hx209_0⟩:=Kd.at_int (Kd.R_reads' HO204.out).2.2 0 p209 q209;cases e209;have qi209:(0 < t200.length) = True:=eq_true (by omega);(try rw [show ((0:Int)).toNat = 0 from rfl] at hx209_0);(try rw [Addr.add_zero'] at hx209_0);replace p209:=eq_true p209;replace q209:=eq_true q209;have p210:0≤(1:Int):=(by omega);have q210:1 < (t200.length:Int):=of_decide_eq_true zmb11_10;obtain ⟨ad210,e210,hx210_0⟩:=Kd.at_int (Kd.R_reads' HO204.out).2.2 1 p210 q210;obtain rfl:ad209 = ad210:=(by injection e210);(try simp only [show (1:Int).toNat = 1 from rfl,Nat.reduceMul,Nat.reduceEqDiff,Go.Addr.add,↓reduceIte] at hx210_0);have qi210:(1 < t200.length) = True:=eq_true (by omega);(try rw [show ((1:Int)).toNat = 1 from rfl] at hx210_0);replace p210:=eq_true p210;replace q210:=eq_true q210))
             go_ret
             exact ⟨zmb11_5,zmb11_0⟩
            ·rw [if_neg c18] at H
             exact absurd H (by simp)
           ·rw [if_neg c17] at H
            exact absurd (H.trans (congrArg some HR_.out)) (by simp)
          ·rw [if_neg c16] at H
           exact absurd H (by simp)
         ·rw [if_neg c15] at H
          exact absurd (H.trans (congrArg some HR_.out)) (by simp)
        ·rw [if_neg c14] at H
         exact absurd (H.trans (congrArg some HR_.out)) (by simp)
       ·rw [if_neg c13] at H
        exact absurd H (by simp)
      ·rw [if_neg c12] at H
       exact absurd (H.trans (congrArg some HR_.out)) (by simp)
     ·rw [if_neg c11] at H
      exact absurd (H.trans (congrArg some HR_.out)) (by simp)
    ·rw [if_neg c10] at H
     exact absurd H (by simp)
   ·rw [if_neg c9] at H
    exact absurd (H.trans (congrArg some HR_.out)) (by simp)
  ·rw [if_neg c8] at H
   exact absurd (H.trans (congrArg some HR_.out)) (by simp)
 ·rw [if_neg c7] at H
  exact absurd (H.trans (congrArg some HR_.out)) (by simp)
mutual
def rushlightlaw05_Padded.l0:Nat→List (S41)→Int→Int→List (S41)→Int→Option ((List (S41)))
 | 0,_,_,_,_,_=>none
 | k + 1,x0,x1,x2,x7,x8=>if x8 < (x0.length:Int) then (if 0≤x8 then (if x7.length < 2513169434916 then (rushlightlaw05_Padded.l1 k x0 x1 x2 (x7 ++ [(⟨(rd_T41 x0 x8).f0,(⟨(rd_T41 x0 x8).f1.f0,(rd_T41 x0 x8).f1.f1,(rd_T41 x0 x8).f1.f2,(rd_T41 x0 x8).f1.f3,(rd_T41 x0 x8).f1.f4⟩:S39),(rd_T41 x0 x8).f2⟩:S41)]) x8 0) else (none)) else (none)) else (some x7)
def rushlightlaw05_Padded.l1:Nat→List (S41)→Int→Int→List (S41)→Int→Int→Option ((List (S41)))
 | 0,_,_,_,_,_,_=>none
 | k + 1,x0,x1,x2,x7,x8,x9=>if x8 = x1 then (if x9 < x2 then (if x9 < 1100 then (if x7.length < 2513169434916 then (rushlightlaw05_Padded.l1 k x0 x1 x2 (x7 ++ [(⟨1,(⟨19,0,0,0,0⟩:S39),0⟩:S41)]) x8 (wrap64 (x9 + 1))) else (none)) else (rushlightlaw05_Padded.l0 k x0 x1 x2 x7 (wrap64 (x8 + 1)))) else (rushlightlaw05_Padded.l0 k x0 x1 x2 x7 (wrap64 (x8 + 1)))) else (rushlightlaw05_Padded.l0 k x0 x1 x2 x7 (wrap64 (x8 + 1)))
end
def rushlightlaw05_Padded.f (k:Nat) (l0:List (S41)) (a1:Int) (a2:Int):Option ((List (S41))):=rushlightlaw05_Padded.l0 k l0 a1 a2 ([]:List (S41)) 0
set_option maxHeartbeats 8000000 in
set_option maxRecDepth 100000 in
theorem rushlightlaw05_Padded.calls (k:Nat) (A0:Option Addr) (c0:Nat) (l0:List (S41)) (a1:Int) (a2:Int) (r:List (S41)) (w:World) (hr0:Kd.C k41 w A0 l0.length l0) (hc0:l0.length≤c0) (h:rushlightlaw05_Padded.f k l0 a1 a2 = some r) :
  Calls Try.prog 9 #[.slice A0 l0.length c0,.int .i64 a1,.int .i64 a2] w fun e w'=>∃ v0_:Value,e = .returned (v0_)∧Kd.R k41 41 w' w.heap.size (fun _=>True) v0_ r∧Below w.heap.size w w':=by
 have hu41:=Try.underlying41
 have hu39:=Try.underlying39
 have HR0:=Aside0.mk hr0
 have HC0:=Aside0.mk hc0
 clear hr0 hc0
 have HB:=Aside0.mk (Below.refl w.heap.size w)
 have H:(rushlightlaw05_Padded.l0 k l0 a1 a2 ([]:List (S41)) 0) = some r:=h
 clear h
 have H':=Aside0.mk H
 clear H
 go_enter Try.func9,Try.ntmps9
 go_wp2
 go_loopg [7,8] k (fun kq v7 v8 w'=>∃ (x7_1:List (S41)) (x8_1:Int),v8 = .int .i64 x8_1∧Aside0 (rushlightlaw05_Padded.l0 kq l0 a1 a2 x7_1 x8_1 = some r)∧Aside0 (kq≤k)∧Aside0 (Kd.R k41 41 w' w.heap.size (fun _=>True) v7 x7_1)∧Aside0 (Below w.heap.size w w'))
 case atStart=>exact ⟨(([]:List (S41))),(0),zmb11_1,H',⟨Nat.le_refl _⟩,⟨by first|exact Kd.R_nil _ _ _ _ _|exact Kd.N_nil _ _ _ _ _|exact Kd.V_nil _ _ _ _ _|exact Kd.Q_nil _ _ _ _ _|exact Kd.S_nil _ _ _ _ _⟩,⟨zmb11_0⟩⟩
 case round =>
  clear H'
  try clear p2
  obtain ⟨x7_1,x8_1,rfl,HA,HK1,HO_7,HB⟩:=hrel
  cases gk with
  | zero=>exact absurd HA.out (by simp [rushlightlaw05_Padded.l0])
  | succ k1 =>
   have H:=HA.out
   clear HA
   simp only [rushlightlaw05_Padded.l0] at H
   by_cases c4:x8_1 < (l0.length:Int)
   ·rw [if_pos c4] at H
    have c4b0:decide (x8_1 < (l0.length:Int)) = true:=decide_eq_true c4
    clear c4
    by_cases c5:0≤x8_1
    ·rw [if_pos c5] at H
     have c5b0:decide (0≤x8_1) = true:=decide_eq_true c5
     clear c5
     by_cases c6:x7_1.length < 2513169434916
     ·rw [if_pos c6] at H
      have LMc6:=Aside0.mk c6
      clear c6
      obtain ⟨y212,hy212⟩:∃ y_:List (S41),y_ = (x7_1 ++ [(⟨(rd_T41 l0 x8_1).f0,(⟨(rd_T41 l0 x8_1).f1.f0,(rd_T41 l0 x8_1).f1.f1,(rd_T41 l0 x8_1).f1.f2,(rd_T41 l0 x8_1).f1.f3,(rd_T41 l0 x8_1).f1.f4⟩:S39),(rd_T41 l0 x8_1).f2⟩:S41)]):=⟨_,rfl⟩
      replace H:(rushlightlaw05_Padded.l1 k1 l0 a1 a2 y212 x8_1 0) = some r:=by first|(rw [hy212];with_reducible exact H)|(have H2_:=(Option.bind_some _ _).symm.trans H;rw [hy212];with_reducible exact H2_)|(have H2_:=(Option.bind_some _ _).symm.trans H;with_reducible exact H2_)|with_reducible exact H|(rw [hy212];exact H)|exact H
      have Ny212:=Aside0.mk hy212
      clear hy212
      have H':=Aside0.mk H
      clear H
      have p211:0≤(x8_1:Int):=of_decide_eq_true zmb11_10
      have q211:x8_1 < (l0.length:Int):=of_decide_eq_true zmb11_10
      obtain ⟨ad211,e211,hx211_0,hx211_1,hx211_2,hx211_3,hx211_4,hx211_5,hx211_6⟩:=at_T41 HR0.out x8_1 p211 q211
      cases e211
      replace hx211_0:=(HB.out.cell (World.block_lt_of_cell? w _ hx211_0)).trans hx211_0
      replace hx211_1:=(HB.out.cell (World.block_lt_of_cell? w _ hx211_1)).trans hx211_1
      replace hx211_2:=(HB.out.cell (World.block_lt_of_cell? w _ hx211_2)).trans hx211_2
      replace hx211_3:=(HB.out.cell (World.block_lt_of_cell? w _ hx211_3)).trans hx211_3
      replace hx211_4:=(HB.out.cell (World.block_lt_of_cell? w _ hx211_4)).trans hx211_4
      replace hx211_5:=(HB.out.cell (World.block_lt_of_cell? w _ hx211_5)).trans hx211_5
      replace hx211_6:=(HB.out.cell (World.block_lt_of_cell? w _ hx211_6)).trans hx211_6
      replace p211:=eq_true p211
      replace q211:=eq_true q211
      go_wp2_with (first|((with_reducible refine gate_builtin (b:=.append) (xs:=#[.tmp 16,.tmp 21]) rfl ?_);at_builtin;refine Kd.R_append k41 (w0:=w) w.heap.size rfl (.tmp 16) (.tmp 21) 22 41 (.agg #[(.int .i64 0),(.int .i64 0),(.int .i64 0),(.int .i64 0),(.int .i64 0),(.int .i64 0),(.int .i64 0)]) 56 rfl Try.underlying22 info41 rfl (by decide) (by omega) u7 x7_1 (⟨(rd_T41 l0 x8_1).f0,(⟨(rd_T41 l0 x8_1).f1.f0,(rd_T41 l0 x8_1).f1.f1,(rd_T41 l0 x8_1).f1.f2,(rd_T41 l0 x8_1).f1.f3,(rd_T41 l0 x8_1).f1.f4⟩:S39),(rd_T41 l0 x8_1).f2⟩:S41) [.int .i64 ((rd_T41 l0 x8_1).f0),.int .i64 ((rd_T41 l0 x8_1).f1.f0),.int .i64 ((rd_T41 l0 x8_1).f1.f1),.int .i64 ((rd_T41 l0 x8_1).f1.f2),.int .i64 ((rd_T41 l0 x8_1).f1.f3),.int .i64 ((rd_T41 l0 x8_1).f1.f4),.int .i64 ((rd_T41 l0 x8_1).f2)] (fun _=>True) (fun _=>False) rfl rfl ?aP (fun _ hk=>hk.elim) ?aF ?aO ?aB ?aS ?aL ?_;(case aP=>exact k41_mkM _ _ _ (⟨(rd_T41 l0 x8_1).f0,(⟨(rd_T41 l0 x8_1).f1.f0,(rd_T41 l0 x8_1).f1.f1,(rd_T41 l0 x8_1).f1.f2,(rd_T41 l0 x8_1).f1.f3,(rd_T41 l0 x8_1).f1.f4⟩:S39),(rd_T41 l0 x8_1).f2⟩:S41));(case aB=>exact zmb11_0);(case aF=>exact (fun _ _=>trivial));(case aO=>exact zmb11_11);(case aS=>exact (below_size zmb11_0));(case aL=>have:=LMc6.out;omega);intro v213 w7 ho hb hg hat;rw [← Ny212.out] at ho;have n0_:=Aside0.mk (hb);have n1_:=Aside0.mk (ho);clear HB HO_7;have HB:=n0_;have HO214:=n1_;clear n0_ n1_;clear ho hb hg hat))
      go_loopg [7,9] k1 (fun kq v7 v9 w'=>∃ (x7_2:List (S41)) (x9_2:Int),v9 = .int .i64 x9_2∧Aside0 (rushlightlaw05_Padded.l1 kq l0 a1 a2 x7_2 x8_1 x9_2 = some r)∧Aside0 (kq≤k1)∧Aside0 (Kd.R k41 41 w' w.heap.size (fun _=>True) v7 x7_2)∧Aside0 (Below w.heap.size w w'))
      case atStart=>exact ⟨(y212),(0),zmb11_1,H',⟨Nat.le_refl _⟩,⟨by (with_reducible repeat (first|apply Kd.R_alloc|apply Kd.R_drewN|apply Kd.R_drew));exact HO214.out⟩,⟨zmb11_0⟩⟩
      case round =>
       clear H'
       try clear p2
       try clear q2
       try clear hx2
       try clear c4
       try clear c4b0
       try clear c5
       try clear c5b0
       try clear c6
       try clear hx211_0
       try clear hx211_1
       try clear hx211_2
       try clear hx211_3
       try clear hx211_4
       try clear hx211_5
       try clear hx211_6
       try clear p2
       try clear p211
       try clear q211
       obtain ⟨x7_2,x9_2,rfl,HA,HK2,HO_7,HB⟩:=hrel
       cases gk with
       | zero=>exact absurd HA.out (by simp [rushlightlaw05_Padded.l1])
       | succ k2 =>
        have H:=HA.out
        clear HA
        simp only [rushlightlaw05_Padded.l1] at H
        by_cases c8:x8_1 = a1
        ·rw [if_pos c8] at H
         have c8b0:(x8_1 == a1) = true:=beq_iff_eq.mpr c8
         have c8b1:(x8_1 != a1) = false:=bne_eq_false_iff_eq.mpr c8
         clear c8
         by_cases c9:x9_2 < a2
         ·rw [if_pos c9] at H
          have c9b0:decide (x9_2 < a2) = true:=decide_eq_true c9
          clear c9
          by_cases c10:x9_2 < 1100
          ·rw [if_pos c10] at H
           have c10b0:decide (x9_2 < 1100) = true:=decide_eq_true c10
           clear c10
           by_cases c11:x7_2.length < 2513169434916
           ·rw [if_pos c11] at H
            have LMc11:=Aside0.mk c11
            clear c11
            obtain ⟨y215,hy215⟩:∃ y_:List (S41),y_ = (x7_2 ++ [(⟨1,(⟨19,0,0,0,0⟩:S39),0⟩:S41)]):=⟨_,rfl⟩
            replace H:(rushlightlaw05_Padded.l1 k2 l0 a1 a2 y215 x8_1 (wrap64 (x9_2 + 1))) = some r:=by first|(rw [hy215];with_reducible exact H)|(have H2_:=(Option.bind_some _ _).symm.trans H;rw [hy215];with_reducible exact H2_)|(have H2_:=(Option.bind_some _ _).symm.trans H;with_reducible exact H2_)|with_reducible exact H|(rw [hy215];exact H)|exact H
            have Ny215:=Aside0.mk hy215
            clear hy215
            have H':=Aside0.mk H
            clear H
            go_wp2_with (first|((with_reducible refine gate_builtin (b:=.append) (xs:=#[.tmp 37,.tmp 40]) rfl ?_);at_builtin;refine Kd.R_append k41 (w0:=w) w.heap.size rfl (.tmp 37) (.tmp 40) 22 41 (.agg #[(.int .i64 0),(.int .i64 0),(.int .i64 0),(.int .i64 0),(.int .i64 0),(.int .i64 0),(.int .i64 0)]) 56 rfl Try.underlying22 info41 rfl (by decide) (by omega) u7 x7_2 (⟨1,(⟨19,0,0,0,0⟩:S39),0⟩:S41) [.int .i64 1,.int .i64 19,.int .i64 0,.int .i64 0,.int .i64 0,.int .i64 0,.int .i64 0] (fun _=>True) (fun _=>False) rfl rfl ?aP (fun _ hk=>hk.elim) ?aF ?aO ?aB ?aS ?aL ?_;(case aP=>exact k41_mkM _ _ _ (⟨1,(⟨19,0,0,0,0⟩:S39),0⟩:S41));(case aB=>exact zmb11_0);(case aF=>exact (fun _ _=>trivial));(case aO=>exact zmb11_11);(case aS=>exact (below_size zmb11_0));(case aL=>have:=LMc11.out;omega);intro v216 w12 ho hb hg hat;rw [← Ny215.out] at ho;have n0_:=Aside0.mk (hb);have n1_:=Aside0.mk (ho);clear HB HO_7;have HB:=n0_;have HO217:=n1_;clear n0_ n1_;clear ho hb hg hat))
            go_roundg k2
            case measure=>have:=HK1.out;have:=HK2.out;omega
            case rel=>exact ⟨(y215),(wrap64 (x9_2 + 1)),zmb11_1,H',⟨zmb11_12⟩,⟨by (with_reducible repeat (first|apply Kd.R_alloc|apply Kd.R_drewN|apply Kd.R_drew));exact HO217.out⟩,⟨zmb11_0⟩⟩
           ·rw [if_neg c11] at H
            exact absurd H (by simp)
          ·rw [if_neg c10] at H
           have c10b0:decide (x9_2 < 1100) = false:=decide_eq_false c10
           clear c10
           have H':=Aside0.mk H
           clear H
           go_wp2
           go_roundg k2
           case measure=>have:=HK1.out;have:=HK2.out;omega
           case rel=>exact ⟨(x7_2),(wrap64 (x8_1 + 1)),zmb11_1,H',⟨zmb11_12⟩,⟨zmb11_11⟩,⟨zmb11_0⟩⟩
         ·rw [if_neg c9] at H
          have c9b0:decide (x9_2 < a2) = false:=decide_eq_false c9
          clear c9
          have H':=Aside0.mk H
          clear H
          go_wp2
          go_roundg k2
          case measure=>have:=HK1.out;have:=HK2.out;omega
          case rel=>exact ⟨(x7_2),(wrap64 (x8_1 + 1)),zmb11_1,H',⟨zmb11_12⟩,⟨zmb11_11⟩,⟨zmb11_0⟩⟩
        ·rw [if_neg c8] at H
         have c8b0:(x8_1 == a1) = false:=beq_eq_false_iff_ne.mpr c8
         have c8b1:(x8_1 != a1) = true:=bne_iff_ne.mpr c8
         have H':=Aside0.mk H
         clear H
         go_wp2
         go_roundg k2
         case measure=>have:=HK1.out;have:=HK2.out;omega
         case rel=>exact ⟨(x7_2),(wrap64 (x8_1 + 1)),zmb11_1,H',⟨zmb11_12⟩,⟨zmb11_11⟩,⟨zmb11_0⟩⟩
     ·rw [if_neg c6] at H
      exact absurd H (by simp)
    ·rw [if_neg c5] at H
     exact absurd H (by simp)
   ·rw [if_neg c4] at H
    have c4b0:decide (x8_1 < (l0.length:Int)) = false:=decide_eq_false c4
    clear c4
    obtain rfl:=Option.some.inj H
    go_wp2
    go_ret
    exact ⟨_,zmb11_5,zmb11_11,zmb11_0⟩
end Go.Proofs.Ytecbponmpinnoaa.P
end
