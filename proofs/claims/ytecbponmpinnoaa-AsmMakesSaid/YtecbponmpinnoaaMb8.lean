/- A claim's text, put together by a program of this session (wip/tools/shake.py): the declarations that the claim needs. -/
import Derived.Test.YtecbponmpinnoaaMb0
import Derived.Test.YtecbponmpinnoaaMb1
import Derived.Test.YtecbponmpinnoaaMb2
import Derived.Test.YtecbponmpinnoaaMb3
import Derived.Test.YtecbponmpinnoaaMb4
import Derived.Test.YtecbponmpinnoaaMb5
import Derived.Test.YtecbponmpinnoaaMb6
import Derived.Test.YtecbponmpinnoaaMb7
import Derived.Test.YtecbponmpinnoaaProg
import Derived.Below
import Derived.Deep.Draws
import Derived.Deep.AppendLies
import Derived.Maps.AppendAt
import Derived.OwnWalk
import Derived.Laws.BytesArg
import Derived.Laws.MakeOwn
import Derived.Laws.OwnMore
import Derived.Deep.OwnRows
import Derived.Tactics
import Derived.Lib.ConvBytes
import Derived.Laws.Slices
import Derived.WalkKit
import Derived.KernelRfl
import Derived.RowKit3
import Derived.Deep.LoopGhost
import Derived.Deep.QuietTactic
import Derived.BigQuiet
import Derived.WideLaws
import Derived.Deep.DeepCutAuto
import Derived.Deep.CutBlock
import Derived.Deep.RegionHeld3
import Derived.Laws.Rows
import Derived.Lib.AppendStr
import Derived.ArgAppend
import Derived.Laws.IdiomCopy
import Derived.OrdersHeld
import Derived.Laws.BitsLemmas
import Derived.RowKit
import Derived.Deep.WholeRow
import Derived.Outline
import Derived.WalkMore
import Derived.ScopeJumps
import Derived.Deep.DeepFit
import Derived.Maps.OwnOps
import Derived.Maps.Views
import Derived.Carry
import Derived.WalkArith
import Derived.Laws.StructEq
namespace Go
theorem zmb8_0 {p:Prop} (h:p:=by first|rfl|(simp;done)|(simp [*];done)):p:=h
theorem zmb8_1 {p:Prop} (h:p:=by first|omega|exact Nat.le_refl _):p:=h
theorem zmb8_2 {p:Prop} (h:p:=by repeat (first|exact Drawn0.refl _|apply Drawn0.step)):p:=h
theorem zmb8_3 {p:Prop} (h:p:=by (try simp only [List.map_toArray,List.map_cons,List.map_nil]);first|done|rfl|(simp only [List.length_drop,List.length_take];rfl)):p:=h
theorem zmb8_4 {p:Prop} (h:p:=by repeat (first|(with_reducible first|exact HB.out|apply below_alloc|apply pw_below_drewN|apply below_drew1)|exact HB.out)):p:=h
theorem zmb8_5 {p:Prop} (h:p:=by first|rfl|(simp [errW_none,errW_some] <;> rfl)|(simp [*,errW_none,errW_some] <;> rfl)):p:=h
theorem zmb8_6 {p:Prop} (h:p:=by simp [intOf];omega):p:=h
theorem zmb8_7 {p:Prop} (h:p:=by (with_reducible repeat (first|refine blk_drewN ?_ _|refine blk_drew ?_|refine blk_alloc ?_ _));refine blk_put (cs:=#[.int .i64 19,.int .i64 a0,.int .i64 a0,.int .i64 0,.int .i64 0]) ?_ 4 _ rfl;(with_reducible repeat (first|refine blk_drewN ?_ _|refine blk_drew ?_|refine blk_alloc ?_ _));refine blk_put (cs:=#[.int .i64 19,.int .i64 a0,.int .i64 a0,.int .i64 0,.int .i64 0]) ?_ 3 _ rfl;(with_reducible repeat (first|refine blk_drewN ?_ _|refine blk_drew ?_|refine blk_alloc ?_ _));refine blk_put (cs:=#[.int .i64 19,.int .i64 a0,.int .i64 0,.int .i64 0,.int .i64 0]) ?_ 2 _ rfl;(with_reducible repeat (first|refine blk_drewN ?_ _|refine blk_drew ?_|refine blk_alloc ?_ _));refine blk_put (cs:=#[.int .i64 19,.int .i64 0,.int .i64 0,.int .i64 0,.int .i64 0]) ?_ 1 _ rfl;(with_reducible repeat (first|refine blk_drewN ?_ _|refine blk_drew ?_|refine blk_alloc ?_ _));refine blk_put (cs:=#[.int .i64 0,.int .i64 0,.int .i64 0,.int .i64 0,.int .i64 0]) ?_ 0 _ rfl;(with_reducible repeat (first|refine blk_drewN ?_ _|refine blk_drew ?_|refine blk_alloc ?_ _));exact BK125.out):p:=h
theorem zmb8_8 {p:Prop} (h:p:=by repeat (first|(with_reducible first|exact HB.out|apply below_alloc|apply pw_below_drewN|apply below_drew1|refine below_set ?_ GE125.out)|exact HB.out)):p:=h
theorem zmb8_9 {p:Prop} (h:p:=by (with_reducible repeat (first|refine blk_drewN ?_ _|refine blk_drew ?_|refine blk_alloc ?_ _));refine blk_put (cs:=#[.int .i64 19,.int .i64 a0,.int .i64 a0,.int .i64 0,.int .i64 (wrap64 (wrap32 (t124)))]) ?_ 2 _ rfl;(with_reducible repeat (first|refine blk_drewN ?_ _|refine blk_drew ?_|refine blk_alloc ?_ _));refine blk_far ?_ NB125_126.out _;(with_reducible repeat (first|refine blk_drewN ?_ _|refine blk_drew ?_|refine blk_alloc ?_ _));refine blk_far ?_ NB125_126.out _;(with_reducible repeat (first|refine blk_drewN ?_ _|refine blk_drew ?_|refine blk_alloc ?_ _));refine blk_far ?_ NB125_126.out _;(with_reducible repeat (first|refine blk_drewN ?_ _|refine blk_drew ?_|refine blk_alloc ?_ _));refine blk_far ?_ NB125_126.out _;(with_reducible repeat (first|refine blk_drewN ?_ _|refine blk_drew ?_|refine blk_alloc ?_ _));refine blk_far ?_ NB125_126.out _;(with_reducible repeat (first|refine blk_drewN ?_ _|refine blk_drew ?_|refine blk_alloc ?_ _));exact BK125.out):p:=h
theorem zmb8_10 {p:Prop} (h:p:=by (with_reducible repeat (first|refine blk_drewN ?_ _|refine blk_drew ?_|refine blk_alloc ?_ _));refine blk_far ?_ NB126_125.out _;(with_reducible repeat (first|refine blk_drewN ?_ _|refine blk_drew ?_|refine blk_alloc ?_ _));refine blk_put (cs:=#[.int .i64 1,.int .i64 a0,.int .i64 0,.int .i64 0,.int .i64 0]) ?_ 4 _ rfl;(with_reducible repeat (first|refine blk_drewN ?_ _|refine blk_drew ?_|refine blk_alloc ?_ _));refine blk_put (cs:=#[.int .i64 1,.int .i64 a0,.int .i64 0,.int .i64 0,.int .i64 0]) ?_ 3 _ rfl;(with_reducible repeat (first|refine blk_drewN ?_ _|refine blk_drew ?_|refine blk_alloc ?_ _));refine blk_put (cs:=#[.int .i64 1,.int .i64 a0,.int .i64 0,.int .i64 0,.int .i64 0]) ?_ 2 _ rfl;(with_reducible repeat (first|refine blk_drewN ?_ _|refine blk_drew ?_|refine blk_alloc ?_ _));refine blk_put (cs:=#[.int .i64 1,.int .i64 0,.int .i64 0,.int .i64 0,.int .i64 0]) ?_ 1 _ rfl;(with_reducible repeat (first|refine blk_drewN ?_ _|refine blk_drew ?_|refine blk_alloc ?_ _));refine blk_put (cs:=#[.int .i64 0,.int .i64 0,.int .i64 0,.int .i64 0,.int .i64 0]) ?_ 0 _ rfl;(with_reducible repeat (first|refine blk_drewN ?_ _|refine blk_drew ?_|refine blk_alloc ?_ _));exact BK126.out):p:=h
theorem zmb8_11 {p:Prop} (h:p:=by repeat (first|(with_reducible first|exact HB.out|apply below_alloc|apply pw_below_drewN|apply below_drew1|refine below_set ?_ GE125.out|refine below_set ?_ GE126.out)|exact HB.out)):p:=h
theorem zmb8_12 {p:Prop} (h:p:=by (with_reducible repeat (first|refine blk_drewN ?_ _|refine blk_drew ?_|refine blk_alloc ?_ _));refine blk_far ?_ NB125_126.out _;(with_reducible repeat (first|refine blk_drewN ?_ _|refine blk_drew ?_|refine blk_alloc ?_ _));refine blk_far ?_ NB125_126.out _;(with_reducible repeat (first|refine blk_drewN ?_ _|refine blk_drew ?_|refine blk_alloc ?_ _));refine blk_far ?_ NB125_126.out _;(with_reducible repeat (first|refine blk_drewN ?_ _|refine blk_drew ?_|refine blk_alloc ?_ _));refine blk_far ?_ NB125_126.out _;(with_reducible repeat (first|refine blk_drewN ?_ _|refine blk_drew ?_|refine blk_alloc ?_ _));refine blk_far ?_ NB125_126.out _;(with_reducible repeat (first|refine blk_drewN ?_ _|refine blk_drew ?_|refine blk_alloc ?_ _));exact BK125.out):p:=h
theorem zmb8_13 {p:Prop} (h:p:=by (with_reducible repeat (first|refine blk_drewN ?_ _|refine blk_drew ?_|refine blk_alloc ?_ _));refine blk_put (cs:=#[.int .i64 1,.int .i64 a0,.int .i64 0,.int .i64 0,.int .i64 0]) ?_ 4 _ rfl;(with_reducible repeat (first|refine blk_drewN ?_ _|refine blk_drew ?_|refine blk_alloc ?_ _));refine blk_put (cs:=#[.int .i64 1,.int .i64 a0,.int .i64 0,.int .i64 0,.int .i64 0]) ?_ 3 _ rfl;(with_reducible repeat (first|refine blk_drewN ?_ _|refine blk_drew ?_|refine blk_alloc ?_ _));refine blk_put (cs:=#[.int .i64 1,.int .i64 a0,.int .i64 0,.int .i64 0,.int .i64 0]) ?_ 2 _ rfl;(with_reducible repeat (first|refine blk_drewN ?_ _|refine blk_drew ?_|refine blk_alloc ?_ _));refine blk_put (cs:=#[.int .i64 1,.int .i64 0,.int .i64 0,.int .i64 0,.int .i64 0]) ?_ 1 _ rfl;(with_reducible repeat (first|refine blk_drewN ?_ _|refine blk_drew ?_|refine blk_alloc ?_ _));refine blk_put (cs:=#[.int .i64 0,.int .i64 0,.int .i64 0,.int .i64 0,.int .i64 0]) ?_ 0 _ rfl;(with_reducible repeat (first|refine blk_drewN ?_ _|refine blk_drew ?_|refine blk_alloc ?_ _));exact BK126.out):p:=h
theorem zmb8_14 {p:Prop} (h:p:=by (with_reducible repeat (first|refine blk_drewN ?_ _|refine blk_drew ?_|refine blk_alloc ?_ _));exact BK106.out):p:=h
theorem zmb8_15 {p:Prop} (h:p:=by repeat (first|(with_reducible first|exact HB.out|apply below_alloc|apply pw_below_drewN|apply below_drew1|refine below_set ?_ GE106.out)|exact HB.out)):p:=h
theorem zmb8_16 {p:Prop} (h:p:=by have:=HB3.out.size;simp at this;omega):p:=h
theorem zmb8_17 {p:Prop} (h:p:=by (with_reducible repeat (first|refine blk_drewN ?_ _|refine blk_drew ?_|refine blk_alloc ?_ _));exact BK146.out):p:=h
theorem zmb8_18 {p:Prop} (h:p:=by repeat (first|(with_reducible first|exact HB.out|apply below_alloc|apply pw_below_drewN|apply below_drew1|refine below_set ?_ GE146.out)|exact HB.out)):p:=h
end Go
set_option linter.unusedVariables false
set_option linter.unusedSimpArgs false
section
namespace Go.Proofs.Ytecbponmpinnoaa.P
open Go.RowKit Go.Proofs.YtecbponmpinnoaaW.PrintWords Go.Proofs.YtecbponmpinnoaaW.PrintLast Go.Proofs.YtecbponmpinnoaaW.PrintMore
attribute [local go_sem] max2_int min2_int max_two min_two max_three min_three max_four min_four   
set_option linter.unusedVariables false
set_option linter.unusedSimpArgs false
def errW:Option Int→Value
 | none=>.nilIface
 | some c=>.iface 0 (.int .i64 c)
theorem errW_none:errW none = .nilIface:=rfl
theorem errW_some (c:Int):errW (some c) = .iface 0 (.int .i64 c):=rfl
theorem info3:(Try.prog.info? 3).map (fun i=>(i.zero,i.size,i.bytes)) = some (some (.int .i64 0),1,8):=by kernel_rfl
theorem info4:(Try.prog.info? 4).map (fun i=>(i.zero,i.size,i.bytes)) = some (some (.bool false),1,1):=by kernel_rfl
theorem info35:(Try.prog.info? 35).map (fun i=>(i.zero,i.size,i.bytes)) = some (some (.int .u32 0),1,4):=by kernel_rfl
theorem info41:(Try.prog.info? 41).map (fun i=>(i.zero,i.size,i.bytes)) = some (some (.agg #[(.int .i64 0),(.int .i64 0),(.int .i64 0),(.int .i64 0),(.int .i64 0),(.int .i64 0),(.int .i64 0)]),7,56):=by kernel_rfl
theorem info48:(Try.prog.info? 48).map (fun i=>(i.zero,i.size,i.bytes)) = some (some (.agg #[(.int .i64 0),(.int .i64 0),(.int .i64 0),(.int .i64 0),(.int .i64 0),(.int .i64 0),(.int .i64 0)]),7,56):=by kernel_rfl
structure S39 where
 f0:Int
 f1:Int
 f2:Int
 f3:Int
 f4:Int
def z39:S39:=⟨(0:Int),(0:Int),(0:Int),(0:Int),(0:Int)⟩
def k39:Kd S39:=Kd.iso (Kd.pair (Kd.int .i64) (Kd.pair (Kd.int .i64) (Kd.pair (Kd.int .i64) (Kd.pair (Kd.int .i64) (Kd.int .i64))))) (fun x:S39=>(x.f0,x.f1,x.f2,x.f3,x.f4))
theorem k39_open {w:World} {x:S39} {cs:List Value} (h:k39.K w x cs):cs = [.int .i64 x.f0,.int .i64 x.f1,.int .i64 x.f2,.int .i64 x.f3,.int .i64 x.f4]:=by
 obtain ⟨_,_,rfl,rfl,⟨_,_,rfl,rfl,⟨_,_,rfl,rfl,⟨_,_,rfl,rfl,rfl⟩⟩⟩⟩:=h
 exact rfl
theorem k39_mk (w:World) (x:S39) :k39.K w x [.int .i64 x.f0,.int .i64 x.f1,.int .i64 x.f2,.int .i64 x.f3,.int .i64 x.f4]:=⟨[.int .i64 x.f0],[.int .i64 x.f1,.int .i64 x.f2,.int .i64 x.f3,.int .i64 x.f4],rfl,rfl,⟨[.int .i64 x.f1],[.int .i64 x.f2,.int .i64 x.f3,.int .i64 x.f4],rfl,rfl,⟨[.int .i64 x.f2],[.int .i64 x.f3,.int .i64 x.f4],rfl,rfl,⟨[.int .i64 x.f3],[.int .i64 x.f4],rfl,rfl,rfl⟩⟩⟩⟩
theorem k39_mkM (w:World) (base:Nat) (ok:Nat→Prop) (x:S39) :k39.M w base ok x [.int .i64 x.f0,.int .i64 x.f1,.int .i64 x.f2,.int .i64 x.f3,.int .i64 x.f4]:=⟨[.int .i64 x.f0],[.int .i64 x.f1,.int .i64 x.f2,.int .i64 x.f3,.int .i64 x.f4],rfl,rfl,⟨[.int .i64 x.f1],[.int .i64 x.f2,.int .i64 x.f3,.int .i64 x.f4],rfl,rfl,⟨[.int .i64 x.f2],[.int .i64 x.f3,.int .i64 x.f4],rfl,rfl,⟨[.int .i64 x.f3],[.int .i64 x.f4],rfl,rfl,rfl⟩⟩⟩⟩
def rd_T39 (xs:List S39) (i:Int):S39:=xs.getD i.toNat z39
theorem at_T39 {w:World} {A:Option Addr} {n:Nat} {xs:List S39} (h:Kd.C k39 w A n xs) (i:Int) (h0:0≤i) (h1:i < n):∃ ad ,A = some ad∧w.cell? (ad.add (i.toNat * 5)) = some (.int .i64 (rd_T39 xs i).f0)∧w.cell? ⟨(ad.add (i.toNat * 5)).block,(ad.add (i.toNat * 5)).off + 1,none⟩ = some (.int .i64 (rd_T39 xs i).f1)∧w.cell? ⟨(ad.add (i.toNat * 5)).block,(ad.add (i.toNat * 5)).off + 2,none⟩ = some (.int .i64 (rd_T39 xs i).f2)∧w.cell? ⟨(ad.add (i.toNat * 5)).block,(ad.add (i.toNat * 5)).off + 3,none⟩ = some (.int .i64 (rd_T39 xs i).f3)∧w.cell? ⟨(ad.add (i.toNat * 5)).block,(ad.add (i.toNat * 5)).off + 4,none⟩ = some (.int .i64 (rd_T39 xs i).f4):=by
 obtain ⟨ad,c,e,_,hK,hc0⟩:=Kd.C_get h z39 i h0 h1
 have hc:∀ j u,c[j]? = some u→w.cell? (ad.add (i.toNat * 5 + j)) = some u:=hc0
 obtain rfl:=k39_open hK
 exact ⟨ad,e,hc 0 _ rfl,by rw [← add_field _ _ 1 (by omega)];exact hc 1 _ rfl,by rw [← add_field _ _ 2 (by omega)];exact hc 2 _ rfl,by rw [← add_field _ _ 3 (by omega)];exact hc 3 _ rfl,by rw [← add_field _ _ 4 (by omega)];exact hc 4 _ rfl⟩
structure S41 where
 f0:Int
 f1:S39
 f2:Int
def z41:S41:=⟨(0:Int),z39,(0:Int)⟩
def k41:Kd S41:=Kd.iso (Kd.pair (Kd.int .i64) (Kd.pair k39 (Kd.int .i64))) (fun x:S41=>(x.f0,x.f1,x.f2))
theorem k41_open {w:World} {x:S41} {cs:List Value} (h:k41.K w x cs):cs = [.int .i64 x.f0,.int .i64 x.f1.f0,.int .i64 x.f1.f1,.int .i64 x.f1.f2,.int .i64 x.f1.f3,.int .i64 x.f1.f4,.int .i64 x.f2]:=by
 obtain ⟨_,_,rfl,rfl,⟨_,_,rfl,s1,rfl⟩⟩:=h
 obtain rfl:=k39_open s1
 exact rfl
theorem k41_mk (w:World) (x:S41) :k41.K w x [.int .i64 x.f0,.int .i64 x.f1.f0,.int .i64 x.f1.f1,.int .i64 x.f1.f2,.int .i64 x.f1.f3,.int .i64 x.f1.f4,.int .i64 x.f2]:=⟨[.int .i64 x.f0],[.int .i64 x.f1.f0,.int .i64 x.f1.f1,.int .i64 x.f1.f2,.int .i64 x.f1.f3,.int .i64 x.f1.f4,.int .i64 x.f2],rfl,rfl,⟨[.int .i64 x.f1.f0,.int .i64 x.f1.f1,.int .i64 x.f1.f2,.int .i64 x.f1.f3,.int .i64 x.f1.f4],[.int .i64 x.f2],rfl,(k39_mk w x.f1 ),rfl⟩⟩
theorem k41_mkM (w:World) (base:Nat) (ok:Nat→Prop) (x:S41) :k41.M w base ok x [.int .i64 x.f0,.int .i64 x.f1.f0,.int .i64 x.f1.f1,.int .i64 x.f1.f2,.int .i64 x.f1.f3,.int .i64 x.f1.f4,.int .i64 x.f2]:=⟨[.int .i64 x.f0],[.int .i64 x.f1.f0,.int .i64 x.f1.f1,.int .i64 x.f1.f2,.int .i64 x.f1.f3,.int .i64 x.f1.f4,.int .i64 x.f2],rfl,rfl,⟨[.int .i64 x.f1.f0,.int .i64 x.f1.f1,.int .i64 x.f1.f2,.int .i64 x.f1.f3,.int .i64 x.f1.f4],[.int .i64 x.f2],rfl,(k39_mkM w base ok x.f1 ),rfl⟩⟩
def rd_T41 (xs:List S41) (i:Int):S41:=xs.getD i.toNat z41
theorem at_T41 {w:World} {A:Option Addr} {n:Nat} {xs:List S41} (h:Kd.C k41 w A n xs) (i:Int) (h0:0≤i) (h1:i < n):∃ ad ,A = some ad∧w.cell? (ad.add (i.toNat * 7)) = some (.int .i64 (rd_T41 xs i).f0)∧w.cell? ⟨(ad.add (i.toNat * 7)).block,(ad.add (i.toNat * 7)).off + 1,none⟩ = some (.int .i64 (rd_T41 xs i).f1.f0)∧w.cell? ⟨(ad.add (i.toNat * 7)).block,(ad.add (i.toNat * 7)).off + 2,none⟩ = some (.int .i64 (rd_T41 xs i).f1.f1)∧w.cell? ⟨(ad.add (i.toNat * 7)).block,(ad.add (i.toNat * 7)).off + 3,none⟩ = some (.int .i64 (rd_T41 xs i).f1.f2)∧w.cell? ⟨(ad.add (i.toNat * 7)).block,(ad.add (i.toNat * 7)).off + 4,none⟩ = some (.int .i64 (rd_T41 xs i).f1.f3)∧w.cell? ⟨(ad.add (i.toNat * 7)).block,(ad.add (i.toNat * 7)).off + 5,none⟩ = some (.int .i64 (rd_T41 xs i).f1.f4)∧w.cell? ⟨(ad.add (i.toNat * 7)).block,(ad.add (i.toNat * 7)).off + 6,none⟩ = some (.int .i64 (rd_T41 xs i).f2):=by
 obtain ⟨ad,c,e,_,hK,hc0⟩:=Kd.C_get h z41 i h0 h1
 have hc:∀ j u,c[j]? = some u→w.cell? (ad.add (i.toNat * 7 + j)) = some u:=hc0
 obtain rfl:=k41_open hK
 exact ⟨ad,e,hc 0 _ rfl,by rw [← add_field _ _ 1 (by omega)];exact hc 1 _ rfl,by rw [← add_field _ _ 2 (by omega)];exact hc 2 _ rfl,by rw [← add_field _ _ 3 (by omega)];exact hc 3 _ rfl,by rw [← add_field _ _ 4 (by omega)];exact hc 4 _ rfl,by rw [← add_field _ _ 5 (by omega)];exact hc 5 _ rfl,by rw [← add_field _ _ 6 (by omega)];exact hc 6 _ rfl⟩
structure S46 where
 f0:Int
 f1:Int
 f2:Int
 f3:Int
 f4:Int
def z46:S46:=⟨(0:Int),(0:Int),(0:Int),(0:Int),(0:Int)⟩
def k46:Kd S46:=Kd.iso (Kd.pair (Kd.int .i64) (Kd.pair (Kd.int .i64) (Kd.pair (Kd.int .i64) (Kd.pair (Kd.int .i64) (Kd.int .i64))))) (fun x:S46=>(x.f0,x.f1,x.f2,x.f3,x.f4))
theorem k46_open {w:World} {x:S46} {cs:List Value} (h:k46.K w x cs):cs = [.int .i64 x.f0,.int .i64 x.f1,.int .i64 x.f2,.int .i64 x.f3,.int .i64 x.f4]:=by
 obtain ⟨_,_,rfl,rfl,⟨_,_,rfl,rfl,⟨_,_,rfl,rfl,⟨_,_,rfl,rfl,rfl⟩⟩⟩⟩:=h
 exact rfl
theorem k46_mkM (w:World) (base:Nat) (ok:Nat→Prop) (x:S46) :k46.M w base ok x [.int .i64 x.f0,.int .i64 x.f1,.int .i64 x.f2,.int .i64 x.f3,.int .i64 x.f4]:=⟨[.int .i64 x.f0],[.int .i64 x.f1,.int .i64 x.f2,.int .i64 x.f3,.int .i64 x.f4],rfl,rfl,⟨[.int .i64 x.f1],[.int .i64 x.f2,.int .i64 x.f3,.int .i64 x.f4],rfl,rfl,⟨[.int .i64 x.f2],[.int .i64 x.f3,.int .i64 x.f4],rfl,rfl,⟨[.int .i64 x.f3],[.int .i64 x.f4],rfl,rfl,rfl⟩⟩⟩⟩
def rd_T46 (xs:List S46) (i:Int):S46:=xs.getD i.toNat z46
theorem at_T46 {w:World} {A:Option Addr} {n:Nat} {xs:List S46} (h:Kd.C k46 w A n xs) (i:Int) (h0:0≤i) (h1:i < n):∃ ad ,A = some ad∧w.cell? (ad.add (i.toNat * 5)) = some (.int .i64 (rd_T46 xs i).f0)∧w.cell? ⟨(ad.add (i.toNat * 5)).block,(ad.add (i.toNat * 5)).off + 1,none⟩ = some (.int .i64 (rd_T46 xs i).f1)∧w.cell? ⟨(ad.add (i.toNat * 5)).block,(ad.add (i.toNat * 5)).off + 2,none⟩ = some (.int .i64 (rd_T46 xs i).f2)∧w.cell? ⟨(ad.add (i.toNat * 5)).block,(ad.add (i.toNat * 5)).off + 3,none⟩ = some (.int .i64 (rd_T46 xs i).f3)∧w.cell? ⟨(ad.add (i.toNat * 5)).block,(ad.add (i.toNat * 5)).off + 4,none⟩ = some (.int .i64 (rd_T46 xs i).f4):=by
 obtain ⟨ad,c,e,_,hK,hc0⟩:=Kd.C_get h z46 i h0 h1
 have hc:∀ j u,c[j]? = some u→w.cell? (ad.add (i.toNat * 5 + j)) = some u:=hc0
 obtain rfl:=k46_open hK
 exact ⟨ad,e,hc 0 _ rfl,by rw [← add_field _ _ 1 (by omega)];exact hc 1 _ rfl,by rw [← add_field _ _ 2 (by omega)];exact hc 2 _ rfl,by rw [← add_field _ _ 3 (by omega)];exact hc 3 _ rfl,by rw [← add_field _ _ 4 (by omega)];exact hc 4 _ rfl⟩
structure S48 where
 f0:Int
 f1:S46
 f2:Int
def z48:S48:=⟨(0:Int),z46,(0:Int)⟩
def k48:Kd S48:=Kd.iso (Kd.pair (Kd.int .i64) (Kd.pair k46 (Kd.int .i64))) (fun x:S48=>(x.f0,x.f1,x.f2))
theorem k48_open {w:World} {x:S48} {cs:List Value} (h:k48.K w x cs):cs = [.int .i64 x.f0,.int .i64 x.f1.f0,.int .i64 x.f1.f1,.int .i64 x.f1.f2,.int .i64 x.f1.f3,.int .i64 x.f1.f4,.int .i64 x.f2]:=by
 obtain ⟨_,_,rfl,rfl,⟨_,_,rfl,s1,rfl⟩⟩:=h
 obtain rfl:=k46_open s1
 exact rfl
theorem k48_mkM (w:World) (base:Nat) (ok:Nat→Prop) (x:S48) :k48.M w base ok x [.int .i64 x.f0,.int .i64 x.f1.f0,.int .i64 x.f1.f1,.int .i64 x.f1.f2,.int .i64 x.f1.f3,.int .i64 x.f1.f4,.int .i64 x.f2]:=⟨[.int .i64 x.f0],[.int .i64 x.f1.f0,.int .i64 x.f1.f1,.int .i64 x.f1.f2,.int .i64 x.f1.f3,.int .i64 x.f1.f4,.int .i64 x.f2],rfl,rfl,⟨[.int .i64 x.f1.f0,.int .i64 x.f1.f1,.int .i64 x.f1.f2,.int .i64 x.f1.f3,.int .i64 x.f1.f4],[.int .i64 x.f2],rfl,(k46_mkM w base ok x.f1 ),rfl⟩⟩
def rd_T48 (xs:List S48) (i:Int):S48:=xs.getD i.toNat z48
theorem at_T48 {w:World} {A:Option Addr} {n:Nat} {xs:List S48} (h:Kd.C k48 w A n xs) (i:Int) (h0:0≤i) (h1:i < n):∃ ad ,A = some ad∧w.cell? (ad.add (i.toNat * 7)) = some (.int .i64 (rd_T48 xs i).f0)∧w.cell? ⟨(ad.add (i.toNat * 7)).block,(ad.add (i.toNat * 7)).off + 1,none⟩ = some (.int .i64 (rd_T48 xs i).f1.f0)∧w.cell? ⟨(ad.add (i.toNat * 7)).block,(ad.add (i.toNat * 7)).off + 2,none⟩ = some (.int .i64 (rd_T48 xs i).f1.f1)∧w.cell? ⟨(ad.add (i.toNat * 7)).block,(ad.add (i.toNat * 7)).off + 3,none⟩ = some (.int .i64 (rd_T48 xs i).f1.f2)∧w.cell? ⟨(ad.add (i.toNat * 7)).block,(ad.add (i.toNat * 7)).off + 4,none⟩ = some (.int .i64 (rd_T48 xs i).f1.f3)∧w.cell? ⟨(ad.add (i.toNat * 7)).block,(ad.add (i.toNat * 7)).off + 5,none⟩ = some (.int .i64 (rd_T48 xs i).f1.f4)∧w.cell? ⟨(ad.add (i.toNat * 7)).block,(ad.add (i.toNat * 7)).off + 6,none⟩ = some (.int .i64 (rd_T48 xs i).f2):=by
 obtain ⟨ad,c,e,_,hK,hc0⟩:=Kd.C_get h z48 i h0 h1
 have hc:∀ j u,c[j]? = some u→w.cell? (ad.add (i.toNat * 7 + j)) = some u:=hc0
 obtain rfl:=k48_open hK
 exact ⟨ad,e,hc 0 _ rfl,by rw [← add_field _ _ 1 (by omega)];exact hc 1 _ rfl,by rw [← add_field _ _ 2 (by omega)];exact hc 2 _ rfl,by rw [← add_field _ _ 3 (by omega)];exact hc 3 _ rfl,by rw [← add_field _ _ 4 (by omega)];exact hc 4 _ rfl,by rw [← add_field _ _ 5 (by omega)];exact hc 5 _ rfl,by rw [← add_field _ _ 6 (by omega)];exact hc 6 _ rfl⟩
end Go.Proofs.Ytecbponmpinnoaa.P
end
section
namespace Go.Proofs.Ytecbponmpinnoaa.P
open Go.RowKit Go.Proofs.YtecbponmpinnoaaW.PrintWords Go.Proofs.YtecbponmpinnoaaW.PrintLast Go.Proofs.YtecbponmpinnoaaW.PrintMore
attribute [local go_sem] max2_int min2_int max_two min_two max_three min_three max_four min_four   
set_option linter.unusedVariables false
set_option linter.unusedSimpArgs false
def asm_Contrary.j0:Nat→Int→Int→Bool→Option (Int)
 | 0,_,_,_=>none
 | k + 1,x0,x3,x4=>if x4 = true then (some (wrap64 (x0 + 1))) else (if x3 = 6 then (some (wrap64 (x0 - 1))) else (if x3 = 8 then (some (wrap64 (x0 - 1))) else (if x3 = 10 then (some (wrap64 (x0 - 1))) else (some 0))))
def asm_Contrary.f (k:Nat) (a0:Int):Option (Int):=if a0 = 5 then (asm_Contrary.j0 k a0 a0 (a0 == 5)) else (if a0 = 7 then (asm_Contrary.j0 k a0 a0 (a0 == 7)) else (asm_Contrary.j0 k a0 a0 (a0 == 9)))
theorem asm_Contrary.mono_l:∀ k,(∀ y0 y1 y2,LeO (asm_Contrary.j0 k y0 y1 y2) (asm_Contrary.j0 (k + 1) y0 y1 y2))
 | 0=>fun _ _ _ r h=>by simp [asm_Contrary.j0] at h
 | k + 1=>by
  have ih0:=asm_Contrary.mono_l k
  ·intro y0 y1 y2
   unfold asm_Contrary.j0
   repeat' first
   | (with_reducible exact ih0 _ _ _)
   | (with_reducible exact LeO.refl _)
   | (with_reducible exact LeO.none _)
   | (with_reducible refine LeO.ite ?_ ?_)
   | (with_reducible refine LeO.bind ?_ (fun _=>?_))
   | exact ih0 _ _ _
   | exact LeO.none _
   | refine LeO.ite ?_ ?_
   | refine LeO.bind ?_ (fun _=>?_)
theorem asm_Contrary.mono:∀ a0 k,LeO (asm_Contrary.f k a0) (asm_Contrary.f (k + 1) a0):=by
 intro a0 k
 have ih0:=asm_Contrary.mono_l k
 unfold asm_Contrary.f
 repeat' first
   | (with_reducible exact ih0 _ _ _)
   | (with_reducible exact LeO.refl _)
   | (with_reducible exact LeO.none _)
   | (with_reducible refine LeO.ite ?_ ?_)
   | (with_reducible refine LeO.bind ?_ (fun _=>?_))
   | exact ih0 _ _ _
   | exact LeO.none _
   | refine LeO.ite ?_ ?_
   | refine LeO.bind ?_ (fun _=>?_)
set_option maxHeartbeats 8000000 in
set_option maxRecDepth 100000 in
theorem asm_Contrary.calls (k:Nat) (a0:Int) (r:Int) (w:World) (h:asm_Contrary.f k a0 = some r) :
  Calls Try.prog 16 #[.int .i64 a0] w fun e w'=>e = .returned (.int .i64 r)∧Drawn0 w w':=by
 have H:(if a0 = 5 then (asm_Contrary.j0 k a0 a0 (a0 == 5)) else (if a0 = 7 then (asm_Contrary.j0 k a0 a0 (a0 == 7)) else (asm_Contrary.j0 k a0 a0 (a0 == 9)))) = some r:=h
 clear h
 have HC2:=Aside0.mk H
 clear H
 go_enter Try.func16,Try.ntmps16
 go_upto_if 4 with (fail)
 go_cut [4] (fun v4 wc=>∃ (kq:Nat) (x4_1:Bool),v4 = .bool x4_1∧Aside0 (asm_Contrary.j0 kq a0 a0 x4_1 = some r)∧Aside0 (kq≤k)∧Drawn0 w wc)
 case first =>
  have H:=HC2.out
  clear HC2
  by_cases c3:a0 = 5
  ·rw [if_pos c3] at H
   have c3b0:(a0 == 5) = true:=beq_iff_eq.mpr c3
   have c3b1:(a0 != 5) = false:=bne_eq_false_iff_eq.mpr c3
   clear c3
   (first|rw [c3b0]|(simp only [i64_w,i32_w];rw [c3b0])|skip)
   have H':=Aside0.mk H
   clear H
   go_wp2
   go_meet
   case rel=>exact ⟨_,((a0 == 5)),zmb8_0,H',⟨zmb8_1⟩,zmb8_2⟩
  ·rw [if_neg c3] at H
   have c3b0:(a0 == 5) = false:=beq_eq_false_iff_ne.mpr c3
   have c3b1:(a0 != 5) = true:=bne_iff_ne.mpr c3
   (first|rw [c3b0]|(simp only [i64_w,i32_w];rw [c3b0])|skip)
   by_cases c4:a0 = 7
   ·rw [if_pos c4] at H
    have c4b0:(a0 == 7) = true:=beq_iff_eq.mpr c4
    have c4b1:(a0 != 7) = false:=bne_eq_false_iff_eq.mpr c4
    clear c4
    have H':=Aside0.mk H
    clear H
    go_wp2
    go_meet
    case rel=>exact ⟨_,((a0 == 7)),zmb8_0,H',⟨zmb8_1⟩,zmb8_2⟩
   ·rw [if_neg c4] at H
    have c4b0:(a0 == 7) = false:=beq_eq_false_iff_ne.mpr c4
    have c4b1:(a0 != 7) = true:=bne_iff_ne.mpr c4
    have H':=Aside0.mk H
    clear H
    go_wp2
    go_meet
    case rel=>exact ⟨_,((a0 == 9)),zmb8_0,H',⟨zmb8_1⟩,zmb8_2⟩
 case rest =>
  clear HC2
  try clear c1
  try clear p2
  try clear c3
  try clear c3b0
  try clear c3b1
  try clear c4
  try clear c4b0
  try clear c4b1
  obtain ⟨kq,x4_1,rfl,HA,HJ1,⟨mc1,rfl⟩⟩:=hcut
  cases kq with
  | zero=>exact absurd HA.out (by simp [asm_Contrary.j0])
  | succ kj1 =>
   have H:=HA.out
   clear HA
   simp only [asm_Contrary.j0] at H
   by_cases c5:x4_1 = true
   ·subst c5
    have H1:(some (wrap64 (a0 + 1))) = some r:=by rw [if_pos rfl] at H;exact H
    clear H
    have H:=H1
    clear H1
    obtain rfl:=Option.some.inj H
    go_wp2
    go_ret
    exact ⟨zmb8_0,zmb8_2⟩
   ·replace c5:=Bool.eq_false_iff.mpr c5
    subst c5
    have H1:(if a0 = 6 then (some (wrap64 (a0 - 1))) else (if a0 = 8 then (some (wrap64 (a0 - 1))) else (if a0 = 10 then (some (wrap64 (a0 - 1))) else (some 0)))) = some r:=by rw [if_neg (show ¬ (false = true) by decide)] at H;exact H
    clear H
    have H:=H1
    clear H1
    by_cases c6:a0 = 6
    ·rw [if_pos c6] at H
     have c6b0:(a0 == 6) = true:=beq_iff_eq.mpr c6
     have c6b1:(a0 != 6) = false:=bne_eq_false_iff_eq.mpr c6
     clear c6
     obtain rfl:=Option.some.inj H
     go_wp2
     go_ret
     exact ⟨zmb8_0,zmb8_2⟩
    ·rw [if_neg c6] at H
     have c6b0:(a0 == 6) = false:=beq_eq_false_iff_ne.mpr c6
     have c6b1:(a0 != 6) = true:=bne_iff_ne.mpr c6
     by_cases c7:a0 = 8
     ·rw [if_pos c7] at H
      have c7b0:(a0 == 8) = true:=beq_iff_eq.mpr c7
      have c7b1:(a0 != 8) = false:=bne_eq_false_iff_eq.mpr c7
      clear c7
      obtain rfl:=Option.some.inj H
      go_wp2
      go_ret
      exact ⟨zmb8_0,zmb8_2⟩
     ·rw [if_neg c7] at H
      have c7b0:(a0 == 8) = false:=beq_eq_false_iff_ne.mpr c7
      have c7b1:(a0 != 8) = true:=bne_iff_ne.mpr c7
      by_cases c8:a0 = 10
      ·rw [if_pos c8] at H
       have c8b0:(a0 == 10) = true:=beq_iff_eq.mpr c8
       have c8b1:(a0 != 10) = false:=bne_eq_false_iff_eq.mpr c8
       clear c8
       obtain rfl:=Option.some.inj H
       go_wp2
       go_ret
       exact ⟨zmb8_0,zmb8_2⟩
      ·rw [if_neg c8] at H
       have c8b0:(a0 == 10) = false:=beq_eq_false_iff_ne.mpr c8
       have c8b1:(a0 != 10) = true:=bne_iff_ne.mpr c8
       obtain rfl:=Option.some.inj H
       go_wp2
       go_ret
       exact ⟨zmb8_0,zmb8_2⟩
mutual
def inst_needs.j0:Nat→Bool→Bool→Bool→Bool→Int→Bool→Option (Bool × Bool × Bool × Bool)
 | 0,_,_,_,_,_,_=>none
 | k + 1,x2,x3,x4,x5,x6,x9=>if x9 = true then (some (true,true,x4,x5)) else (if x6 = 85 then (inst_needs.j1 k x2 x3 x4 x5 x6 (x6 == 85)) else (inst_needs.j1 k x2 x3 x4 x5 x6 (x6 == 74)))
def inst_needs.j1:Nat→Bool→Bool→Bool→Bool→Int→Bool→Option (Bool × Bool × Bool × Bool)
 | 0,_,_,_,_,_,_=>none
 | k + 1,x2,x3,x4,x5,x6,x12=>if x12 = true then (some (true,x3,x4,x5)) else (if x6 = 83 then (some (x2,true,true,x5)) else (if x6 = 66 then (some (x2,true,true,x5)) else (some (x2,x3,x4,x5))))
end
def inst_needs.f (k:Nat) (a0:Int):Option (Bool × Bool × Bool × Bool):=if a0 = 82 then (some (true,true,true,false)) else (if a0 = 73 then (inst_needs.j0 k false false false true a0 (a0 == 73)) else (inst_needs.j0 k false false false true a0 (a0 == 72)))
theorem inst_needs.mono_l:∀ k,(∀ y0 y1 y2 y3 y4 y5,LeO (inst_needs.j0 k y0 y1 y2 y3 y4 y5) (inst_needs.j0 (k + 1) y0 y1 y2 y3 y4 y5))∧(∀ y0 y1 y2 y3 y4 y5,LeO (inst_needs.j1 k y0 y1 y2 y3 y4 y5) (inst_needs.j1 (k + 1) y0 y1 y2 y3 y4 y5))
 | 0=>⟨fun _ _ _ _ _ _ r h=>by simp [inst_needs.j0] at h,fun _ _ _ _ _ _ r h=>by simp [inst_needs.j1] at h⟩
 | k + 1=>by
  obtain ⟨ih0,ih1⟩:=inst_needs.mono_l k
  refine ⟨?_,?_⟩
  ·intro y0 y1 y2 y3 y4 y5
   unfold inst_needs.j0
   repeat' first
   | (with_reducible exact ih0 _ _ _ _ _ _)
   | (with_reducible exact ih1 _ _ _ _ _ _)
   | (with_reducible exact LeO.refl _)
   | (with_reducible exact LeO.none _)
   | (with_reducible refine LeO.ite ?_ ?_)
   | (with_reducible refine LeO.bind ?_ (fun _=>?_))
   | exact ih0 _ _ _ _ _ _
   | exact ih1 _ _ _ _ _ _
   | exact LeO.none _
   | refine LeO.ite ?_ ?_
   | refine LeO.bind ?_ (fun _=>?_)
  ·intro y0 y1 y2 y3 y4 y5
   unfold inst_needs.j1
   repeat' first
   | (with_reducible exact ih0 _ _ _ _ _ _)
   | (with_reducible exact ih1 _ _ _ _ _ _)
   | (with_reducible exact LeO.refl _)
   | (with_reducible exact LeO.none _)
   | (with_reducible refine LeO.ite ?_ ?_)
   | (with_reducible refine LeO.bind ?_ (fun _=>?_))
   | exact ih0 _ _ _ _ _ _
   | exact ih1 _ _ _ _ _ _
   | exact LeO.none _
   | refine LeO.ite ?_ ?_
   | refine LeO.bind ?_ (fun _=>?_)
theorem inst_needs.mono:∀ a0 k,LeO (inst_needs.f k a0) (inst_needs.f (k + 1) a0):=by
 intro a0 k
 obtain ⟨ih0,ih1⟩:=inst_needs.mono_l k
 unfold inst_needs.f
 repeat' first
   | (with_reducible exact ih0 _ _ _ _ _ _)
   | (with_reducible exact ih1 _ _ _ _ _ _)
   | (with_reducible exact LeO.refl _)
   | (with_reducible exact LeO.none _)
   | (with_reducible refine LeO.ite ?_ ?_)
   | (with_reducible refine LeO.bind ?_ (fun _=>?_))
   | exact ih0 _ _ _ _ _ _
   | exact ih1 _ _ _ _ _ _
   | exact LeO.none _
   | refine LeO.ite ?_ ?_
   | refine LeO.bind ?_ (fun _=>?_)
set_option maxHeartbeats 8000000 in
set_option maxRecDepth 100000 in
theorem inst_needs.calls (k:Nat) (a0:Int) (r1:Bool) (r2:Bool) (r3:Bool) (r4:Bool) (w:World) (h:inst_needs.f k a0 = some (r1,r2,r3,r4)) :
  Calls Try.prog 41 #[.int .u8 a0] w fun e w'=>e = .returned (.tuple #[.bool r1,.bool r2,.bool r3,.bool r4])∧Drawn0 w w':=by
 have H:(if a0 = 82 then (some (true,true,true,false)) else (if a0 = 73 then (inst_needs.j0 k false false false true a0 (a0 == 73)) else (inst_needs.j0 k false false false true a0 (a0 == 72)))) = some (r1,r2,r3,r4):=h
 clear h
 by_cases c2:a0 = 82
 ·rw [if_pos c2] at H
  have c2b0:(a0 == 82) = true:=beq_iff_eq.mpr c2
  have c2b1:(a0 != 82) = false:=bne_eq_false_iff_eq.mpr c2
  clear c2
  simp only [Option.some.injEq,Prod.mk.injEq] at H
  obtain ⟨rfl,rfl,rfl,rfl⟩:=H
  go_enter Try.func41,Try.ntmps41
  go_wp2
  refine bodyPost_ret (results_list (rs:=[.tmp 2,.tmp 3,.tmp 4,.tmp 5]) rfl (by simp) (.tmp (.tmp (.tmp (.tmp .nil))))) rfl ?_
  exact ⟨zmb8_0,zmb8_2⟩
 ·rw [if_neg c2] at H
  have c2b0:(a0 == 82) = false:=beq_eq_false_iff_ne.mpr c2
  have c2b1:(a0 != 82) = true:=bne_iff_ne.mpr c2
  have HC3:=Aside0.mk H
  clear H
  go_enter Try.func41,Try.ntmps41
  go_upto_if 9 with (fail)
  go_cut [9] (fun v9 wc=>∃ (kq:Nat) (x9_2:Bool),v9 = .bool x9_2∧Aside0 (inst_needs.j0 kq false false false true a0 x9_2 = some (r1,r2,r3,r4))∧Aside0 (kq≤k)∧Drawn0 w wc)
  case first =>
   have H:=HC3.out
   clear HC3
   by_cases c4:a0 = 73
   ·rw [if_pos c4] at H
    have c4b0:(a0 == 73) = true:=beq_iff_eq.mpr c4
    have c4b1:(a0 != 73) = false:=bne_eq_false_iff_eq.mpr c4
    clear c4
    (first|rw [c4b0]|(simp only [i64_w,i32_w];rw [c4b0])|skip)
    have H':=Aside0.mk H
    clear H
    go_wp2
    go_meet
    case rel=>exact ⟨_,((a0 == 73)),zmb8_0,H',⟨zmb8_1⟩,zmb8_2⟩
   ·rw [if_neg c4] at H
    have c4b0:(a0 == 73) = false:=beq_eq_false_iff_ne.mpr c4
    have c4b1:(a0 != 73) = true:=bne_iff_ne.mpr c4
    (first|rw [c4b0]|(simp only [i64_w,i32_w];rw [c4b0])|skip)
    have H':=Aside0.mk H
    clear H
    go_wp2
    go_meet
    case rel=>exact ⟨_,((a0 == 72)),zmb8_0,H',⟨zmb8_1⟩,zmb8_2⟩
  case rest =>
   clear HC3
   try clear c2
   try clear c2b0
   try clear c2b1
   try clear p2
   try clear c4
   try clear c4b0
   try clear c4b1
   obtain ⟨kq,x9_2,rfl,HA,HJ2,⟨mc2,rfl⟩⟩:=hcut
   cases kq with
   | zero=>exact absurd HA.out (by simp [inst_needs.j0])
   | succ kj2 =>
    have H:=HA.out
    clear HA
    simp only [inst_needs.j0] at H
    by_cases c5:x9_2 = true
    ·subst c5
     have H1:(some (true,true,false,true)) = some (r1,r2,r3,r4):=by rw [if_pos rfl] at H;exact H
     clear H
     have H:=H1
     clear H1
     simp only [Option.some.injEq,Prod.mk.injEq] at H
     obtain ⟨rfl,rfl,rfl,rfl⟩:=H
     go_wp2
     refine bodyPost_ret (results_list (rs:=[.tmp 2,.tmp 3,.tmp 4,.tmp 5]) rfl (by simp) (.tmp (.tmp (.tmp (.tmp .nil))))) rfl ?_
     exact ⟨zmb8_0,zmb8_2⟩
    ·replace c5:=Bool.eq_false_iff.mpr c5
     subst c5
     have H1:(if a0 = 85 then (inst_needs.j1 kj2 false false false true a0 (a0 == 85)) else (inst_needs.j1 kj2 false false false true a0 (a0 == 74))) = some (r1,r2,r3,r4):=by rw [if_neg (show ¬ (false = true) by decide)] at H;exact H
     clear H
     have H:=H1
     clear H1
     have HC6:=Aside0.mk H
     clear H
     go_upto_if 12 with (fail)
     go_cut [12] (fun v12 wc=>∃ (kq:Nat) (x12_5:Bool),v12 = .bool x12_5∧Aside0 (inst_needs.j1 kq false false false true a0 x12_5 = some (r1,r2,r3,r4))∧Aside0 (kq≤kj2)∧Drawn0 w wc)
     case first =>
      have H:=HC6.out
      clear HC6
      by_cases c7:a0 = 85
      ·rw [if_pos c7] at H
       have c7b0:(a0 == 85) = true:=beq_iff_eq.mpr c7
       have c7b1:(a0 != 85) = false:=bne_eq_false_iff_eq.mpr c7
       clear c7
       (first|rw [c7b0]|(simp only [i64_w,i32_w];rw [c7b0])|skip)
       have H':=Aside0.mk H
       clear H
       go_wp2
       go_meet
       case rel=>exact ⟨_,((a0 == 85)),zmb8_0,H',⟨by have:=HJ2.out;first|omega|exact Nat.le_refl _⟩,zmb8_2⟩
      ·rw [if_neg c7] at H
       have c7b0:(a0 == 85) = false:=beq_eq_false_iff_ne.mpr c7
       have c7b1:(a0 != 85) = true:=bne_iff_ne.mpr c7
       (first|rw [c7b0]|(simp only [i64_w,i32_w];rw [c7b0])|skip)
       have H':=Aside0.mk H
       clear H
       go_wp2
       go_meet
       case rel=>exact ⟨_,((a0 == 74)),zmb8_0,H',⟨by have:=HJ2.out;first|omega|exact Nat.le_refl _⟩,zmb8_2⟩
     case rest =>
      clear HC6
      try clear c2
      try clear c2b0
      try clear c2b1
      try clear p2
      try clear c4
      try clear c4b0
      try clear c4b1
      try clear c5
      try clear c7
      try clear c7b0
      try clear c7b1
      try clear p2
      obtain ⟨kq,x12_5,rfl,HA,HJ5,⟨mc5,rfl⟩⟩:=hcut
      cases kq with
      | zero=>exact absurd HA.out (by simp [inst_needs.j1])
      | succ kj5 =>
       have H:=HA.out
       clear HA
       simp only [inst_needs.j1] at H
       by_cases c8:x12_5 = true
       ·subst c8
        have H1:(some (true,false,false,true)) = some (r1,r2,r3,r4):=by rw [if_pos rfl] at H;exact H
        clear H
        have H:=H1
        clear H1
        simp only [Option.some.injEq,Prod.mk.injEq] at H
        obtain ⟨rfl,rfl,rfl,rfl⟩:=H
        go_wp2
        refine bodyPost_ret (results_list (rs:=[.tmp 2,.tmp 3,.tmp 4,.tmp 5]) rfl (by simp) (.tmp (.tmp (.tmp (.tmp .nil))))) rfl ?_
        exact ⟨zmb8_0,zmb8_2⟩
       ·replace c8:=Bool.eq_false_iff.mpr c8
        subst c8
        have H1:(if a0 = 83 then (some (false,true,true,true)) else (if a0 = 66 then (some (false,true,true,true)) else (some (false,false,false,true)))) = some (r1,r2,r3,r4):=by rw [if_neg (show ¬ (false = true) by decide)] at H;exact H
        clear H
        have H:=H1
        clear H1
        by_cases c9:a0 = 83
        ·rw [if_pos c9] at H
         have c9b0:(a0 == 83) = true:=beq_iff_eq.mpr c9
         have c9b1:(a0 != 83) = false:=bne_eq_false_iff_eq.mpr c9
         clear c9
         simp only [Option.some.injEq,Prod.mk.injEq] at H
         obtain ⟨rfl,rfl,rfl,rfl⟩:=H
         go_wp2
         refine bodyPost_ret (results_list (rs:=[.tmp 2,.tmp 3,.tmp 4,.tmp 5]) rfl (by simp) (.tmp (.tmp (.tmp (.tmp .nil))))) rfl ?_
         exact ⟨zmb8_0,zmb8_2⟩
        ·rw [if_neg c9] at H
         have c9b0:(a0 == 83) = false:=beq_eq_false_iff_ne.mpr c9
         have c9b1:(a0 != 83) = true:=bne_iff_ne.mpr c9
         by_cases c10:a0 = 66
         ·rw [if_pos c10] at H
          have c10b0:(a0 == 66) = true:=beq_iff_eq.mpr c10
          have c10b1:(a0 != 66) = false:=bne_eq_false_iff_eq.mpr c10
          clear c10
          simp only [Option.some.injEq,Prod.mk.injEq] at H
          obtain ⟨rfl,rfl,rfl,rfl⟩:=H
          go_wp2
          refine bodyPost_ret (results_list (rs:=[.tmp 2,.tmp 3,.tmp 4,.tmp 5]) rfl (by simp) (.tmp (.tmp (.tmp (.tmp .nil))))) rfl ?_
          exact ⟨zmb8_0,zmb8_2⟩
         ·rw [if_neg c10] at H
          have c10b0:(a0 == 66) = false:=beq_eq_false_iff_ne.mpr c10
          have c10b1:(a0 != 66) = true:=bne_iff_ne.mpr c10
          simp only [Option.some.injEq,Prod.mk.injEq] at H
          obtain ⟨rfl,rfl,rfl,rfl⟩:=H
          go_wp2
          refine bodyPost_ret (results_list (rs:=[.tmp 2,.tmp 3,.tmp 4,.tmp 5]) rfl (by simp) (.tmp (.tmp (.tmp (.tmp .nil))))) rfl ?_
          exact ⟨zmb8_0,zmb8_2⟩
def runOps (P:Program) (ops:Array Oper):List Nat→Act→World→Option (Act × World)
 | [],a,w=>some (a,w)
 | i :: rest,a,w =>
  match ops[i]? with
  | none=>runOps P ops rest a w
  | some o =>
   if Region.wanted o (yielded ops a.tmps) then
    match (execOp a.eval o).run P w with
    | .ok (.value v) w'=>runOps P ops rest (a.put o.dst v) w'
    | .ok .skip w'=>runOps P ops rest (a.put o.dst undef) w'
    | _=>none
   else runOps P ops rest (a.put o.dst undef) w
theorem wpOps_run {P:Program} {ops:Array Oper} {Q:Exit→Act→World→Prop} (l2:List Nat) (a':Act) (w':World) (h2:wpOps P ops Q l2 a' w') :
  ∀ (l:List Nat) (a:Act) (w:World),runOps P ops l a w = some (a',w')→wpOps P ops Q (l ++ l2) a w:=by
 intro l
 induction l with
 | nil =>
  intro a w h
  simp only [runOps,Option.some.injEq,Prod.mk.injEq] at h
  obtain ⟨rfl,rfl⟩:=h
  exact h2
 | cons i rest ih =>
  intro a w h
  simp only [runOps] at h
  simp only [List.cons_append,wpOps]
  split at h
  ·rename_i h0
   rw [h0]
   exact ih _ _ h
  ·rename_i o h0
   rw [h0]
   dsimp only
   split at h
   ·rename_i hw
    rw [if_pos hw]
    refine .inl ?_
    unfold Oper.wp
    split at h
    ·rename_i v w1 hr
     rw [hr]
     exact ih _ _ h
    ·rename_i w1 hr
     rw [hr]
     exact ih _ _ h
    ·cases h
   ·rename_i hw
    rw [if_neg hw]
    exact ih _ _ h
theorem wpOps_store {P:Program} {ops:Array Oper} {Q:Exit→Act→World→Prop} (i:Nat) (rest:List Nat) {o:Oper} {t:TypeId} {p x:Operand} {a:Act} {w w':World}
  (hi:ops[i]? = some o) (ho:o.op = .store t p x) (hg:Region.wanted o (yielded ops a.tmps) = true) (hrun:(Instr.storeAt t (a.eval p) (a.eval x)).run P w = .ok () w')
  (hK:wpOps P ops Q rest (a.put o.dst undef) w'):wpOps P ops Q (i :: rest) a w:=by
 simp only [wpOps,hi]
 rw [if_pos hg]
 refine .inl ?_
 have hx:(execOp a.eval o).run P w = .ok .skip w':=by
  unfold execOp
  simp only [ho,Sem.run_bind,hrun,Result.andThen_ok,Sem.run_pure]
 unfold Oper.wp
 rw [hx]
 exact hK
def shapes:List (List UInt8 × Int × Int × Int × Int):=[([],0,0,0,0),
 ([108,117,105],85,55,0,0),([97,117,105,112,99],85,23,0,0),([106,97,108],74,111,0,0),([106,97,108,114],73,103,0,0),
 ([98,101,113],66,99,0,0),([98,110,101],66,99,1,0),([98,108,116],66,99,4,0),([98,103,101],66,99,5,0),([98,108,116,117],66,99,6,0),([98,103,101,117],66,99,7,0),
 ([108,98],73,3,0,0),([108,104],73,3,1,0),([108,119],73,3,2,0),([108,98,117],73,3,4,0),([108,104,117],73,3,5,0),
 ([115,98],83,35,0,0),([115,104],83,35,1,0),([115,119],83,35,2,0),
 ([97,100,100,105],73,19,0,0),([115,108,116,105],73,19,2,0),([115,108,116,105,117],73,19,3,0),([120,111,114,105],73,19,4,0),([111,114,105],73,19,6,0),([97,110,100,105],73,19,7,0),
 ([115,108,108,105],72,19,1,0),([115,114,108,105],72,19,5,0),([115,114,97,105],72,19,5,32),
 ([97,100,100],82,51,0,0),([115,117,98],82,51,0,32),([115,108,108],82,51,1,0),([115,108,116],82,51,2,0),([115,108,116,117],82,51,3,0),
 ([120,111,114],82,51,4,0),([115,114,108],82,51,5,0),([115,114,97],82,51,5,32),([111,114],82,51,6,0),([97,110,100],82,51,7,0),
 ([109,117,108],82,51,0,1),([109,117,108,104],82,51,1,1),([109,117,108,104,115,117],82,51,2,1),([109,117,108,104,117],82,51,3,1),
 ([100,105,118],82,51,4,1),([100,105,118,117],82,51,5,1),([114,101,109],82,51,6,1),([114,101,109,117],82,51,7,1)]
def shapeRow:List UInt8 × Int × Int × Int × Int→List Value:=fun s=>[.string ⟨s.1.toArray⟩,.int .u8 s.2.1,.int .u32 s.2.2.1,.int .u32 s.2.2.2.1,.int .u32 s.2.2.2.2]
def zeros230:Array Value:=((List.replicate 46 (shapeRow ([],0,0,0,0))).flatten).toArray
def shapes230:Array Value:=((shapes.map shapeRow).flatten).toArray
def tableFrame (w:World):Act:=⟨((.pointer (some ⟨w.heap.size,0,none⟩):Value) :: (shapes.map fun s=>Value.agg (shapeRow s).toArray) ++ [Value.agg shapes230]).toArray,[]⟩
theorem size52:(Try.prog.info? 81).map (·.size) = some shapes230.size:=by kernel_rfl
theorem one52:shapes230.all (·.oneCell') = true:=by kernel_rfl
set_option maxRecDepth 100000 in
theorem table_calls (w:World):Calls Try.prog 38 #[] w fun e w'=>e = .returned (.agg shapes230)∧Below w.heap.size w w':=by
 go_enter Try.func38,Try.ntmps38
 refine wp_seq (wp_region (wpOps_run [] ⟨((.pointer (some ⟨w.heap.size,0,none⟩):Value) :: List.replicate 47 undef).toArray,[]⟩ (w.alloc (.cells zeros230 81)) ?_ [0] _ _ (by kernel_rfl)))
 refine wp_seq (wp_region (wpOps_run [47] (tableFrame w) (w.alloc (.cells zeros230 81)) ?_ (List.range 47) _ _ (by kernel_rfl)))
 have hst:=run_storeAt_new (P:=Try.prog) w 81 zeros230 shapes230 size52 rfl one52
 refine wpOps_store 47 [] rfl rfl rfl hst ?_
 refine wp_ret ?_
 refine bodyPost_ret (v:=.agg shapes230) ?_ rfl ⟨rfl,(Below.refl _ _).alloc (Nat.le_refl _) _⟩
 exact results_cell_row rfl _ _ w.heap.size 81 shapes230 (0,0) _ rfl (heap_alloc_last w _) Try.underlying81 rfl size52
def noShape:List UInt8 × Int × Int × Int × Int:=([],0,0,0,0)
theorem index52 (w:World):∀ n:Nat,n < 46→(Instr.index 81 (.agg shapes230) (.int .i64 n)).run Try.prog w = .ok (.agg (shapeRow (shapes.getD n noShape)).toArray) w
 | 0,_=>by kernel_rfl
 | 1,_=>by kernel_rfl
 | 2,_=>by kernel_rfl
 | 3,_=>by kernel_rfl
 | 4,_=>by kernel_rfl
 | 5,_=>by kernel_rfl
 | 6,_=>by kernel_rfl
 | 7,_=>by kernel_rfl
 | 8,_=>by kernel_rfl
 | 9,_=>by kernel_rfl
 | 10,_=>by kernel_rfl
 | 11,_=>by kernel_rfl
 | 12,_=>by kernel_rfl
 | 13,_=>by kernel_rfl
 | 14,_=>by kernel_rfl
 | 15,_=>by kernel_rfl
 | 16,_=>by kernel_rfl
 | 17,_=>by kernel_rfl
 | 18,_=>by kernel_rfl
 | 19,_=>by kernel_rfl
 | 20,_=>by kernel_rfl
 | 21,_=>by kernel_rfl
 | 22,_=>by kernel_rfl
 | 23,_=>by kernel_rfl
 | 24,_=>by kernel_rfl
 | 25,_=>by kernel_rfl
 | 26,_=>by kernel_rfl
 | 27,_=>by kernel_rfl
 | 28,_=>by kernel_rfl
 | 29,_=>by kernel_rfl
 | 30,_=>by kernel_rfl
 | 31,_=>by kernel_rfl
 | 32,_=>by kernel_rfl
 | 33,_=>by kernel_rfl
 | 34,_=>by kernel_rfl
 | 35,_=>by kernel_rfl
 | 36,_=>by kernel_rfl
 | 37,_=>by kernel_rfl
 | 38,_=>by kernel_rfl
 | 39,_=>by kernel_rfl
 | 40,_=>by kernel_rfl
 | 41,_=>by kernel_rfl
 | 42,_=>by kernel_rfl
 | 43,_=>by kernel_rfl
 | 44,_=>by kernel_rfl
 | 45,_=>by kernel_rfl
 | n + 46,h=>absurd h (by omega)
def shapeOf (a0:Int):List UInt8 × Int × Int × Int × Int:=if 0≤a0∧a0 < 46 then shapes.getD a0.toNat noShape else noShape
def inst_of.f (a0:Int):Option (ByteArray × Int × Int × Int × Int):=some (⟨(shapeOf a0).1.toArray⟩,(shapeOf a0).2)
theorem bcell {W w1:World} (hb:Below W.heap.size W w1):(∀ b o,b < W.heap.size→w1.cell? ⟨b,o,none⟩ = W.cell? ⟨b,o,none⟩)∧(∀ b o,b < W.heap.size→w1.frozen? ⟨b,o,none⟩ = W.frozen? ⟨b,o,none⟩) :=
 ⟨fun b o h=>hb.cell (p:=⟨b,o,none⟩) h,fun b o h=>hb.frozen (p:=⟨b,o,none⟩) h⟩
set_option maxHeartbeats 1000000 in
set_option maxRecDepth 100000 in
theorem inst_of.calls (a0:Int) (r1:ByteArray) (r2 r3 r4 r5:Int) (w:World) (h:inst_of.f a0 = some (r1,r2,r3,r4,r5)) :
  Calls Try.prog 48 #[.int .i64 a0] w fun e w'=>e = .returned (.agg #[.string r1,.int .u8 r2,.int .u32 r3,.int .u32 r4,.int .u32 r5])∧Below w.heap.size w w':=by
 have hu43:=Try.underlying80
 by_cases h0:0≤a0∧a0 < 46
 ·have hidx:∀ W:World,(Instr.index 81 (.agg shapes230) (.int .i64 a0)).run Try.prog W = .ok (.agg #[.string r1,.int .u8 r2,.int .u32 r3,.int .u32 r4,.int .u32 r5]) W:=by
   intro W
   simp only [inst_of.f,shapeOf,if_pos h0,Option.some.injEq,Prod.mk.injEq] at h
   obtain ⟨rfl,h⟩:=h
   have hi:=index52 W a0.toNat (by omega)
   rw [Int.toNat_of_nonneg h0.1] at hi
   rw [hi]
   generalize shapes.getD a0.toNat noShape = s at *
   obtain ⟨s1,s2⟩:=s
   dsimp only at h
   subst h
   rfl
  obtain ⟨h1,h2⟩:=h0
  clear h
  go_enter Try.func48,Try.ntmps48
  go_wp2_with (go_at_call 38;refine (table_calls _).mono ?_;rintro e w' ⟨rfl,hb⟩;obtain ⟨hc,hf⟩:=bcell hb)
  have hblk:w'.heap[w.heap.size]? = some (.cells #[.string ⟨#[]⟩,.int .u8 0,.int .u32 0,.int .u32 0,.int .u32 0] 80 (0,0)):=by
   rw [hb.block _ (by simp)]
   exact heap_alloc_last w _
  have hB:Below w.heap.size w w':=(((Below.refl _ _).alloc (Nat.le_refl _) _).trans (hb.mono (by simp)))
  clear hc hf hb hidx
  have hz:=((((blk_set hblk 0 (.string r1) |> fun h=>blk_set h 1 (.int .u8 r2)) |> fun h=>blk_set h 2 (.int .u32 r3)) |> fun h=>blk_set h 3 (.int .u32 r4)) |> fun h=>blk_set h 4 (.int .u32 r5))
  refine bodyPost_ret (results_cell_row rfl _ _ w.heap.size 80 _ (0,0) _ rfl (by simpa using hz) Try.underlying80 rfl (by kernel_rfl)) rfl ⟨rfl,?_⟩
  exact ((((hB.setCell (Nat.le_refl _) _).setCell (Nat.le_refl _) _).setCell (Nat.le_refl _) _).setCell (Nat.le_refl _) _).setCell (Nat.le_refl _) _
 ·have hn:shapeOf a0 = noShape:=if_neg h0
  simp only [inst_of.f,hn,noShape,Option.some.injEq,Prod.mk.injEq] at h
  obtain ⟨rfl,rfl,rfl,rfl,rfl⟩:=h
  have hz:∀ {α:Type} (s:α),s = s:=fun _=>rfl
  by_cases h1:a0 < 0
  ·clear h0 hn
   have h2:decide (46≤a0) = false:=by simp;omega
   go_enter Try.func48,Try.ntmps48
   go_wp2
   refine bodyPost_ret (v:=.agg #[.string ⟨#[]⟩,.int .u8 0,.int .u32 0,.int .u32 0,.int .u32 0]) (by simp [results,Try.results48,go_sem]) rfl ⟨rfl,(Below.refl _ _).alloc (Nat.le_refl _) _⟩
  ·have h2:46≤a0:=by omega
   clear h0 hn
   go_enter Try.func48,Try.ntmps48
   go_wp2
   refine bodyPost_ret (v:=.agg #[.string ⟨#[]⟩,.int .u8 0,.int .u32 0,.int .u32 0,.int .u32 0]) (by simp [results,Try.results48,go_sem]) rfl ⟨rfl,(Below.refl _ _).alloc (Nat.le_refl _) _⟩
def inst_Form.f (a0:Int):Option (Int):=(inst_of.f a0).bind fun bt101=>(some bt101.2.1)
set_option maxHeartbeats 8000000 in
set_option maxRecDepth 100000 in
theorem inst_Form.calls (a0:Int) (r:Int) (w:World) (h:inst_Form.f a0 = some r) :
  Calls Try.prog 58 #[.int .i64 a0] w fun e w'=>e = .returned (.int .u8 r)∧Below w.heap.size w w':=by
 have hfd80_1:∀ (z0_ z1_ z2_ z3_ z4_:Value) (W_:World),(Instr.field 80 (.agg #[z0_,z1_,z2_,z3_,z4_]) 1).run Try.prog W_ = .ok (z1_) W_:=fun _ _ _ _ _ _=>by kernel_rfl
 have HB:=Aside0.mk (Below.refl w.heap.size w)
 have H:((inst_of.f a0).bind fun bt101=>(some bt101.2.1)) = some r:=h
 clear h
 replace H:=Option.bind_eq_some_iff.mp H
 obtain ⟨⟨t101,t102,t103,t104,t105⟩,A20,H⟩:=H
 replace H:(some t102) = some r:=H
 have A2:=Aside0.mk A20
 clear A20
 obtain rfl:=Option.some.inj H
 go_enter Try.func58,Try.ntmps58
 go_wp2_with (first|((with_reducible refine gate_callee (f:=48) rfl ?_);refine goesL_ (some 4) rfl rfl Try.func48 (by kernel_rfl) rfl #[.int .i64 a0] rfl zmb8_3 ?_;(with_reducible refine (inst_of.calls a0 t101 t102 t103 t104 t105 _ A2.out).mono ?_);rintro e w3 ⟨rfl,hb⟩;refine ⟨_,rfl,?_⟩;have n0_:=Aside0.mk (below_step zmb8_4 hb);clear HB;have HB:=n0_;clear n0_;(try clear hb);(try clear hb2);(try clear hk);(try clear hi)))
 go_ret
 exact ⟨zmb8_5,zmb8_4⟩
def inst_register.f (a0:Int) (a1:Bool):Option (Bool):=if a0 = 0 then (some true) else (if a1 = true then (if a0 > 0 then (some (decide (a0 < 32))) else (some false)) else (some false))
set_option maxHeartbeats 8000000 in
set_option maxRecDepth 100000 in
theorem inst_register.calls (a0:Int) (a1:Bool) (r:Bool) (w:World) (h:inst_register.f a0 a1 = some r) :
  Calls Try.prog 59 #[.int .i64 a0,.bool a1] w fun e w'=>e = .returned (.bool r)∧Drawn0 w w':=by
 have H:(if a0 = 0 then (some true) else (if a1 = true then (if a0 > 0 then (some (decide (a0 < 32))) else (some false)) else (some false))) = some r:=h
 clear h
 by_cases c3:a0 = 0
 ·rw [if_pos c3] at H
  have c3b0:(a0 == 0) = true:=beq_iff_eq.mpr c3
  have c3b1:(a0 != 0) = false:=bne_eq_false_iff_eq.mpr c3
  clear c3
  obtain rfl:=Option.some.inj H
  go_enter Try.func59,Try.ntmps59
  go_wp2
  go_ret
  exact ⟨zmb8_0,zmb8_2⟩
 ·rw [if_neg c3] at H
  have c3b0:(a0 == 0) = false:=beq_eq_false_iff_ne.mpr c3
  have c3b1:(a0 != 0) = true:=bne_iff_ne.mpr c3
  by_cases c4:a1 = true
  ·subst c4
   have H1:(if a0 > 0 then (some (decide (a0 < 32))) else (some false)) = some r:=by rw [if_pos rfl] at H;exact H
   clear H
   have H:=H1
   clear H1
   by_cases c5:a0 > 0
   ·rw [if_pos c5] at H
    have c5b0:decide (0 < a0) = true:=decide_eq_true c5
    clear c5
    obtain rfl:=Option.some.inj H
    go_enter Try.func59,Try.ntmps59
    go_wp2
    go_ret
    exact ⟨zmb8_0,zmb8_2⟩
   ·rw [if_neg c5] at H
    have c5b0:decide (0 < a0) = false:=decide_eq_false c5
    clear c5
    obtain rfl:=Option.some.inj H
    go_enter Try.func59,Try.ntmps59
    go_wp2
    go_ret
    exact ⟨zmb8_0,zmb8_2⟩
  ·replace c4:=Bool.eq_false_iff.mpr c4
   subst c4
   have H1:(some false) = some r:=by rw [if_neg (show ¬ (false = true) by decide)] at H;exact H
   clear H
   have H:=H1
   clear H1
   obtain rfl:=Option.some.inj H
   go_enter Try.func59,Try.ntmps59
   go_wp2
   go_ret
   exact ⟨zmb8_0,zmb8_2⟩
end Go.Proofs.Ytecbponmpinnoaa.P
end
section
namespace Go.Proofs.Ytecbponmpinnoaa.P
open Go.RowKit Go.Proofs.YtecbponmpinnoaaW.PrintWords Go.Proofs.YtecbponmpinnoaaW.PrintLast Go.Proofs.YtecbponmpinnoaaW.PrintMore
attribute [local go_sem] max2_int min2_int max_two min_two max_three min_three max_four min_four   
set_option linter.unusedVariables false
set_option linter.unusedSimpArgs false
set_option linter.unusedVariables false
structure Sheet (w0 W:World) (g:Nat) (A:Option Addr) (c gf ga:Nat) (lv:Value) (xs:List S41) (far:List Bool) (at_:List Int):Prop where
 blk:W.heap[g]? = some (.cells #[.slice A xs.length c,.slice (some ⟨gf,0,none⟩) xs.length xs.length,.slice (some ⟨ga,0,none⟩) (xs.length + 1) (xs.length + 1),lv] 65 (0,0))
 items:Kd.C k41 w0 A xs.length xs
 len:xs.length≤32768
 farB:W.heap[gf]? = some (.cells (far.map Value.bool).toArray 4 (0,0))
 farL:far.length = xs.length
 atB:W.heap[ga]? = some (.cells (at_.map (Value.int .i64)).toArray 3 (0,0))
 atL:at_.length = xs.length + 1
 bel:Below w0.heap.size w0 W
 gB:w0.heap.size≤g
 gfB:w0.heap.size≤gf
 gaB:w0.heap.size≤ga
theorem Sheet.below {w0 W W1:World} {g:Nat} {A:Option Addr} {c gf ga:Nat} {lv:Value} {xs:List S41} {far:List Bool} {at_:List Int} (h:Sheet w0 W g A c gf ga lv xs far at_) (hb:Below W.heap.size W W1):Sheet w0 W1 g A c gf ga lv xs far at_ :=
 ⟨blk_below h.blk hb,h.items,h.len,blk_below h.farB hb,h.farL,blk_below h.atB hb,h.atL,below_then h.bel h.bel.size hb,h.gB,h.gfB,h.gaB⟩
structure Lab (w0 W:World) (ga gl:Nat) (lv:Value) (lab:List Int):Prop where
 val:lv = .slice (some ⟨gl,0,none⟩) lab.length lab.length
 blk:W.heap[gl]? = some (.cells (lab.map (Value.int .i64)).toArray 3 (0,0))
 base:w0.heap.size≤gl
 len:lab.length≤4096
 ne:gl≠ga
theorem Lab.below {w0 W W1:World} {ga gl:Nat} {lv:Value} {lab:List Int} (h:Lab w0 W ga gl lv lab) (hb:Below W.heap.size W W1):Lab w0 W1 ga gl lv lab:=⟨h.val,blk_below h.blk hb,h.base,h.len,h.ne⟩
theorem int_cell {w:World} {g:Nat} {l:List Int} (h:w.heap[g]? = some (.cells (l.map (Value.int .i64)).toArray 3 (0,0))) (i:Nat) (hi:i < l.length):w.cell? ⟨g,i,none⟩ = some (.int .i64 (l.getD i 0)):=by
 rw [blk_cell h i]
 simp [List.getElem?_eq_getElem hi,List.getD_eq_getElem?_getD]
theorem bool_cell {w:World} {g:Nat} {l:List Bool} (h:w.heap[g]? = some (.cells (l.map Value.bool).toArray 4 (0,0))) (i:Nat) (hi:i < l.length):w.cell? ⟨g,i,none⟩ = some (.bool (l.getD i false)):=by
 rw [blk_cell h i]
 simp [List.getElem?_eq_getElem hi,List.getD_eq_getElem?_getD]
theorem Sheet.gNa {w0 W:World} {g:Nat} {A:Option Addr} {c gf ga:Nat} {lv:Value} {xs:List S41} {far:List Bool} {at_:List Int} (h:Sheet w0 W g A c gf ga lv xs far at_):g≠ga:=blk_ne h.blk h.atB (by decide)
theorem Sheet.gNf {w0 W:World} {g:Nat} {A:Option Addr} {c gf ga:Nat} {lv:Value} {xs:List S41} {far:List Bool} {at_:List Int} (h:Sheet w0 W g A c gf ga lv xs far at_):g≠gf:=blk_ne h.blk h.farB (by decide)
theorem Sheet.fNa {w0 W:World} {g:Nat} {A:Option Addr} {c gf ga:Nat} {lv:Value} {xs:List S41} {far:List Bool} {at_:List Int} (h:Sheet w0 W g A c gf ga lv xs far at_):gf≠ga:=blk_ne h.farB h.atB (by decide)
theorem Sheet.drew {w0 W:World} {g:Nat} {A:Option Addr} {c gf ga:Nat} {lv:Value} {xs:List S41} {far:List Bool} {at_:List Int} (h:Sheet w0 W g A c gf ga lv xs far at_):Sheet w0 W.drew g A c gf ga lv xs far at_ :=
 ⟨h.blk,h.items,h.len,h.farB,h.farL,h.atB,h.atL,below_drew h.bel,h.gB,h.gfB,h.gaB⟩
theorem Lab.drew {w0 W:World} {ga gl:Nat} {lv:Value} {lab:List Int} (h:Lab w0 W ga gl lv lab):Lab w0 W.drew ga gl lv lab:=⟨h.val,h.blk,h.base,h.len,h.ne⟩
theorem map_set_int (l:List Int) (i:Nat) (a:Int):(l.map (Value.int .i64)).toArray.setIfInBounds i (.int .i64 a) = ((l.set i a).map (Value.int .i64)).toArray:=by simp [List.map_set]
theorem map_set_bool (l:List Bool) (i:Nat) (a:Bool):(l.map Value.bool).toArray.setIfInBounds i (.bool a) = ((l.set i a).map Value.bool).toArray:=by simp [List.map_set]
theorem Sheet.setAt {w0 W:World} {g:Nat} {A:Option Addr} {c gf ga:Nat} {lv:Value} {xs:List S41} {far:List Bool} {at_:List Int} (h:Sheet w0 W g A c gf ga lv xs far at_) (i:Nat) (a:Int):Sheet w0 (W.setCell ⟨ga,i,none⟩ (.int .i64 a)) g A c gf ga lv xs far (at_.set i a) :=
 ⟨blk_far h.blk h.gNa _,h.items,h.len,blk_far h.farB h.fNa _,h.farL,by rw [← map_set_int];exact blk_set h.atB i _,by rw [List.length_set];exact h.atL,h.bel.setCell h.gaB _,h.gB,h.gfB,h.gaB⟩
theorem Sheet.setLab {w0 W:World} {g:Nat} {A:Option Addr} {c gf ga gl:Nat} {lv:Value} {xs:List S41} {far:List Bool} {at_ lab:List Int} (h:Sheet w0 W g A c gf ga lv xs far at_) (hL:Lab w0 W ga gl lv lab) (i:Nat) (a:Int):Sheet w0 (W.setCell ⟨gl,i,none⟩ (.int .i64 a)) g A c gf ga lv xs far at_ :=
 ⟨blk_far h.blk (blk_ne h.blk hL.blk (by decide)) _,h.items,h.len,blk_far h.farB (blk_ne h.farB hL.blk (by decide)) _,h.farL,blk_far h.atB (Ne.symm hL.ne) _,h.atL,h.bel.setCell hL.base _,h.gB,h.gfB,h.gaB⟩
theorem Sheet.setFar {w0 W:World} {g:Nat} {A:Option Addr} {c gf ga:Nat} {lv:Value} {xs:List S41} {far:List Bool} {at_:List Int} (h:Sheet w0 W g A c gf ga lv xs far at_) (i:Nat) (a:Bool):Sheet w0 (W.setCell ⟨gf,i,none⟩ (.bool a)) g A c gf ga lv xs (far.set i a) at_ :=
 ⟨blk_far h.blk h.gNf _,h.items,h.len,by rw [← map_set_bool];exact blk_set h.farB i _,by rw [List.length_set];exact h.farL,blk_far h.atB (Ne.symm h.fNa) _,h.atL,h.bel.setCell h.gfB _,h.gB,h.gfB,h.gaB⟩
theorem Lab.setAt {w0 W:World} {ga gl:Nat} {lv:Value} {lab:List Int} (hL:Lab w0 W ga gl lv lab) (i:Nat) (a:Int):Lab w0 (W.setCell ⟨ga,i,none⟩ (.int .i64 a)) ga gl lv lab:=⟨hL.val,blk_far hL.blk hL.ne _,hL.base,hL.len,hL.ne⟩
theorem Lab.setFar {w0 W:World} {ga gl gf:Nat} {lv:Value} {lab:List Int} (hL:Lab w0 W ga gl lv lab) (hne:gl≠gf) (i:Nat) (a:Bool):Lab w0 (W.setCell ⟨gf,i,none⟩ (.bool a)) ga gl lv lab:=⟨hL.val,blk_far hL.blk hne _,hL.base,hL.len,hL.ne⟩
theorem Lab.setLab {w0 W:World} {ga gl:Nat} {lv:Value} {lab:List Int} (hL:Lab w0 W ga gl lv lab) (i:Nat) (a:Int):Lab w0 (W.setCell ⟨gl,i,none⟩ (.int .i64 a)) ga gl lv (lab.set i a) :=
 ⟨by rw [List.length_set];exact hL.val,by rw [← map_set_int];exact blk_set hL.blk i _,hL.base,by rw [List.length_set];exact hL.len,hL.ne⟩
set_option linter.unusedVariables false
set_option linter.unusedSimpArgs false
def OwnS (w:World) (b n:Nat) (s:Int→Bool):Prop:=∃ D:DataW Unit,w.ownsMap Try.prog 3 (plainElem Try.prog 4) b n D∧Maps.IsMap D∧∀ z:Int,(Lit.int .i64 z).wf = true→D.atKey (.int .i64 z) (.lit (.bool false)) = .lit (.bool (s z))
theorem OwnS.made (w:World):OwnS (w.alloc (.map #[] 0)) w.heap.size 0 (fun _=>false) :=
 ⟨_,World.ownsMap_made _ _ _ _,Maps.isMap_empty,fun _ _=>rfl⟩
theorem OwnS.grown {w w':World} {b n:Nat} {s:Int→Bool} (h:OwnS w b n s) {row:Option Nat} (hg:w.grownBy w' row) (hne:some b≠row):OwnS w' b n s:=by
 obtain ⟨D,hD,h2,h3⟩:=h
 exact ⟨D,hD.kept hg hne,h2,h3⟩
theorem OwnS.alloc {w:World} {b n:Nat} {s:Int→Bool} (h:OwnS w b n s) (o:Obj):OwnS (w.alloc o) b n s:=h.grown (World.grownBy_alloc w o none) (by simp)
theorem OwnS.drew {w:World} {b n:Nat} {s:Int→Bool} (h:OwnS w b n s):OwnS w.drew b n s:=h
theorem OwnS.mono {w:World} {b n m:Nat} {s:Int→Bool} (h:OwnS w b n s) (hm:n≤m):OwnS w b m s:=by
 obtain ⟨D,hD,h2,h3⟩:=h
 exact ⟨D,hD.mono hm,h2,h3⟩
theorem OwnS.lt {w:World} {b n:Nat} {s:Int→Bool} (h:OwnS w b n s):b < w.heap.size:=by
 obtain ⟨D,hD,h2,h3⟩:=h
 exact hD.lt
theorem OwnS.heap {w:World} {b n:Nat} {s:Int→Bool} (h:OwnS w b n s):∃ es k,w.heap[b]? = some (.map es k):=by
 obtain ⟨D,⟨es,k,h,_⟩,_⟩:=h
 exact ⟨es,k,h⟩
theorem plainElem_bool_inv {P:Program} {e:TypeId} (he:P.underlying e = some .bool) {v:Value} {z:DataW Unit × List MemPlace} (h:plainElem P e v = some z):∃ b,v = .bool b∧z = (.lit (.bool b),[]):=by
 unfold plainElem at h
 rw [he] at h
 cases v <;> simp at h
 exact ⟨_,rfl,h.symm⟩
theorem OwnS.run {w:World} {b n:Nat} {s:Int→Bool} (h:OwnS w b n s) (z:Int) (hz:(Lit.int .i64 z).wf = true):(Instr.lookup 90 (.map (some b)) (.int .i64 z) false).run Try.prog w = .ok (.bool (s z)) w:=by
 obtain ⟨D,hD,h2,h3⟩:=h
 obtain ⟨v,ps,hrun,hv⟩:=hD.lookup (t:=90) (e:=4) (Maps.int_keyed Try.underlying3) Try.underlying90 (z:=.bool false) (by kernel_rfl) (zd:=.lit (.bool false)) (zp:=[]) (plainElem_bool Try.underlying4 false) (Maps.keyOf_int_mk Try.underlying3 hz)
 rw [h3 z hz] at hv
 obtain ⟨c,rfl,hc⟩:=plainElem_bool_inv Try.underlying4 hv
 simp only [Prod.mk.injEq,DataW.lit.injEq,Lit.bool.injEq] at hc
 rw [hrun,hc.1]
theorem OwnS.put {w':World} {b n:Nat} {s:Int→Bool} {D:DataW Unit} (z:Int) (h2:Maps.IsMap D) (h3:∀ z:Int,(Lit.int .i64 z).wf = true→D.atKey (.int .i64 z) (.lit (.bool false)) = .lit (.bool (s z))) (h:w'.ownsMap Try.prog 3 (plainElem Try.prog 4) b n (D.put (.int .i64 z) (.lit (.bool true)))):OwnS w' b n (fun y=>y == z || s y):=by
 refine ⟨_,h,h2.put _ _,fun y hy=>?_⟩
 by_cases e:y = z
 ·subst e
  rw [Maps.atKey_put_same h2 (by trivial)]
  simp
 ·rw [Maps.atKey_put_other (by simpa using e),h3 y hy]
  simp [e]
theorem wpList_set_put (w:World) {ops:Array Oper} {rest:List Oper} {o:Oper} {a:Act} {Q:Exit→Act→World→Prop}
  (hg:o.guard = none) (m x v:Operand) (hop:o.op = Op.mapUpdate 90 m x v) (b n:Nat) (s:Int→Bool) (hm:a.eval m = .map (some b)) (hown:OwnS w b n s) (hn:n < maxLen) (z:Int) (hx:a.eval x = .int .i64 z) (hv:a.eval v = .bool true) (hz:(Lit.int .i64 z).wf = true)
  (hK:∀ w',OwnS w' b (n + 1) (fun y=>y == z || s y)→w.grownBy w' (some b)→wpList Try.prog ops Q rest (a.put o.dst undef) w') :
  wpList Try.prog ops Q (o :: rest) a w:=by
 obtain ⟨D,hD,h2,h3⟩:=hown
 exact wpList_mapUpdate_own w hg m x v 90 hop 3 4 (Maps.int_keyed Try.underlying3) Try.underlying90 _ b n D hm hD hn _ _ _ hx hv (Maps.keyOf_int_mk Try.underlying3 hz) _ _ (plainElem_bool Try.underlying4 true) (fun w' q1 q2=>hK w' (OwnS.put z h2 h3 q1) q2)
theorem Sheet.grown {w0 W W1:World} {g:Nat} {A:Option Addr} {c gf ga:Nat} {lv:Value} {xs:List S41} {far:List Bool} {at_:List Int} (h:Sheet w0 W g A c gf ga lv xs far at_) {b n:Nat} {s:Int→Bool} (hb:OwnS W b n s) (h0:w0.heap.size≤b) (hg:W.grownBy W1 (some b)):Sheet w0 W1 g A c gf ga lv xs far at_:=by
 obtain ⟨es,k,hh⟩:=hb.heap
 have ne:∀ {j:Nat} {cs:Array Value} {t:TypeId},W.heap[j]? = some (.cells cs t (0,0))→W1.heap[j]? = some (.cells cs t (0,0)):=by
  intro j cs t hj
  have hne:j≠b:=by rintro rfl;rw [hh] at hj;cases hj
  rw [hg.block j (blk_lt hj) (by simpa using hne),hj]
 exact ⟨ne h.blk,h.items,h.len,ne h.farB,h.farL,ne h.atB,h.atL,⟨hg.os.trans h.bel.os,hg.tape.trans h.bel.tape,hg.output.trans h.bel.output,Nat.le_trans h.bel.size hg.size,fun k hk=>(hg.block k (by have:=h.bel.size;omega) (by simp;omega)).trans (h.bel.block k hk)⟩,h.gB,h.gfB,h.gaB⟩
theorem madeCells_one (v:Value) (n:Nat):madeCells #[v] n = (List.replicate n v).toArray:=by
 apply Array.ext
 ·simp [size_madeCells]
 ·intro i h1 h2
  simp [madeCells,Nat.mod_one]
theorem make_one (t e:TypeId) (z:Value) (w:World) (ht:Try.prog.underlying t = some (.slice e)) (hi:(Try.prog.info? e).map (fun i=>(i.zero,i.size,decide (i.bytes≤8))) = some (some z,1,true)) (hz:z.cells = #[z]) (n:Nat) (hn:n≤1000000):(Instr.makeSlice t (.int .i64 n) (.int .i64 n)).run Try.prog w = .ok (.slice (some ⟨w.heap.size,0,none⟩) n n) (w.alloc (.cells (List.replicate n z).toArray e)):=by
 obtain ⟨i,hi,he⟩:=Option.map_eq_some_iff.mp hi
 simp only [Prod.mk.injEq,decide_eq_true_eq] at he
 obtain ⟨h1,h2,h3⟩:=he
 have hb:(i.bytes:Int) * n≤8 * n:=Int.mul_le_mul_of_nonneg_right (by omega) (by omega)
 have h:=run_makeSlice (P:=Try.prog) w t e i z ht hi h1 .i64 .i64 n n (by omega) (by omega) (by rw [h2];simp;omega) (by omega) (by omega)
 rw [h,h2,hz,madeCells_one]
 simp
def zeroInts (n:Nat):Array Value:=((List.replicate n (0:Int)).map (Value.int .i64)).toArray
def zeroBools (n:Nat):Array Value:=((List.replicate n false).map Value.bool).toArray
theorem make_int (w:World) (n:Nat) (hn:n≤1000000):(Instr.makeSlice 26 (.int .i64 n) (.int .i64 n)).run Try.prog w = .ok (.slice (some ⟨w.heap.size,0,none⟩) n n) (w.alloc (.cells (zeroInts n) 3)):=by
 rw [zeroInts,make_one 26 3 (.int .i64 0) w Try.underlying26 (by kernel_rfl) rfl n hn,List.map_replicate]
theorem make_bool (w:World) (n:Nat) (hn:n≤1000000):(Instr.makeSlice 63 (.int .i64 n) (.int .i64 n)).run Try.prog w = .ok (.slice (some ⟨w.heap.size,0,none⟩) n n) (w.alloc (.cells (zeroBools n) 4)):=by
 rw [zeroBools,make_one 63 4 (.bool false) w Try.underlying63 (by kernel_rfl) rfl n hn,List.map_replicate]
theorem Sheet.setLv {w0 W:World} {g:Nat} {A:Option Addr} {c gf ga:Nat} {lv:Value} {xs:List S41} {far:List Bool} {at_:List Int} (h:Sheet w0 W g A c gf ga lv xs far at_) (v:Value):Sheet w0 (W.setCell ⟨g,3,none⟩ v) g A c gf ga v xs far at_ :=
 ⟨blk_set h.blk 3 v,h.items,h.len,blk_far h.farB (Ne.symm h.gNf) _,h.farL,blk_far h.atB (Ne.symm h.gNa) _,h.atL,h.bel.setCell h.gB _,h.gB,h.gfB,h.gaB⟩
theorem lab_fill (i n:Nat) (h:i < n):(List.replicate i (-1:Int) ++ List.replicate (n - i) 0).set i (-1) = List.replicate (i + 1) (-1) ++ List.replicate (n - (i + 1)) 0:=by
 apply List.ext_getElem?
 intro j
 rw [List.getElem?_set]
 simp only [List.getElem?_append,List.length_append,List.length_replicate,List.getElem?_replicate]
 by_cases h1:i = j
 ·subst h1
  simp
  omega
 ·by_cases h2:j < i
  ·have h3:j < i + 1:=by omega
   simp [h1,h2,h3]
  ·have h3:¬ j < i + 1:=by omega
   have:(j - i < n - i)↔(j - (i + 1) < n - (i + 1)):=by omega
   simp only [h1,h2,h3,if_false,this]
def asm_labels.l0:Nat→List S41→(Int→Bool)→Int→Nat→Option (Option ((Int→Bool) × Int))
 | 0,_,_,_,_=>none
 | k + 1,xs,s,m,i=>if i < xs.length then
   (if (rd_T41 xs i).f0 = 2 then
    (if ¬ (0≤(rd_T41 xs i).f2∧(rd_T41 xs i).f2 < 4096) then none
    else if s (rd_T41 xs i).f2 = true then some none
    else asm_labels.l0 k xs (fun y=>y == (rd_T41 xs i).f2 || s y) (if (rd_T41 xs i).f2 > m then (rd_T41 xs i).f2 else m) (i + 1))
   else asm_labels.l0 k xs s m (i + 1))
  else some (some (s,m))
def asm_labels.l1:Nat→List S41→(Int→Bool)→Nat→Option Int
 | 0,_,_,_=>none
 | k + 1,xs,s,i=>if i < xs.length then
   (if (rd_T41 xs i).f0 = 3∨(rd_T41 xs i).f0 = 4 then
    (if ¬ (0≤(rd_T41 xs i).f2∧(rd_T41 xs i).f2 < 4096) then none
    else if s (rd_T41 xs i).f2 = false then some 4
    else asm_labels.l1 k xs s (i + 1))
   else asm_labels.l1 k xs s (i + 1))
  else some 0
def asm_labels.f (k:Nat) (xs:List S41):Option (Int × Nat) :=
 (asm_labels.l0 k xs (fun _=>false) (-1) 0).bind fun p=>match p with
  | none=>some (6,0)
  | some (s,m)=>(asm_labels.l1 k xs s 0).map fun e=>(e,(m + 1).toNat)
set_option maxHeartbeats 1000000 in
set_option maxRecDepth 100000 in
theorem asm_labels.calls (k:Nat) (w0 w:World) (g:Nat) (A:Option Addr) (c gf ga:Nat) (lv:Value) (xs:List S41) (far:List Bool) (at_:List Int) (hS:Sheet w0 w g A c gf ga lv xs far at_) (r:Int) (n:Nat) (h:asm_labels.f k xs = some (r,n)) :
  Calls Try.prog 26 #[.pointer (some ⟨g,0,none⟩)] w fun e w'=>e = .returned (.int .i64 r)∧∃ lv',Sheet w0 w' g A c gf ga lv' xs far at_∧(r = 0→∃ gl,Lab w0 w' ga gl lv' (List.replicate n (-1))):=by
 have hu41:=Try.underlying41
 have hu65:=Try.underlying65
 have s0:=blk_cell hS.blk 0
 simp only [List.getElem?_toArray,List.getElem?_cons_zero] at s0
 have l0:=blk_lt hS.blk
 have HS:=Aside0.mk hS
 have hlen:=hS.len
 have hws:=hS.bel.size
 simp only [asm_labels.f] at h
 replace h:=Option.bind_eq_some_iff.mp h
 obtain ⟨p,hp,h⟩:=h
 have H:=Aside0.mk hp
 have HR:=Aside0.mk h
 clear hS h hp
 have hmm:=@run_makeMap Try.prog
 go_enter Try.func26,Try.ntmps26
 go_wp2
 have HO:=Aside0.mk (OwnS.made w)
 clear hmm
 go_loopw [4,16] (fun v4 v16 wr=>∃ (kq i:Nat) (m:Int) (s:Int→Bool),v4 = .int .i64 m∧v16 = .int .i64 (i:Int)∧i≤xs.length∧-1≤m∧m < 4096∧Aside0 (asm_labels.l0 kq xs s m i = some p)∧Aside0 (Sheet w0 wr g A c gf ga lv xs far at_)∧Aside0 (OwnS wr w.heap.size i s)) (fun _ v16 _=>xs.length - (intOf v16).toNat)
 case atStart=>exact ⟨k,0,-1,_,rfl,rfl,by omega,by omega,by omega,H,⟨HS.out.below (below_alloc (Below.refl _ _) _)⟩,HO⟩
 case round =>
  clear H HS HO s0
  obtain ⟨kq,i,m,s,rfl,rfl,hi,hm0,hm1,H,HS,HO⟩:=hrel
  cases kq with
  | zero=>exact absurd H.out (by simp [asm_labels.l0])
  | succ kq =>
  have h0:=H.out
  clear H
  simp only [asm_labels.l0] at h0
  have l1:=blk_lt HS.out.blk
  have l2:=HO.out.lt
  by_cases hlt:i < xs.length
  ·rw [if_pos hlt] at h0
   obtain ⟨ad,rfl,e0,e1,e2,e3,e4,e5,e6⟩:=at_T41 (Kd.C_below HS.out.items HS.out.bel) (i:Int) (by omega) (by omega)
   simp only [Int.toNat_natCast] at e0 e1 e2 e3 e4 e5 e6
   have hS2:=HS.out
   generalize hx:rd_T41 xs i = x at *
   obtain ⟨x0,⟨y0,y1,y2,y3,y4⟩,x2⟩:=x
   dsimp only at e0 e1 e2 e3 e4 e5 e6 h0
   have HX:=Aside0.mk hx
   clear hx hS2
   by_cases k2:x0 = 2
   ·rw [if_pos k2] at h0
    subst k2
    by_cases kr:¬ (0≤x2∧x2 < 4096)
    ·rw [if_pos kr] at h0
     cases h0
    rw [if_neg kr] at h0
    replace kr:=Classical.not_not.1 kr
    have hwf:(Lit.int .i64 x2).wf = true:=WalkArith.wf_i64 (by omega)
    have hr:=(HO.out.alloc (.cells #[.int .i64 2,.int .i64 y0,.int .i64 y1,.int .i64 y2,.int .i64 y3,.int .i64 y4,.int .i64 x2] 41)).run x2 hwf
    by_cases ks:s x2 = true
    ·rw [if_pos ks] at h0
     obtain rfl:=Option.some.inj h0
     rw [ks] at hr
     go_wp2
     go_ret
     have h1:=HR.out
     simp only [Option.some.injEq,Prod.mk.injEq] at h1
     obtain ⟨rfl,rfl⟩:=h1
     exact ⟨rfl,lv,HS.out.below (below_alloc (Below.refl _ _) _),fun q=>absurd q (by decide)⟩
    ·rw [if_neg ks] at h0
     have ks2:s x2 = false:=by simpa using ks
     rw [ks2] at hr
     have H:=Aside0.mk h0
     clear h0 ks ks2
     go_wp2_with (first|(at_mapUpdate;refine wpList_set_put _ rfl _ _ _ rfl w.heap.size i s rfl (HO.out.alloc _) (by have:maxLen = 9223372036854775807:=rfl;omega) x2 rfl rfl hwf ?_;intro w1 ho1 hg1;have HS1:=Aside0.mk ((HS.out.below (below_alloc (Below.refl _ _) _)).grown (HO.out.alloc _) hws hg1);have HO1:=Aside0.mk ho1;have hc1:=hg1.cell (a:=⟨wr.heap.size,6,none⟩) (v:=.int .i64 x2) (by simp) (by simp;omega);clear ho1 hg1))
     refine ⟨⟨kq,i + 1,_,_,rfl,by go_num,by omega,?_,?_,H,HS1,HO1⟩,zmb8_6⟩
     ·split <;> omega
     ·split <;> omega
   ·rw [if_neg k2] at h0
    have b2:(x0 == 2) = false:=by simp [k2]
    have H:=Aside0.mk h0
    clear h0 k2
    go_wp2
    exact ⟨⟨kq,i + 1,_,_,rfl,by go_num,by omega,hm0,hm1,H,⟨HS.out.below (below_alloc (Below.refl _ _) _)⟩,⟨(HO.out.alloc _).mono (by omega)⟩⟩,zmb8_6⟩
  ·rw [if_neg hlt] at h0
   obtain rfl:=Option.some.inj h0
   clear h0
   have h1:=HR.out
   clear HR
   replace h1:=Option.map_eq_some_iff.mp h1
   obtain ⟨q,hq,h1⟩:=h1
   simp only [Prod.mk.injEq] at h1
   obtain ⟨rfl,hn⟩:=h1
   obtain rfl:m = (n:Int) - 1:=by omega
   clear hn
   have H:=Aside0.mk hq
   clear hq
   have s0:=blk_cell HS.out.blk 0
   simp only [List.getElem?_toArray,List.getElem?_cons_zero] at s0
   go_wp2
   have H0:=Aside0.mk HO.out
   have HS0:=Aside0.mk HS.out
   go_loopw [40] (fun v40 wq=>∃ (kp i:Nat),v40 = .int .i64 (i:Int)∧i≤xs.length∧Aside0 (asm_labels.l1 kp xs s i = some q)∧Aside0 (Sheet w0 wq g A c gf ga lv xs far at_)∧Aside0 (OwnS wq w.heap.size xs.length s)) (fun v40 _=>xs.length - (intOf v40).toNat)
   case atStart=>exact ⟨k,0,rfl,by omega,H,HS,⟨HO.out.mono hi⟩⟩
   case round =>
    clear H HS HO s0 l1 l2 H0 HS0 hlt hi
    obtain ⟨kp,i,rfl,hi,H,HS,HO⟩:=hrel
    cases kp with
    | zero=>exact absurd H.out (by simp [asm_labels.l1])
    | succ kp =>
    have h0:=H.out
    clear H
    simp only [asm_labels.l1] at h0
    have l1:=blk_lt HS.out.blk
    have l2:=HO.out.lt
    by_cases hlt:i < xs.length
    ·rw [if_pos hlt] at h0
     obtain ⟨ad,rfl,e0,e1,e2,e3,e4,e5,e6⟩:=at_T41 (Kd.C_below HS.out.items HS.out.bel) (i:Int) (by omega) (by omega)
     simp only [Int.toNat_natCast] at e0 e1 e2 e3 e4 e5 e6
     have hS2:=HS.out
     generalize hx:rd_T41 xs i = x at *
     obtain ⟨x0,⟨y0,y1,y2,y3,y4⟩,x2⟩:=x
     dsimp only at e0 e1 e2 e3 e4 e5 e6 h0
     have HX:=Aside0.mk hx
     clear hx hS2
     by_cases k3:x0 = 3∨x0 = 4
     ·rw [if_pos k3] at h0
      by_cases kr:¬ (0≤x2∧x2 < 4096)
      ·rw [if_pos kr] at h0
       cases h0
      rw [if_neg kr] at h0
      replace kr:=Classical.not_not.1 kr
      have hwf:(Lit.int .i64 x2).wf = true:=WalkArith.wf_i64 (by omega)
      by_cases ks:s x2 = false
      ·rw [if_pos ks] at h0
       obtain rfl:=Option.some.inj h0
       rcases k3 with rfl|rfl
       ·have hr:=(HO.out.alloc (.cells #[.int .i64 3,.int .i64 y0,.int .i64 y1,.int .i64 y2,.int .i64 y3,.int .i64 y4,.int .i64 x2] 41)).run x2 hwf
        rw [ks] at hr
        go_wp2
        go_ret
        exact ⟨rfl,lv,HS.out.below (below_alloc (Below.refl _ _) _)⟩
       ·have hr:=(HO.out.alloc (.cells #[.int .i64 4,.int .i64 y0,.int .i64 y1,.int .i64 y2,.int .i64 y3,.int .i64 y4,.int .i64 x2] 41)).run x2 hwf
        rw [ks] at hr
        go_wp2
        go_ret
        exact ⟨rfl,lv,HS.out.below (below_alloc (Below.refl _ _) _)⟩
      ·rw [if_neg ks] at h0
       replace ks:s x2 = true:=by simpa using ks
       have H:=Aside0.mk h0
       clear h0
       rcases k3 with rfl|rfl
       ·have hr:=(HO.out.alloc (.cells #[.int .i64 3,.int .i64 y0,.int .i64 y1,.int .i64 y2,.int .i64 y3,.int .i64 y4,.int .i64 x2] 41)).run x2 hwf
        rw [ks] at hr
        go_wp2
        exact ⟨⟨kp,i + 1,by go_num,by omega,H,⟨HS.out.below (below_alloc (Below.refl _ _) _)⟩,⟨HO.out.alloc _⟩⟩,zmb8_6⟩
       ·have hr:=(HO.out.alloc (.cells #[.int .i64 4,.int .i64 y0,.int .i64 y1,.int .i64 y2,.int .i64 y3,.int .i64 y4,.int .i64 x2] 41)).run x2 hwf
        rw [ks] at hr
        go_wp2
        exact ⟨⟨kp,i + 1,by go_num,by omega,H,⟨HS.out.below (below_alloc (Below.refl _ _) _)⟩,⟨HO.out.alloc _⟩⟩,zmb8_6⟩
     ·rw [if_neg k3] at h0
      have b3:(x0 == 3) = false:=by simp;omega
      have b4:(x0 == 4) = false:=by simp;omega
      have H:=Aside0.mk h0
      clear h0 k3
      go_wp2
      exact ⟨⟨kp,i + 1,by go_num,by omega,H,⟨HS.out.below (below_alloc (Below.refl _ _) _)⟩,⟨HO.out.alloc _⟩⟩,zmb8_6⟩
    ·rw [if_neg hlt] at h0
     obtain rfl:=Option.some.inj h0
     clear h0 hi
     have hmN:(n:Int) - 1 + 1 = n:=by omega
     have s0:=blk_cell HS.out.blk 0
     have hmk:=make_int wr n (by omega)
     have HA:=Aside0.mk (HS.out.below (below_alloc (Below.refl _ _) (.cells (zeroInts n) 3)))
     have s3:=blk_cell HA.out.blk 3
     have s4:=blk_frozen HA.out.blk 3
     have HB:=Aside0.mk (HS.out.setLv (.slice (some ⟨wr.heap.size,0,none⟩) n n))
     have t3:=blk_cell HB.out.blk 3
     simp only [List.getElem?_toArray,List.getElem?_cons_zero,List.getElem?_cons_succ] at s0 s3 t3
     have HZ:Aside0 (((wr.setCell ⟨g,3,none⟩ (.slice (some ⟨wr.heap.size,0,none⟩) n n)).alloc (.cells (zeroInts n) 3)).heap[wr.heap.size]? = some (.cells (zeroInts n) 3 (0,0))):=Aside0.mk (by have:=heap_alloc_last (wr.setCell ⟨g,3,none⟩ (.slice (some ⟨wr.heap.size,0,none⟩) n n)) (.cells (zeroInts n) 3);simpa using this)
     go_wp2
     have hwr:w0.heap.size≤wr.heap.size:=HS.out.bel.size
     have hga:wr.heap.size≠ga:=by have:=blk_lt HS.out.atB;omega
     go_loopw [71] (fun v71 wq=>∃ i:Nat,v71 = .int .i64 (i:Int)∧i≤n∧Aside0 (Sheet w0 wq g A c gf ga (.slice (some ⟨wr.heap.size,0,none⟩) n n) xs far at_)∧Aside0 (Lab w0 wq ga wr.heap.size (.slice (some ⟨wr.heap.size,0,none⟩) n n) (List.replicate i (-1) ++ List.replicate (n - i) 0))) (fun v71 _=>n - (intOf v71).toNat)
     case atStart=>exact ⟨0,rfl,by omega,⟨HB.out.below (below_alloc (Below.refl _ _) _)⟩,⟨by simp,by simpa [zeroInts] using HZ.out,hwr,by simp;omega,hga⟩⟩
     case round =>
      clear HZ HB HA t3 s4 s3 s0 hmk HS HO l1 l2
      obtain ⟨i,rfl,hi,HS,HL⟩:=hrel
      have l1:=blk_lt HS.out.blk
      have l2:=blk_lt HL.out.blk
      have s3:=blk_cell HS.out.blk 3
      simp only [List.getElem?_toArray,List.getElem?_cons_zero,List.getElem?_cons_succ] at s3
      by_cases hlt:i < n
      ·have hL1:=HL.out.setLab i (-1)
       rw [lab_fill i n hlt] at hL1
       have HL1:=Aside0.mk hL1
       have HS1:=Aside0.mk (HS.out.setLab HL.out i (-1))
       clear hL1
       have a0:=int_cell HL.out.blk i (by simp;omega)
       have a1:=blk_frozen HL.out.blk i
       generalize (List.replicate i (-1:Int) ++ List.replicate (n - i) 0).getD i 0 = v at *
       have hlt2:(i:Int) < (n:Int):=by omega
       go_wp2
       exact ⟨⟨i + 1,by go_num,by omega,HS1,HL1⟩,zmb8_6⟩
      ·have hin:i = n:=by omega
       subst hin
       go_wp2
       go_ret
       exact ⟨rfl,_,HS.out,⟨_,by simpa using HL.out⟩⟩
def word_Sign.f (a0:Int) (a1:Int):Option (Int):=if a1 < 1 then (some a0) else (if a1 > 31 then (some a0) else (if 0≤(wrap64 (32 - a1)) then (some ((shr .i32 (wrap32 (shl .u32 a0 (wrap64 (32 - a1)))) (wrap64 (32 - a1))) % 4294967296)) else (none)))
set_option maxHeartbeats 8000000 in
set_option maxRecDepth 100000 in
theorem word_Sign.calls (a0:Int) (a1:Int) (r:Int) (w:World) (h:word_Sign.f a0 a1 = some r) :
  Calls Try.prog 64 #[.int .u32 a0,.int .i64 a1] w fun e w'=>e = .returned (.int .u32 r)∧Drawn0 w w':=by
 have H:(if a1 < 1 then (some a0) else (if a1 > 31 then (some a0) else (if 0≤(wrap64 (32 - a1)) then (some ((shr .i32 (wrap32 (shl .u32 a0 (wrap64 (32 - a1)))) (wrap64 (32 - a1))) % 4294967296)) else (none)))) = some r:=h
 clear h
 by_cases c3:a1 < 1
 ·rw [if_pos c3] at H
  have c3b0:decide (a1 < 1) = true:=decide_eq_true c3
  clear c3
  obtain rfl:=Option.some.inj H
  go_enter Try.func64,Try.ntmps64
  go_wp2
  go_ret
  exact ⟨zmb8_0,zmb8_2⟩
 ·rw [if_neg c3] at H
  have c3b0:decide (a1 < 1) = false:=decide_eq_false c3
  clear c3
  by_cases c4:a1 > 31
  ·rw [if_pos c4] at H
   have c4b0:decide (31 < a1) = true:=decide_eq_true c4
   clear c4
   obtain rfl:=Option.some.inj H
   go_enter Try.func64,Try.ntmps64
   go_wp2
   go_ret
   exact ⟨zmb8_0,zmb8_2⟩
  ·rw [if_neg c4] at H
   have c4b0:decide (31 < a1) = false:=decide_eq_false c4
   clear c4
   obtain ⟨ji5,hji5⟩:∃ j_:Int,(wrap64 (32 - a1)) = j_:=⟨_,rfl⟩
   replace H:(if 0≤(ji5) then (some ((shr .i32 (wrap32 (shl .u32 a0 (ji5))) (ji5)) % 4294967296)) else (none)) = some r:=by first|(rw [hji5] at H;exact H)|(simp only [hji5] at H ⊢;exact H)
   have hji5w:(IntKind.i64.wrap (32 - a1)) = ji5:=(i64_w _).trans hji5
   by_cases c6:0≤(ji5)
   ·rw [if_pos c6] at H
    have c6b0:=eq_true c6
    have c6b1:decide (0≤(ji5)) = true:=decide_eq_true c6
    clear c6
    obtain ⟨ji7,hji7⟩:∃ j_:Int,(shl .u32 a0 (ji5)) = j_:=⟨_,rfl⟩
    replace H:(some ((shr .i32 (wrap32 (ji7)) (ji5)) % 4294967296)) = some r:=by first|(rw [hji7] at H;exact H)|(simp only [hji7] at H ⊢;exact H)
    have hji7_:(IntKind.u32.wrap (a0 * 2 ^ min (ji5).toNat 32)) = ji7:=hji7
    have hji7z:(ji5)≤32→(IntKind.u32.wrap (a0 * 2 ^ (ji5).toNat)) = ji7:=shl_small hji7
    have c8b0:=eq_true (of_decide_eq_true (by first|(with_reducible assumption)|assumption):0≤(ji5))
    obtain ⟨ji9,hji9⟩:∃ j_:Int,(shr .i32 (wrap32 (ji7)) (ji5)) = j_:=⟨_,rfl⟩
    replace H:(some ((ji9) % 4294967296)) = some r:=by first|(rw [hji9] at H;exact H)|(simp only [hji9] at H ⊢;exact H)
    have hji9_:((wrap32 (ji7)) / 2 ^ min (ji5).toNat 32) = ji9:=hji9
    have hji9z:(ji5)≤32→((wrap32 (ji7)) / 2 ^ (ji5).toNat) = ji9:=shr_small hji9
    obtain rfl:=Option.some.inj H
    go_enter Try.func64,Try.ntmps64
    go_wp2
    go_ret
    exact ⟨by first|rfl|(simp;done)|(simp only [← hji5,← hji7,← hji9] <;> (first|rfl|simp))|(simp [*];done),zmb8_2⟩
   ·rw [if_neg c6] at H
    exact absurd H (by simp)
def word_Parts.f (a0:Int):Option (Int × Int):=(word_Sign.f a0 12).bind fun t122=>(some ((a0 - t122) % 4294967296,t122))
set_option maxHeartbeats 8000000 in
set_option maxRecDepth 100000 in
theorem word_Parts.calls (a0:Int) (r1:Int) (r2:Int) (w:World) (h:word_Parts.f a0 = some (r1,r2)) :
  Calls Try.prog 66 #[.int .u32 a0] w fun e w'=>e = .returned (.tuple #[.int .u32 r1,.int .u32 r2])∧Drawn0 w w':=by
 have H:((word_Sign.f a0 12).bind fun t122=>(some ((a0 - t122) % 4294967296,t122))) = some (r1,r2):=h
 clear h
 replace H:=Option.bind_eq_some_iff.mp H
 obtain ⟨t122,A20,H⟩:=H
 replace H:(some ((a0 - t122) % 4294967296,t122)) = some (r1,r2):=H
 have A2:=Aside0.mk A20
 clear A20
 simp only [Option.some.injEq,Prod.mk.injEq] at H
 obtain ⟨rfl,rfl⟩:=H
 go_enter Try.func66,Try.ntmps66
 go_wp2_with (first|((with_reducible refine gate_callee (f:=64) rfl ?_);refine goesL_ (some 5) rfl rfl Try.func64 (by kernel_rfl) rfl #[.int .u32 a0,.int .i64 12] rfl zmb8_3 ?_;(with_reducible refine (word_Sign.calls a0 12 t122 _ A2.out).mono ?_);rintro e w' ⟨rfl,⟨nd,rfl⟩⟩;refine ⟨_,rfl,?_⟩))
 go_ret2
 exact ⟨zmb8_0,zmb8_2⟩
def asm_consts.f (a0:Int) (a1:Int):Option ((List (S39))):=(word_Parts.f a1).bind fun bt123=>(if bt123.1 = 0 then (some (([(⟨19,a0,0,0,wrap64 (wrap32 (bt123.2))⟩:S39)]:List (S39)))) else (if bt123.2 = 0 then (some (([(⟨1,a0,0,0,wrap64 (wrap32 (bt123.1))⟩:S39)]:List (S39)))) else (some (([(⟨1,a0,0,0,wrap64 (wrap32 (bt123.1))⟩:S39),(⟨19,a0,a0,0,wrap64 (wrap32 (bt123.2))⟩:S39)]:List (S39))))))
set_option maxHeartbeats 8000000 in
set_option maxRecDepth 100000 in
theorem asm_consts.calls (a0:Int) (a1:Int) (r:List (S39)) (w:World) (h:asm_consts.f a0 a1 = some r) :
  Calls Try.prog 47 #[.int .i64 a0,.int .u32 a1] w fun e w'=>∃ v0_:Value,e = .returned (v0_)∧Kd.R k39 39 w' w.heap.size (fun _=>True) v0_ r∧Below w.heap.size w w':=by
 have hu39:=Try.underlying39
 have HB:=Aside0.mk (Below.refl w.heap.size w)
 have H:((word_Parts.f a1).bind fun bt123=>(if bt123.1 = 0 then (some (([(⟨19,a0,0,0,wrap64 (wrap32 (bt123.2))⟩:S39)]:List (S39)))) else (if bt123.2 = 0 then (some (([(⟨1,a0,0,0,wrap64 (wrap32 (bt123.1))⟩:S39)]:List (S39)))) else (some (([(⟨1,a0,0,0,wrap64 (wrap32 (bt123.1))⟩:S39),(⟨19,a0,a0,0,wrap64 (wrap32 (bt123.2))⟩:S39)]:List (S39))))))) = some r:=h
 clear h
 replace H:=Option.bind_eq_some_iff.mp H
 obtain ⟨⟨t123,t124⟩,A30,H⟩:=H
 replace H:(if t123 = 0 then (some (([(⟨19,a0,0,0,wrap64 (wrap32 (t124))⟩:S39)]:List (S39)))) else (if t124 = 0 then (some (([(⟨1,a0,0,0,wrap64 (wrap32 (t123))⟩:S39)]:List (S39)))) else (some (([(⟨1,a0,0,0,wrap64 (wrap32 (t123))⟩:S39),(⟨19,a0,a0,0,wrap64 (wrap32 (t124))⟩:S39)]:List (S39)))))) = some r:=H
 have A3:=Aside0.mk A30
 clear A30
 by_cases c4:t123 = 0
 ·rw [if_pos c4] at H
  have c4b0:(t123 == 0) = true:=beq_iff_eq.mpr c4
  have c4b1:(t123 != 0) = false:=bne_eq_false_iff_eq.mpr c4
  clear c4
  obtain ⟨y127,hy127⟩:∃ y_:List (S39),y_ = (([(⟨19,a0,0,0,wrap64 (wrap32 (t124))⟩:S39)]:List (S39))):=⟨_,rfl⟩
  replace H:(some y127) = some r:=by first|(rw [hy127];with_reducible exact H)|(have H2_:=(Option.bind_some _ _).symm.trans H;rw [hy127];with_reducible exact H2_)|(have H2_:=(Option.bind_some _ _).symm.trans H;with_reducible exact H2_)|with_reducible exact H|(rw [hy127];exact H)|exact H
  have Ny127:=Aside0.mk hy127
  clear hy127
  obtain rfl:=Option.some.inj H
  go_enter Try.func47,Try.ntmps47
  go_wp2_with (first|((with_reducible refine gate_callee (f:=66) rfl ?_);refine goesL_ (some 11) rfl rfl Try.func66 (by kernel_rfl) rfl #[.int .u32 a1] rfl zmb8_3 ?_;(with_reducible refine (word_Parts.calls a1 t123 t124 _ A3.out).mono ?_);rintro e w' ⟨rfl,⟨nd,rfl⟩⟩;refine ⟨_,rfl,?_⟩)|((with_reducible refine gate_dst (N:=7) rfl ?_);refine box_event ?hg (N:=7) ?hd (cs:=#[.int .i64 0,.int .i64 0,.int .i64 0,.int .i64 0,.int .i64 0]) (t:=39) ?hr ?_;(case hd=>rfl);(case hg=>rfl);(case hr=>first|(go_simp;done)|(go_simp;rfl));intro gb125 hg w5 hbox hb;have n0_:=Aside0.mk (below_step zmb8_4 hb);have n1_:=Aside0.mk (hbox);have n2_:=Aside0.mk ((by rw [hg];exact (below_size zmb8_4):w.heap.size≤gb125));have n3_:=Aside0.mk ((by rw [hg];exact (below_size zmb8_4):w.heap.size≤gb125));clear HB;have HB:=n0_;have BK125:=n1_;have GW125:=n2_;have GE125:=n3_;clear n0_ n1_ n2_ n3_;clear hb hbox hg;have hcz6_0:w5.cell? ⟨gb125,0,none⟩ = some (.int .i64 0):=(blk_cell BK125.out 0).trans rfl;have hcz6_1:w5.cell? ⟨gb125,1,none⟩ = some (.int .i64 0):=(blk_cell BK125.out 1).trans rfl;have hcz6_2:w5.cell? ⟨gb125,2,none⟩ = some (.int .i64 0):=(blk_cell BK125.out 2).trans rfl;have hcz6_3:w5.cell? ⟨gb125,3,none⟩ = some (.int .i64 0):=(blk_cell BK125.out 3).trans rfl;have hcz6_4:w5.cell? ⟨gb125,4,none⟩ = some (.int .i64 0):=(blk_cell BK125.out 4).trans rfl;have hfz6_0:=blk_frozen BK125.out 0;have hfz6_1:=blk_frozen BK125.out 1;have hfz6_2:=blk_frozen BK125.out 2;have hfz6_3:=blk_frozen BK125.out 3;have hfz6_4:=blk_frozen BK125.out 4)|((with_reducible refine gate_dst (N:=8) rfl ?_);refine box_event ?hg (N:=8) ?hd (cs:=#[.int .i64 0,.int .i64 0,.int .i64 0,.int .i64 0,.int .i64 0]) (t:=39) ?hr ?_;(case hd=>rfl);(case hg=>rfl);(case hr=>first|(go_simp;done)|(go_simp;rfl));intro gb126 hg w7 hbox hb;have n0_:=Aside0.mk (blk_below (g:=gb125) (o:=.cells #[.int .i64 19,.int .i64 a0,.int .i64 a0,.int .i64 0,.int .i64 (wrap64 (wrap32 (t124)))] 39 (0,0)) zmb8_7 hb);have n1_:=Aside0.mk (below_step zmb8_8 hb);have n2_:=Aside0.mk (hbox);have n3_:=Aside0.mk ((by rw [hg];exact (below_size zmb8_8):w.heap.size≤gb126));have n4_:=Aside0.mk ((by rw [hg];exact (below_size zmb8_8):w.heap.size≤gb126));have n5_:=Aside0.mk ((by rw [hg];exact Nat.ne_of_lt (blk_lt (g:=gb125) (o:=.cells #[.int .i64 19,.int .i64 a0,.int .i64 a0,.int .i64 0,.int .i64 (wrap64 (wrap32 (t124)))] 39 (0,0)) zmb8_7):gb125≠gb126));have n6_:=Aside0.mk ((by rw [hg];exact Nat.ne_of_gt (blk_lt (g:=gb125) (o:=.cells #[.int .i64 19,.int .i64 a0,.int .i64 a0,.int .i64 0,.int .i64 (wrap64 (wrap32 (t124)))] 39 (0,0)) zmb8_7):gb126≠gb125));clear BK125 HB;have BK125:=n0_;have HB:=n1_;have BK126:=n2_;have GW126:=n3_;have GE126:=n4_;have NB125_126:=n5_;have NB126_125:=n6_;clear n0_ n1_ n2_ n3_ n4_ n5_ n6_;clear hb hbox hg;have hnb8:=NB126_125.out;have hnc8:=NB125_126.out;have hcz9_0:w7.cell? ⟨gb126,0,none⟩ = some (.int .i64 0):=(blk_cell BK126.out 0).trans rfl;have hcz9_1:w7.cell? ⟨gb126,1,none⟩ = some (.int .i64 0):=(blk_cell BK126.out 1).trans rfl;have hcz9_2:w7.cell? ⟨gb126,2,none⟩ = some (.int .i64 0):=(blk_cell BK126.out 2).trans rfl;have hcz9_3:w7.cell? ⟨gb126,3,none⟩ = some (.int .i64 0):=(blk_cell BK126.out 3).trans rfl;have hcz9_4:w7.cell? ⟨gb126,4,none⟩ = some (.int .i64 0):=(blk_cell BK126.out 4).trans rfl;have hfz9_0:=blk_frozen BK126.out 0;have hfz9_1:=blk_frozen BK126.out 1;have hfz9_2:=blk_frozen BK126.out 2;have hfz9_3:=blk_frozen BK126.out 3;have hfz9_4:=blk_frozen BK126.out 4;have hcz10_0:w7.cell? ⟨gb125,0,none⟩ = some (.int .i64 19):=(blk_cell BK125.out 0).trans rfl;have hcz10_1:w7.cell? ⟨gb125,1,none⟩ = some (.int .i64 a0):=(blk_cell BK125.out 1).trans rfl;have hcz10_2:w7.cell? ⟨gb125,2,none⟩ = some (.int .i64 a0):=(blk_cell BK125.out 2).trans rfl;have hcz10_3:w7.cell? ⟨gb125,3,none⟩ = some (.int .i64 0):=(blk_cell BK125.out 3).trans rfl;have hcz10_4:w7.cell? ⟨gb125,4,none⟩ = some (.int .i64 (wrap64 (wrap32 (t124)))):=(blk_cell BK125.out 4).trans rfl;have hfz10_0:=blk_frozen BK125.out 0;have hfz10_1:=blk_frozen BK125.out 1;have hfz10_2:=blk_frozen BK125.out 2;have hfz10_3:=blk_frozen BK125.out 3;have hfz10_4:=blk_frozen BK125.out 4)|((with_reducible refine gate_dst (N:=30) rfl ?_);refine Kd.R_lit k39 _ 39 ?hg (N:=30) ?hd (xs:=([(⟨19,a0,0,0,wrap64 (wrap32 (t124))⟩:S39)]:List (S39))) (inner:=[.int .i64 19,.int .i64 a0,.int .i64 0,.int .i64 0,.int .i64 (wrap64 (wrap32 (t124)))]) (ok:=fun _=>True) (okp:=fun _=>True) ?hr ?hp (fun _ hk=>hk) trivial (Below.refl _ _) (Nat.le_refl _) (by simp) ?_;(case hd=>rfl);(case hg=>rfl);(case hr=>first|(go_simp;done)|(go_simp;rfl));(case hp=>exact (Reps.c5 (show Kd.M k39 _ _ _ (⟨19,a0,0,0,wrap64 (wrap32 (t124))⟩:S39) [.int .i64 19,.int .i64 a0,.int .i64 0,.int .i64 0,.int .i64 (wrap64 (wrap32 (t124)))] from (k39_mkM _ _ _ (⟨19,a0,0,0,wrap64 (wrap32 (t124))⟩:S39) )) (Reps.none _ _)));intro v128 w11 ho12 hb hg_ hnew_;clear hg_ hnew_;(first|rw [← Ny127.out] at ho12|(simp only [Int.reduceToNat] at ho12;rw [← Ny127.out] at ho12));have n0_:=Aside0.mk (Kd.R_lower (Kd.R_newB (Kd.R_newB ho12 (g:=gb125) (o:=.cells #[.int .i64 19,.int .i64 a0,.int .i64 0,.int .i64 0,.int .i64 (wrap64 (wrap32 (t124)))] 39 (0,0)) zmb8_9) (g:=gb126) (o:=.cells #[.int .i64 1,.int .i64 a0,.int .i64 0,.int .i64 0,.int .i64 (wrap64 (wrap32 (t123)))] 39 (0,0)) zmb8_10) (below_size zmb8_11));have n1_:=Aside0.mk (blk_below (g:=gb125) (o:=.cells #[.int .i64 19,.int .i64 a0,.int .i64 0,.int .i64 0,.int .i64 (wrap64 (wrap32 (t124)))] 39 (0,0)) zmb8_9 hb);have n2_:=Aside0.mk (blk_below (g:=gb126) (o:=.cells #[.int .i64 1,.int .i64 a0,.int .i64 0,.int .i64 0,.int .i64 (wrap64 (wrap32 (t123)))] 39 (0,0)) zmb8_10 hb);have n3_:=Aside0.mk (below_step zmb8_11 hb);clear BK125 BK126 HB;have HO129:=n0_;have BK125:=n1_;have BK126:=n2_;have HB:=n3_;clear n0_ n1_ n2_ n3_;clear hb ho12))
  go_ret
  exact ⟨_,zmb8_5,by (with_reducible repeat (first|apply Kd.R_alloc|apply Kd.R_drewN|apply Kd.R_drew));exact Kd.R_mono HO129.out (fun _ hk=>trivial),zmb8_11⟩
 ·rw [if_neg c4] at H
  have c4b0:(t123 == 0) = false:=beq_eq_false_iff_ne.mpr c4
  have c4b1:(t123 != 0) = true:=bne_iff_ne.mpr c4
  by_cases c13:t124 = 0
  ·rw [if_pos c13] at H
   have c13b0:(t124 == 0) = true:=beq_iff_eq.mpr c13
   have c13b1:(t124 != 0) = false:=bne_eq_false_iff_eq.mpr c13
   clear c13
   obtain ⟨y130,hy130⟩:∃ y_:List (S39),y_ = (([(⟨1,a0,0,0,wrap64 (wrap32 (t123))⟩:S39)]:List (S39))):=⟨_,rfl⟩
   replace H:(some y130) = some r:=by first|(rw [hy130];with_reducible exact H)|(have H2_:=(Option.bind_some _ _).symm.trans H;rw [hy130];with_reducible exact H2_)|(have H2_:=(Option.bind_some _ _).symm.trans H;with_reducible exact H2_)|with_reducible exact H|(rw [hy130];exact H)|exact H
   have Ny130:=Aside0.mk hy130
   clear hy130
   obtain rfl:=Option.some.inj H
   go_enter Try.func47,Try.ntmps47
   go_wp2_with (first|((with_reducible refine gate_callee (f:=66) rfl ?_);refine goesL_ (some 11) rfl rfl Try.func66 (by kernel_rfl) rfl #[.int .u32 a1] rfl zmb8_3 ?_;(with_reducible refine (word_Parts.calls a1 t123 t124 _ A3.out).mono ?_);rintro e w' ⟨rfl,⟨nd,rfl⟩⟩;refine ⟨_,rfl,?_⟩)|((with_reducible refine gate_dst (N:=7) rfl ?_);refine box_event ?hg (N:=7) ?hd (cs:=#[.int .i64 0,.int .i64 0,.int .i64 0,.int .i64 0,.int .i64 0]) (t:=39) ?hr ?_;(case hd=>rfl);(case hg=>rfl);(case hr=>first|(go_simp;done)|(go_simp;rfl));intro gb125 hg w14 hbox hb;have n0_:=Aside0.mk (below_step zmb8_4 hb);have n1_:=Aside0.mk (hbox);have n2_:=Aside0.mk ((by rw [hg];exact (below_size zmb8_4):w.heap.size≤gb125));have n3_:=Aside0.mk ((by rw [hg];exact (below_size zmb8_4):w.heap.size≤gb125));clear HB;have HB:=n0_;have BK125:=n1_;have GW125:=n2_;have GE125:=n3_;clear n0_ n1_ n2_ n3_;clear hb hbox hg;have hcz15_0:w14.cell? ⟨gb125,0,none⟩ = some (.int .i64 0):=(blk_cell BK125.out 0).trans rfl;have hcz15_1:w14.cell? ⟨gb125,1,none⟩ = some (.int .i64 0):=(blk_cell BK125.out 1).trans rfl;have hcz15_2:w14.cell? ⟨gb125,2,none⟩ = some (.int .i64 0):=(blk_cell BK125.out 2).trans rfl;have hcz15_3:w14.cell? ⟨gb125,3,none⟩ = some (.int .i64 0):=(blk_cell BK125.out 3).trans rfl;have hcz15_4:w14.cell? ⟨gb125,4,none⟩ = some (.int .i64 0):=(blk_cell BK125.out 4).trans rfl;have hfz15_0:=blk_frozen BK125.out 0;have hfz15_1:=blk_frozen BK125.out 1;have hfz15_2:=blk_frozen BK125.out 2;have hfz15_3:=blk_frozen BK125.out 3;have hfz15_4:=blk_frozen BK125.out 4)|((with_reducible refine gate_dst (N:=8) rfl ?_);refine box_event ?hg (N:=8) ?hd (cs:=#[.int .i64 0,.int .i64 0,.int .i64 0,.int .i64 0,.int .i64 0]) (t:=39) ?hr ?_;(case hd=>rfl);(case hg=>rfl);(case hr=>first|(go_simp;done)|(go_simp;rfl));intro gb126 hg w16 hbox hb;have n0_:=Aside0.mk (blk_below (g:=gb125) (o:=.cells #[.int .i64 19,.int .i64 a0,.int .i64 a0,.int .i64 0,.int .i64 (wrap64 (wrap32 (t124)))] 39 (0,0)) zmb8_7 hb);have n1_:=Aside0.mk (below_step zmb8_8 hb);have n2_:=Aside0.mk (hbox);have n3_:=Aside0.mk ((by rw [hg];exact (below_size zmb8_8):w.heap.size≤gb126));have n4_:=Aside0.mk ((by rw [hg];exact (below_size zmb8_8):w.heap.size≤gb126));have n5_:=Aside0.mk ((by rw [hg];exact Nat.ne_of_lt (blk_lt (g:=gb125) (o:=.cells #[.int .i64 19,.int .i64 a0,.int .i64 a0,.int .i64 0,.int .i64 (wrap64 (wrap32 (t124)))] 39 (0,0)) zmb8_7):gb125≠gb126));have n6_:=Aside0.mk ((by rw [hg];exact Nat.ne_of_gt (blk_lt (g:=gb125) (o:=.cells #[.int .i64 19,.int .i64 a0,.int .i64 a0,.int .i64 0,.int .i64 (wrap64 (wrap32 (t124)))] 39 (0,0)) zmb8_7):gb126≠gb125));clear BK125 HB;have BK125:=n0_;have HB:=n1_;have BK126:=n2_;have GW126:=n3_;have GE126:=n4_;have NB125_126:=n5_;have NB126_125:=n6_;clear n0_ n1_ n2_ n3_ n4_ n5_ n6_;clear hb hbox hg;have hnb17:=NB126_125.out;have hnc17:=NB125_126.out;have hcz18_0:w16.cell? ⟨gb126,0,none⟩ = some (.int .i64 0):=(blk_cell BK126.out 0).trans rfl;have hcz18_1:w16.cell? ⟨gb126,1,none⟩ = some (.int .i64 0):=(blk_cell BK126.out 1).trans rfl;have hcz18_2:w16.cell? ⟨gb126,2,none⟩ = some (.int .i64 0):=(blk_cell BK126.out 2).trans rfl;have hcz18_3:w16.cell? ⟨gb126,3,none⟩ = some (.int .i64 0):=(blk_cell BK126.out 3).trans rfl;have hcz18_4:w16.cell? ⟨gb126,4,none⟩ = some (.int .i64 0):=(blk_cell BK126.out 4).trans rfl;have hfz18_0:=blk_frozen BK126.out 0;have hfz18_1:=blk_frozen BK126.out 1;have hfz18_2:=blk_frozen BK126.out 2;have hfz18_3:=blk_frozen BK126.out 3;have hfz18_4:=blk_frozen BK126.out 4)|((with_reducible refine gate_dst (N:=35) rfl ?_);refine Kd.R_lit k39 _ 39 ?hg (N:=35) ?hd (xs:=([(⟨1,a0,0,0,wrap64 (wrap32 (t123))⟩:S39)]:List (S39))) (inner:=[.int .i64 1,.int .i64 a0,.int .i64 0,.int .i64 0,.int .i64 (wrap64 (wrap32 (t123)))]) (ok:=fun _=>True) (okp:=fun _=>True) ?hr ?hp (fun _ hk=>hk) trivial (Below.refl _ _) (Nat.le_refl _) (by simp) ?_;(case hd=>rfl);(case hg=>rfl);(case hr=>first|(go_simp;done)|(go_simp;rfl));(case hp=>exact (Reps.c5 (show Kd.M k39 _ _ _ (⟨1,a0,0,0,wrap64 (wrap32 (t123))⟩:S39) [.int .i64 1,.int .i64 a0,.int .i64 0,.int .i64 0,.int .i64 (wrap64 (wrap32 (t123)))] from (k39_mkM _ _ _ (⟨1,a0,0,0,wrap64 (wrap32 (t123))⟩:S39) )) (Reps.none _ _)));intro v131 w19 ho20 hb hg_ hnew_;clear hg_ hnew_;(first|rw [← Ny130.out] at ho20|(simp only [Int.reduceToNat] at ho20;rw [← Ny130.out] at ho20));have n0_:=Aside0.mk (Kd.R_lower (Kd.R_newB (Kd.R_newB ho20 (g:=gb125) (o:=.cells #[.int .i64 19,.int .i64 a0,.int .i64 a0,.int .i64 0,.int .i64 (wrap64 (wrap32 (t124)))] 39 (0,0)) zmb8_12) (g:=gb126) (o:=.cells #[.int .i64 1,.int .i64 a0,.int .i64 0,.int .i64 0,.int .i64 (wrap64 (wrap32 (t123)))] 39 (0,0)) zmb8_13) (below_size zmb8_11));have n1_:=Aside0.mk (blk_below (g:=gb125) (o:=.cells #[.int .i64 19,.int .i64 a0,.int .i64 a0,.int .i64 0,.int .i64 (wrap64 (wrap32 (t124)))] 39 (0,0)) zmb8_12 hb);have n2_:=Aside0.mk (blk_below (g:=gb126) (o:=.cells #[.int .i64 1,.int .i64 a0,.int .i64 0,.int .i64 0,.int .i64 (wrap64 (wrap32 (t123)))] 39 (0,0)) zmb8_13 hb);have n3_:=Aside0.mk (below_step zmb8_11 hb);clear BK125 BK126 HB;have HO132:=n0_;have BK125:=n1_;have BK126:=n2_;have HB:=n3_;clear n0_ n1_ n2_ n3_;clear hb ho20))
   go_ret
   exact ⟨_,zmb8_5,by (with_reducible repeat (first|apply Kd.R_alloc|apply Kd.R_drewN|apply Kd.R_drew));exact Kd.R_mono HO132.out (fun _ hk=>trivial),zmb8_11⟩
  ·rw [if_neg c13] at H
   have c13b0:(t124 == 0) = false:=beq_eq_false_iff_ne.mpr c13
   have c13b1:(t124 != 0) = true:=bne_iff_ne.mpr c13
   obtain ⟨y133,hy133⟩:∃ y_:List (S39),y_ = (([(⟨1,a0,0,0,wrap64 (wrap32 (t123))⟩:S39),(⟨19,a0,a0,0,wrap64 (wrap32 (t124))⟩:S39)]:List (S39))):=⟨_,rfl⟩
   replace H:(some y133) = some r:=by first|(rw [hy133];with_reducible exact H)|(have H2_:=(Option.bind_some _ _).symm.trans H;rw [hy133];with_reducible exact H2_)|(have H2_:=(Option.bind_some _ _).symm.trans H;with_reducible exact H2_)|with_reducible exact H|(rw [hy133];exact H)|exact H
   have Ny133:=Aside0.mk hy133
   clear hy133
   obtain rfl:=Option.some.inj H
   go_enter Try.func47,Try.ntmps47
   go_wp2_with (first|((with_reducible refine gate_callee (f:=66) rfl ?_);refine goesL_ (some 11) rfl rfl Try.func66 (by kernel_rfl) rfl #[.int .u32 a1] rfl zmb8_3 ?_;(with_reducible refine (word_Parts.calls a1 t123 t124 _ A3.out).mono ?_);rintro e w' ⟨rfl,⟨nd,rfl⟩⟩;refine ⟨_,rfl,?_⟩)|((with_reducible refine gate_dst (N:=7) rfl ?_);refine box_event ?hg (N:=7) ?hd (cs:=#[.int .i64 0,.int .i64 0,.int .i64 0,.int .i64 0,.int .i64 0]) (t:=39) ?hr ?_;(case hd=>rfl);(case hg=>rfl);(case hr=>first|(go_simp;done)|(go_simp;rfl));intro gb125 hg w21 hbox hb;have n0_:=Aside0.mk (below_step zmb8_4 hb);have n1_:=Aside0.mk (hbox);have n2_:=Aside0.mk ((by rw [hg];exact (below_size zmb8_4):w.heap.size≤gb125));have n3_:=Aside0.mk ((by rw [hg];exact (below_size zmb8_4):w.heap.size≤gb125));clear HB;have HB:=n0_;have BK125:=n1_;have GW125:=n2_;have GE125:=n3_;clear n0_ n1_ n2_ n3_;clear hb hbox hg;have hcz22_0:w21.cell? ⟨gb125,0,none⟩ = some (.int .i64 0):=(blk_cell BK125.out 0).trans rfl;have hcz22_1:w21.cell? ⟨gb125,1,none⟩ = some (.int .i64 0):=(blk_cell BK125.out 1).trans rfl;have hcz22_2:w21.cell? ⟨gb125,2,none⟩ = some (.int .i64 0):=(blk_cell BK125.out 2).trans rfl;have hcz22_3:w21.cell? ⟨gb125,3,none⟩ = some (.int .i64 0):=(blk_cell BK125.out 3).trans rfl;have hcz22_4:w21.cell? ⟨gb125,4,none⟩ = some (.int .i64 0):=(blk_cell BK125.out 4).trans rfl;have hfz22_0:=blk_frozen BK125.out 0;have hfz22_1:=blk_frozen BK125.out 1;have hfz22_2:=blk_frozen BK125.out 2;have hfz22_3:=blk_frozen BK125.out 3;have hfz22_4:=blk_frozen BK125.out 4)|((with_reducible refine gate_dst (N:=8) rfl ?_);refine box_event ?hg (N:=8) ?hd (cs:=#[.int .i64 0,.int .i64 0,.int .i64 0,.int .i64 0,.int .i64 0]) (t:=39) ?hr ?_;(case hd=>rfl);(case hg=>rfl);(case hr=>first|(go_simp;done)|(go_simp;rfl));intro gb126 hg w23 hbox hb;have n0_:=Aside0.mk (blk_below (g:=gb125) (o:=.cells #[.int .i64 19,.int .i64 a0,.int .i64 a0,.int .i64 0,.int .i64 (wrap64 (wrap32 (t124)))] 39 (0,0)) zmb8_7 hb);have n1_:=Aside0.mk (below_step zmb8_8 hb);have n2_:=Aside0.mk (hbox);have n3_:=Aside0.mk ((by rw [hg];exact (below_size zmb8_8):w.heap.size≤gb126));have n4_:=Aside0.mk ((by rw [hg];exact (below_size zmb8_8):w.heap.size≤gb126));have n5_:=Aside0.mk ((by rw [hg];exact Nat.ne_of_lt (blk_lt (g:=gb125) (o:=.cells #[.int .i64 19,.int .i64 a0,.int .i64 a0,.int .i64 0,.int .i64 (wrap64 (wrap32 (t124)))] 39 (0,0)) zmb8_7):gb125≠gb126));have n6_:=Aside0.mk ((by rw [hg];exact Nat.ne_of_gt (blk_lt (g:=gb125) (o:=.cells #[.int .i64 19,.int .i64 a0,.int .i64 a0,.int .i64 0,.int .i64 (wrap64 (wrap32 (t124)))] 39 (0,0)) zmb8_7):gb126≠gb125));clear BK125 HB;have BK125:=n0_;have HB:=n1_;have BK126:=n2_;have GW126:=n3_;have GE126:=n4_;have NB125_126:=n5_;have NB126_125:=n6_;clear n0_ n1_ n2_ n3_ n4_ n5_ n6_;clear hb hbox hg;have hnb24:=NB126_125.out;have hnc24:=NB125_126.out;have hcz25_0:w23.cell? ⟨gb126,0,none⟩ = some (.int .i64 0):=(blk_cell BK126.out 0).trans rfl;have hcz25_1:w23.cell? ⟨gb126,1,none⟩ = some (.int .i64 0):=(blk_cell BK126.out 1).trans rfl;have hcz25_2:w23.cell? ⟨gb126,2,none⟩ = some (.int .i64 0):=(blk_cell BK126.out 2).trans rfl;have hcz25_3:w23.cell? ⟨gb126,3,none⟩ = some (.int .i64 0):=(blk_cell BK126.out 3).trans rfl;have hcz25_4:w23.cell? ⟨gb126,4,none⟩ = some (.int .i64 0):=(blk_cell BK126.out 4).trans rfl;have hfz25_0:=blk_frozen BK126.out 0;have hfz25_1:=blk_frozen BK126.out 1;have hfz25_2:=blk_frozen BK126.out 2;have hfz25_3:=blk_frozen BK126.out 3;have hfz25_4:=blk_frozen BK126.out 4;have hcz26_0:w23.cell? ⟨gb125,0,none⟩ = some (.int .i64 19):=(blk_cell BK125.out 0).trans rfl;have hcz26_1:w23.cell? ⟨gb125,1,none⟩ = some (.int .i64 a0):=(blk_cell BK125.out 1).trans rfl;have hcz26_2:w23.cell? ⟨gb125,2,none⟩ = some (.int .i64 a0):=(blk_cell BK125.out 2).trans rfl;have hcz26_3:w23.cell? ⟨gb125,3,none⟩ = some (.int .i64 0):=(blk_cell BK125.out 3).trans rfl;have hcz26_4:w23.cell? ⟨gb125,4,none⟩ = some (.int .i64 (wrap64 (wrap32 (t124)))):=(blk_cell BK125.out 4).trans rfl;have hfz26_0:=blk_frozen BK125.out 0;have hfz26_1:=blk_frozen BK125.out 1;have hfz26_2:=blk_frozen BK125.out 2;have hfz26_3:=blk_frozen BK125.out 3;have hfz26_4:=blk_frozen BK125.out 4)|((with_reducible refine gate_dst (N:=38) rfl ?_);refine Kd.R_lit k39 _ 39 ?hg (N:=38) ?hd (xs:=([(⟨1,a0,0,0,wrap64 (wrap32 (t123))⟩:S39),(⟨19,a0,a0,0,wrap64 (wrap32 (t124))⟩:S39)]:List (S39))) (inner:=[.int .i64 1,.int .i64 a0,.int .i64 0,.int .i64 0,.int .i64 (wrap64 (wrap32 (t123))),.int .i64 19,.int .i64 a0,.int .i64 a0,.int .i64 0,.int .i64 (wrap64 (wrap32 (t124)))]) (ok:=fun _=>True) (okp:=fun _=>True) ?hr ?hp (fun _ hk=>hk) trivial (Below.refl _ _) (Nat.le_refl _) (by simp) ?_;(case hd=>rfl);(case hg=>rfl);(case hr=>first|(go_simp;done)|(go_simp;rfl));(case hp=>exact (Reps.c5 (show Kd.M k39 _ _ _ (⟨1,a0,0,0,wrap64 (wrap32 (t123))⟩:S39) [.int .i64 1,.int .i64 a0,.int .i64 0,.int .i64 0,.int .i64 (wrap64 (wrap32 (t123)))] from (k39_mkM _ _ _ (⟨1,a0,0,0,wrap64 (wrap32 (t123))⟩:S39) )) (Reps.c5 (show Kd.M k39 _ _ _ (⟨19,a0,a0,0,wrap64 (wrap32 (t124))⟩:S39) [.int .i64 19,.int .i64 a0,.int .i64 a0,.int .i64 0,.int .i64 (wrap64 (wrap32 (t124)))] from (k39_mkM _ _ _ (⟨19,a0,a0,0,wrap64 (wrap32 (t124))⟩:S39) )) (Reps.none _ _))));intro v134 w27 ho28 hb hg_ hnew_;clear hg_ hnew_;(first|rw [← Ny133.out] at ho28|(simp only [Int.reduceToNat] at ho28;rw [← Ny133.out] at ho28));have n0_:=Aside0.mk (Kd.R_lower (Kd.R_newB (Kd.R_newB ho28 (g:=gb125) (o:=.cells #[.int .i64 19,.int .i64 a0,.int .i64 a0,.int .i64 0,.int .i64 (wrap64 (wrap32 (t124)))] 39 (0,0)) zmb8_12) (g:=gb126) (o:=.cells #[.int .i64 1,.int .i64 a0,.int .i64 0,.int .i64 0,.int .i64 (wrap64 (wrap32 (t123)))] 39 (0,0)) zmb8_13) (below_size zmb8_11));have n1_:=Aside0.mk (blk_below (g:=gb125) (o:=.cells #[.int .i64 19,.int .i64 a0,.int .i64 a0,.int .i64 0,.int .i64 (wrap64 (wrap32 (t124)))] 39 (0,0)) zmb8_12 hb);have n2_:=Aside0.mk (blk_below (g:=gb126) (o:=.cells #[.int .i64 1,.int .i64 a0,.int .i64 0,.int .i64 0,.int .i64 (wrap64 (wrap32 (t123)))] 39 (0,0)) zmb8_13 hb);have n3_:=Aside0.mk (below_step zmb8_11 hb);clear BK125 BK126 HB;have HO135:=n0_;have BK125:=n1_;have BK126:=n2_;have HB:=n3_;clear n0_ n1_ n2_ n3_;clear hb ho28))
   go_ret
   exact ⟨_,zmb8_5,by (with_reducible repeat (first|apply Kd.R_alloc|apply Kd.R_drewN|apply Kd.R_drew));exact Kd.R_mono HO135.out (fun _ hk=>trivial),zmb8_11⟩
def sizeF (x:S41) (b:Bool):Option Int:=if x.f0 = 2 then some 0 else if x.f0 = 5 then (asm_consts.f x.f1.f1 (x.f1.f4 % 4294967296)).bind fun r=>some (wrap64 (4 * (r.length:Int))) else if b = true then some 8 else some 4
set_option maxHeartbeats 1000000 in
set_option maxRecDepth 100000 in
theorem asm_size.calls (w0 w:World) (g:Nat) (A:Option Addr) (c gf ga:Nat) (lv:Value) (xs:List S41) (far:List Bool) (at_:List Int) (hS:Sheet w0 w g A c gf ga lv xs far at_) (i:Nat) (hi:i < xs.length) (r:Int) (h:sizeF (rd_T41 xs i) (far.getD i false) = some r) :
  Calls Try.prog 65 #[.pointer (some ⟨g,0,none⟩),.int .i64 i] w fun e w'=>e = .returned (.int .i64 r)∧Below w.heap.size w w':=by
 have hu41:=Try.underlying41
 have hu39:=Try.underlying39
 have hu65:=Try.underlying65
 obtain ⟨ad,rfl,e0,e1,e2,e3,e4,e5,e6⟩:=at_T41 (Kd.C_below hS.items hS.bel) (i:Int) (by omega) (by omega)
 simp only [Int.toNat_natCast] at e0 e1 e2 e3 e4 e5 e6
 have s0:=blk_cell hS.blk 0
 have s1:=blk_cell hS.blk 1
 have s2:=blk_cell hS.blk 2
 simp only [List.getElem?_toArray,List.getElem?_cons_zero,List.getElem?_cons_succ] at s0 s1 s2
 have f0:=blk_cell hS.farB i
 have l0:=blk_lt hS.blk
 have l1:=blk_lt hS.farB
 have l2:=blk_lt hS.atB
 generalize rd_T41 xs i = x at *
 obtain ⟨x0,⟨y0,y1,y2,y3,y4⟩,x2⟩:=x
 simp only [sizeF] at h
 dsimp only at e0 e1 e2 e3 e4 e5 e6
 have HS:=Aside0.mk hS
 clear hS
 by_cases k2:x0 = 2
 ·have b2:(x0 == 2) = true:=by simp [k2]
  rw [if_pos k2] at h
  obtain rfl:=Option.some.inj h
  clear h k2
  go_enter Try.func65,Try.ntmps65
  go_wp2
  go_ret
  exact ⟨rfl,(Below.refl _ _).alloc (Nat.le_refl _) _⟩
 have b2:(x0 == 2) = false:=by simp [k2]
 rw [if_neg k2] at h
 by_cases k5:x0 = 5
 ·have b5:(x0 == 5) = true:=by simp [k5]
  rw [if_pos k5] at h
  replace h:=Option.bind_eq_some_iff.mp h
  obtain ⟨q,hq,h⟩:=h
  obtain rfl:=Option.some.inj h
  have HQ:=Aside0.mk hq
  clear h hq k2 k5
  go_enter Try.func65,Try.ntmps65
  go_wp2_with (go_at_call 47;refine (asm_consts.calls y1 (y4 % 4294967296) q _ HQ.out).mono ?_;rintro e w' ⟨v,rfl,ho,hb⟩;obtain ⟨B,cq,rfl,hl,_⟩:=Kd.R_reads ho;have HB:=Aside0.mk hb;clear hb ho)
  go_ret
  exact ⟨rfl,below_then ((Below.refl _ _).alloc (Nat.le_refl _) _) (by simp) HB.out⟩
 have b5:(x0 == 5) = false:=by simp [k5]
 rw [if_neg k5] at h
 clear k2 k5
 have hfl:i < far.length:=by rw [HS.out.farL];exact hi
 have f1:w.cell? ⟨gf,i,none⟩ = some (.bool (far.getD i false)):=by
  rw [f0]
  simp [List.getElem?_eq_getElem hfl,List.getD_eq_getElem?_getD]
 clear f0 hfl
 generalize far.getD i false = b at *
 cases b
 ·rw [if_neg (by simp)] at h
  obtain rfl:=Option.some.inj h
  clear h
  go_enter Try.func65,Try.ntmps65
  go_wp2
  go_ret
  exact ⟨rfl,(Below.refl _ _).alloc (Nat.le_refl _) _⟩
 ·rw [if_pos rfl] at h
  obtain rfl:=Option.some.inj h
  clear h
  go_enter Try.func65,Try.ntmps65
  go_wp2
  go_ret
  exact ⟨rfl,(Below.refl _ _).alloc (Nat.le_refl _) _⟩
def asm_place.l0:Nat→List S41→List Bool→List Int→List Int→Int→Nat→Option (List Int × List Int)
 | 0,_,_,_,_,_,_=>none
 | k + 1,xs,far,at_,lab,a,i=>if i < xs.length then
   (if (rd_T41 xs i).f0 = 2∧¬ (0≤(rd_T41 xs i).f2∧(rd_T41 xs i).f2 < lab.length) then none else
   (sizeF (rd_T41 xs i) (far.getD i false)).bind fun s=>asm_place.l0 k xs far (at_.set i a) (if (rd_T41 xs i).f0 = 2 then lab.set (rd_T41 xs i).f2.toNat a else lab) (wrap64 (a + s)) (i + 1))
  else some (at_.set xs.length a,lab)
set_option maxHeartbeats 1000000 in
set_option maxRecDepth 100000 in
theorem asm_place.calls (k:Nat) (w0 w:World) (g:Nat) (A:Option Addr) (c gf ga gl:Nat) (lv:Value) (xs:List S41) (far:List Bool) (at_ lab:List Int) (hS:Sheet w0 w g A c gf ga lv xs far at_) (hL:Lab w0 w ga gl lv lab) (r1 r2:List Int) (h:asm_place.l0 k xs far at_ lab 0 0 = some (r1,r2)) :
  Calls Try.prog 45 #[.pointer (some ⟨g,0,none⟩)] w fun e w'=>e = .returned (.tuple #[])∧Sheet w0 w' g A c gf ga lv xs far r1∧Lab w0 w' ga gl lv r2:=by
 have hu41:=Try.underlying41
 have hu65:=Try.underlying65
 have s0:=blk_cell hS.blk 0
 simp only [List.getElem?_toArray,List.getElem?_cons_zero] at s0
 have H:=Aside0.mk h
 have HS:=Aside0.mk hS
 have HL:=Aside0.mk hL
 have hlen:=hS.len
 clear h hS hL
 go_enter Try.func45,Try.ntmps45
 go_wp2
 go_loopw [2,10] (fun v2 v10 wr=>∃ (kq i:Nat) (a:Int) (at1 lab1:List Int),v2 = .int .i64 a∧v10 = .int .i64 (i:Int)∧i≤xs.length∧Aside0 (asm_place.l0 kq xs far at1 lab1 a i = some (r1,r2))∧Aside0 (Sheet w0 wr g A c gf ga lv xs far at1)∧Aside0 (Lab w0 wr ga gl lv lab1)) (fun _ v10 _=>xs.length - (intOf v10).toNat)
 case atStart=>exact ⟨k,0,0,at_,lab,rfl,rfl,by omega,H,HS,HL⟩
 case round =>
  clear H HS HL s0
  obtain ⟨kq,i,a,at1,lab1,rfl,rfl,hi,H,HS,HL⟩:=hrel
  cases kq with
  | zero=>exact absurd H.out (by simp [asm_place.l0])
  | succ kq =>
  have h0:=H.out
  clear H
  simp only [asm_place.l0] at h0
  have l0:=blk_lt HS.out.blk
  have l1:=blk_lt HS.out.farB
  have l2:=blk_lt HS.out.atB
  have l3:=blk_lt HL.out.blk
  have s0:=blk_cell HS.out.blk 0
  have s2:=blk_cell HS.out.blk 2
  have s3:=blk_cell HS.out.blk 3
  simp only [List.getElem?_toArray,List.getElem?_cons_zero,List.getElem?_cons_succ] at s0 s2 s3
  have hv:=HL.out.val
  by_cases hlt:i < xs.length
  ·rw [if_pos hlt] at h0
   have hal:i < at1.length:=by rw [HS.out.atL];omega
   have a0:=int_cell HS.out.atB i hal
   have a1:=blk_frozen HS.out.atB i
   obtain ⟨ad,rfl,e0,e1,e2,e3,e4,e5,e6⟩:=at_T41 (Kd.C_below HS.out.items HS.out.bel) (i:Int) (by omega) (by omega)
   simp only [Int.toNat_natCast] at e0 e1 e2 e3 e4 e5 e6
   have hS2:=HS.out
   generalize hx:rd_T41 xs i = x at *
   obtain ⟨x0,⟨y0,y1,y2,y3,y4⟩,x2⟩:=x
   dsimp only at e0 e1 e2 e3 e4 e5 e6 h0
   have HX:=Aside0.mk hx
   clear hx hS2
   by_cases k2:x0 = 2
   ·subst k2
    by_cases kr:0≤x2∧x2 < lab1.length
    ·rw [if_neg (by simp;omega)] at h0
     replace h0:=Option.bind_eq_some_iff.mp h0
     obtain ⟨s,hs,h0⟩:=h0
     rw [if_pos rfl] at h0
     have HZ:=Aside0.mk hs
     have H:=Aside0.mk h0
     clear hs h0
     obtain ⟨n,rfl⟩:=Int.eq_ofNat_of_zero_le kr.1
     have hn:n < lab1.length:=by omega
     have hn2:(n:Int) < lab1.length:=kr.2
     clear kr
     subst hv
     have HS1:=Aside0.mk (HS.out.setAt i a)
     have HL1:=Aside0.mk (HL.out.setAt i a)
     have b0:=int_cell HL1.out.blk n hn
     have b1:=blk_frozen HL1.out.blk n
     have t3:=blk_cell HS1.out.blk 3
     simp only [List.getElem?_toArray,List.getElem?_cons_zero,List.getElem?_cons_succ] at t3
     generalize at1.getD i 0 = v at *
     generalize lab1.getD n 0 = v' at *
     go_wp2_with fail
     go_region
     go_wp2_with (go_at_call 65;refine (asm_size.calls w0 _ g _ c gf ga _ xs far (at1.set i a) ((HS1.out.setLab HL1.out n a).below (below_alloc (Below.refl _ _) _)).drew i hlt s (by rw [HX.out];exact HZ.out)).mono ?_;rintro e w3 ⟨rfl,hb3⟩;have HB3:=Aside0.mk hb3;clear hb3)
     go_roundw
     case rel=>exact ⟨kq,i + 1,_,_,_,rfl,by go_num,by omega,H,⟨((HS1.out.setLab HL1.out n a).below (below_alloc (Below.refl _ _) _)).drew.below HB3.out⟩,⟨((HL1.out.setLab n a).below (below_alloc (Below.refl _ _) _)).drew.below HB3.out⟩⟩
     case measure=>simp [intOf];omega
    ·rw [if_pos ⟨rfl,kr⟩] at h0
     cases h0
   ·have b2:(x0 == 2) = false:=by simp [k2]
    rw [if_neg (by simp [k2])] at h0
    replace h0:=Option.bind_eq_some_iff.mp h0
    obtain ⟨s,hs,h0⟩:=h0
    rw [if_neg k2] at h0
    have HZ:=Aside0.mk hs
    have H:=Aside0.mk h0
    clear hs h0 k2
    generalize at1.getD i 0 = v at *
    go_wp2_with (go_at_call 65;refine (asm_size.calls w0 _ g _ c gf ga lv xs far (at1.set i a) ((HS.out.setAt i a).below (below_alloc (Below.refl _ _) _)) i hlt s (by rw [HX.out];exact HZ.out)).mono ?_;rintro e w3 ⟨rfl,hb3⟩;have HB3:=Aside0.mk hb3;clear hb3)
    go_roundw
    case rel=>exact ⟨kq,i + 1,_,_,_,rfl,by go_num,by omega,H,⟨((HS.out.setAt i a).below (below_alloc (Below.refl _ _) _)).below HB3.out⟩,⟨((HL.out.setAt i a).below (below_alloc (Below.refl _ _) _)).below HB3.out⟩⟩
    case measure=>simp [intOf];omega
  ·rw [if_neg hlt] at h0
   simp only [Option.some.injEq,Prod.mk.injEq] at h0
   obtain ⟨rfl,rfl⟩:=h0
   obtain rfl:i = xs.length:=by omega
   have hal:xs.length < at1.length:=by rw [HS.out.atL];omega
   have a0:=int_cell HS.out.atB xs.length hal
   have a1:=blk_frozen HS.out.atB xs.length
   clear hv
   have hx:(xs.length:Int) < ((xs.length + 1:Nat):Int):=by omega
   generalize at1.getD xs.length 0 = v at *
   go_wp2
   go_region
   go_end0
   exact ⟨rfl,(HS.out.setAt _ _).drew,(HL.out.setAt _ _).drew⟩
set_option maxHeartbeats 1000000 in
set_option maxRecDepth 100000 in
theorem asm_way.calls (w0 w:World) (g:Nat) (A:Option Addr) (c gf ga gl:Nat) (lv:Value) (xs:List S41) (far:List Bool) (at_ lab:List Int) (hS:Sheet w0 w g A c gf ga lv xs far at_) (hL:Lab w0 w ga gl lv lab) (i:Nat) (hi:i < xs.length) (n:Nat) (hn:(rd_T41 xs i).f2 = n) (hn2:n < lab.length) (from_:Int) :
  Calls Try.prog 46 #[.pointer (some ⟨g,0,none⟩),.int .i64 i,.int .i64 from_] w fun e w'=>e = .returned (.int .i64 (wrap64 (lab.getD n 0 - from_)))∧Below w.heap.size w w':=by
 obtain ⟨ad,rfl,e0,e1,e2,e3,e4,e5,e6⟩:=at_T41 (Kd.C_below hS.items hS.bel) (i:Int) (by omega) (by omega)
 simp only [Int.toNat_natCast] at e0 e1 e2 e3 e4 e5 e6
 obtain rfl:=hL.val
 have s0:=blk_cell hS.blk 0
 have s3:=blk_cell hS.blk 3
 simp only [List.getElem?_toArray,List.getElem?_cons_zero,List.getElem?_cons_succ] at s0 s3
 have f0:=int_cell hL.blk n hn2
 have l0:=blk_lt hS.blk
 have l1:=blk_lt hL.blk
 rw [hn] at e6
 have hi2:(i:Int) < xs.length:=by omega
 have hn3:(n:Int) < lab.length:=by omega
 have hL2:=Aside0.mk hL
 have hS2:=Aside0.mk hS
 clear hL hS e0 e1 e2 e3 e4 e5 hn
 generalize lab.getD n 0 = v at *
 go_enter Try.func46,Try.ntmps46
 go_wp2
 go_quiet (fail)
 go_wp2
 go_ret
 exact ⟨rfl,pw_below_drewN (Below.refl _ _) _⟩
end Go.Proofs.Ytecbponmpinnoaa.P
end
section
namespace Go.Proofs.Ytecbponmpinnoaa.P
open Go.RowKit Go.Proofs.YtecbponmpinnoaaW.PrintWords Go.Proofs.YtecbponmpinnoaaW.PrintLast Go.Proofs.YtecbponmpinnoaaW.PrintMore
attribute [local go_sem] max2_int min2_int max_two min_two max_three min_three max_four min_four   
set_option linter.unusedVariables false
set_option linter.unusedSimpArgs false
def inst_reaches.j0:Nat→Int→Int→Bool→Option (Bool)
 | 0,_,_,_=>none
 | k + 1,x1,x5,x32=>if x32 = true then (if x1 ≥ (-2048) then (some (decide (x1 < 2048))) else (some false)) else (if x5 = 72 then (if x1 ≥ 0 then (some (decide (x1 < 32))) else (some false)) else (if x5 = 66 then (if x1 ≥ (-4096) then (if x1 < 4096 then (some ((Int.tmod x1 2) == 0)) else (some false)) else (some false)) else (some (x1 == 0))))
def inst_reaches.f (k:Nat) (a0:Int) (a1:Int):Option (Bool):=if a0 = 85 then (if a1 ≥ (-2147483648) then (if a1 < 2147483648 then (some ((Int.tmod a1 4096) == 0)) else (some false)) else (some false)) else (if a0 = 74 then (if a1 ≥ (-1048576) then (if a1 < 1048576 then (some ((Int.tmod a1 2) == 0)) else (some false)) else (some false)) else (if a0 = 73 then (inst_reaches.j0 k a1 a0 (a0 == 73)) else (inst_reaches.j0 k a1 a0 (a0 == 83))))
theorem inst_reaches.mono_l:∀ k,(∀ y0 y1 y2,LeO (inst_reaches.j0 k y0 y1 y2) (inst_reaches.j0 (k + 1) y0 y1 y2))
 | 0=>fun _ _ _ r h=>by simp [inst_reaches.j0] at h
 | k + 1=>by
  have ih0:=inst_reaches.mono_l k
  ·intro y0 y1 y2
   unfold inst_reaches.j0
   repeat' first
   | (with_reducible exact ih0 _ _ _)
   | (with_reducible exact LeO.refl _)
   | (with_reducible exact LeO.none _)
   | (with_reducible refine LeO.ite ?_ ?_)
   | (with_reducible refine LeO.bind ?_ (fun _=>?_))
   | exact ih0 _ _ _
   | exact LeO.none _
   | refine LeO.ite ?_ ?_
   | refine LeO.bind ?_ (fun _=>?_)
theorem inst_reaches.mono:∀ a0 a1 k,LeO (inst_reaches.f k a0 a1) (inst_reaches.f (k + 1) a0 a1):=by
 intro a0 a1 k
 have ih0:=inst_reaches.mono_l k
 unfold inst_reaches.f
 repeat' first
   | (with_reducible exact ih0 _ _ _)
   | (with_reducible exact LeO.refl _)
   | (with_reducible exact LeO.none _)
   | (with_reducible refine LeO.ite ?_ ?_)
   | (with_reducible refine LeO.bind ?_ (fun _=>?_))
   | exact ih0 _ _ _
   | exact LeO.none _
   | refine LeO.ite ?_ ?_
   | refine LeO.bind ?_ (fun _=>?_)
set_option maxHeartbeats 8000000 in
set_option maxRecDepth 100000 in
theorem inst_reaches.calls (k:Nat) (a0:Int) (a1:Int) (r:Bool) (w:World) (h:inst_reaches.f k a0 a1 = some r) :
  Calls Try.prog 60 #[.int .u8 a0,.int .i64 a1] w fun e w'=>e = .returned (.bool r)∧Drawn0 w w':=by
 have H:(if a0 = 85 then (if a1 ≥ (-2147483648) then (if a1 < 2147483648 then (some ((Int.tmod a1 4096) == 0)) else (some false)) else (some false)) else (if a0 = 74 then (if a1 ≥ (-1048576) then (if a1 < 1048576 then (some ((Int.tmod a1 2) == 0)) else (some false)) else (some false)) else (if a0 = 73 then (inst_reaches.j0 k a1 a0 (a0 == 73)) else (inst_reaches.j0 k a1 a0 (a0 == 83))))) = some r:=h
 clear h
 by_cases c3:a0 = 85
 ·rw [if_pos c3] at H
  have c3b0:(a0 == 85) = true:=beq_iff_eq.mpr c3
  have c3b1:(a0 != 85) = false:=bne_eq_false_iff_eq.mpr c3
  clear c3
  by_cases c4:a1 ≥ (-2147483648)
  ·rw [if_pos c4] at H
   have c4b0:decide ((-2147483648)≤a1) = true:=decide_eq_true c4
   clear c4
   by_cases c5:a1 < 2147483648
   ·rw [if_pos c5] at H
    have c5b0:decide (a1 < 2147483648) = true:=decide_eq_true c5
    clear c5
    obtain rfl:=Option.some.inj H
    go_enter Try.func60,Try.ntmps60
    go_wp2
    go_ret
    exact ⟨zmb8_0,zmb8_2⟩
   ·rw [if_neg c5] at H
    have c5b0:decide (a1 < 2147483648) = false:=decide_eq_false c5
    clear c5
    obtain rfl:=Option.some.inj H
    go_enter Try.func60,Try.ntmps60
    go_wp2
    go_ret
    exact ⟨zmb8_0,zmb8_2⟩
  ·rw [if_neg c4] at H
   have c4b0:decide ((-2147483648)≤a1) = false:=decide_eq_false c4
   clear c4
   obtain rfl:=Option.some.inj H
   go_enter Try.func60,Try.ntmps60
   go_wp2
   go_ret
   exact ⟨zmb8_0,zmb8_2⟩
 ·rw [if_neg c3] at H
  have c3b0:(a0 == 85) = false:=beq_eq_false_iff_ne.mpr c3
  have c3b1:(a0 != 85) = true:=bne_iff_ne.mpr c3
  by_cases c6:a0 = 74
  ·rw [if_pos c6] at H
   have c6b0:(a0 == 74) = true:=beq_iff_eq.mpr c6
   have c6b1:(a0 != 74) = false:=bne_eq_false_iff_eq.mpr c6
   clear c6
   by_cases c7:a1 ≥ (-1048576)
   ·rw [if_pos c7] at H
    have c7b0:decide ((-1048576)≤a1) = true:=decide_eq_true c7
    clear c7
    by_cases c8:a1 < 1048576
    ·rw [if_pos c8] at H
     have c8b0:decide (a1 < 1048576) = true:=decide_eq_true c8
     clear c8
     obtain rfl:=Option.some.inj H
     go_enter Try.func60,Try.ntmps60
     go_wp2
     go_ret
     exact ⟨zmb8_0,zmb8_2⟩
    ·rw [if_neg c8] at H
     have c8b0:decide (a1 < 1048576) = false:=decide_eq_false c8
     clear c8
     obtain rfl:=Option.some.inj H
     go_enter Try.func60,Try.ntmps60
     go_wp2
     go_ret
     exact ⟨zmb8_0,zmb8_2⟩
   ·rw [if_neg c7] at H
    have c7b0:decide ((-1048576)≤a1) = false:=decide_eq_false c7
    clear c7
    obtain rfl:=Option.some.inj H
    go_enter Try.func60,Try.ntmps60
    go_wp2
    go_ret
    exact ⟨zmb8_0,zmb8_2⟩
  ·rw [if_neg c6] at H
   have c6b0:(a0 == 74) = false:=beq_eq_false_iff_ne.mpr c6
   have c6b1:(a0 != 74) = true:=bne_iff_ne.mpr c6
   have HC9:=Aside0.mk H
   clear H
   go_enter Try.func60,Try.ntmps60
   go_upto_if 32 with (fail)
   go_cut [32] (fun v32 wc=>∃ (kq:Nat) (x32_8:Bool),v32 = .bool x32_8∧Aside0 (inst_reaches.j0 kq a1 a0 x32_8 = some r)∧Aside0 (kq≤k)∧Drawn0 w wc)
   case first =>
    have H:=HC9.out
    clear HC9
    by_cases c10:a0 = 73
    ·rw [if_pos c10] at H
     have c10b0:(a0 == 73) = true:=beq_iff_eq.mpr c10
     have c10b1:(a0 != 73) = false:=bne_eq_false_iff_eq.mpr c10
     clear c10
     (first|rw [c10b0]|(simp only [i64_w,i32_w];rw [c10b0])|skip)
     have H':=Aside0.mk H
     clear H
     go_wp2
     go_meet
     case rel=>exact ⟨_,((a0 == 73)),zmb8_0,H',⟨zmb8_1⟩,zmb8_2⟩
    ·rw [if_neg c10] at H
     have c10b0:(a0 == 73) = false:=beq_eq_false_iff_ne.mpr c10
     have c10b1:(a0 != 73) = true:=bne_iff_ne.mpr c10
     (first|rw [c10b0]|(simp only [i64_w,i32_w];rw [c10b0])|skip)
     have H':=Aside0.mk H
     clear H
     go_wp2
     go_meet
     case rel=>exact ⟨_,((a0 == 83)),zmb8_0,H',⟨zmb8_1⟩,zmb8_2⟩
   case rest =>
    clear HC9
    try clear c1
    try clear p2
    try clear c3
    try clear c3b0
    try clear c3b1
    try clear c4
    try clear c4b0
    try clear c5
    try clear c5b0
    try clear c6
    try clear c6b0
    try clear c6b1
    try clear c7
    try clear c7b0
    try clear c8
    try clear c8b0
    try clear c10
    try clear c10b0
    try clear c10b1
    obtain ⟨kq,x32_8,rfl,HA,HJ8,⟨mc8,rfl⟩⟩:=hcut
    cases kq with
    | zero=>exact absurd HA.out (by simp [inst_reaches.j0])
    | succ kj8 =>
     have H:=HA.out
     clear HA
     simp only [inst_reaches.j0] at H
     by_cases c11:x32_8 = true
     ·subst c11
      have H1:(if a1 ≥ (-2048) then (some (decide (a1 < 2048))) else (some false)) = some r:=by rw [if_pos rfl] at H;exact H
      clear H
      have H:=H1
      clear H1
      by_cases c12:a1 ≥ (-2048)
      ·rw [if_pos c12] at H
       have c12b0:decide ((-2048)≤a1) = true:=decide_eq_true c12
       clear c12
       obtain rfl:=Option.some.inj H
       go_wp2
       go_ret
       exact ⟨zmb8_0,zmb8_2⟩
      ·rw [if_neg c12] at H
       have c12b0:decide ((-2048)≤a1) = false:=decide_eq_false c12
       clear c12
       obtain rfl:=Option.some.inj H
       go_wp2
       go_ret
       exact ⟨zmb8_0,zmb8_2⟩
     ·replace c11:=Bool.eq_false_iff.mpr c11
      subst c11
      have H1:(if a0 = 72 then (if a1 ≥ 0 then (some (decide (a1 < 32))) else (some false)) else (if a0 = 66 then (if a1 ≥ (-4096) then (if a1 < 4096 then (some ((Int.tmod a1 2) == 0)) else (some false)) else (some false)) else (some (a1 == 0)))) = some r:=by rw [if_neg (show ¬ (false = true) by decide)] at H;exact H
      clear H
      have H:=H1
      clear H1
      by_cases c13:a0 = 72
      ·rw [if_pos c13] at H
       have c13b0:(a0 == 72) = true:=beq_iff_eq.mpr c13
       have c13b1:(a0 != 72) = false:=bne_eq_false_iff_eq.mpr c13
       clear c13
       by_cases c14:a1 ≥ 0
       ·rw [if_pos c14] at H
        have c14b0:decide (0≤a1) = true:=decide_eq_true c14
        clear c14
        obtain rfl:=Option.some.inj H
        go_wp2
        go_ret
        exact ⟨zmb8_0,zmb8_2⟩
       ·rw [if_neg c14] at H
        have c14b0:decide (0≤a1) = false:=decide_eq_false c14
        clear c14
        obtain rfl:=Option.some.inj H
        go_wp2
        go_ret
        exact ⟨zmb8_0,zmb8_2⟩
      ·rw [if_neg c13] at H
       have c13b0:(a0 == 72) = false:=beq_eq_false_iff_ne.mpr c13
       have c13b1:(a0 != 72) = true:=bne_iff_ne.mpr c13
       by_cases c15:a0 = 66
       ·rw [if_pos c15] at H
        have c15b0:(a0 == 66) = true:=beq_iff_eq.mpr c15
        have c15b1:(a0 != 66) = false:=bne_eq_false_iff_eq.mpr c15
        clear c15
        by_cases c16:a1 ≥ (-4096)
        ·rw [if_pos c16] at H
         have c16b0:decide ((-4096)≤a1) = true:=decide_eq_true c16
         clear c16
         by_cases c17:a1 < 4096
         ·rw [if_pos c17] at H
          have c17b0:decide (a1 < 4096) = true:=decide_eq_true c17
          clear c17
          obtain rfl:=Option.some.inj H
          go_wp2
          go_ret
          exact ⟨zmb8_0,zmb8_2⟩
         ·rw [if_neg c17] at H
          have c17b0:decide (a1 < 4096) = false:=decide_eq_false c17
          clear c17
          obtain rfl:=Option.some.inj H
          go_wp2
          go_ret
          exact ⟨zmb8_0,zmb8_2⟩
        ·rw [if_neg c16] at H
         have c16b0:decide ((-4096)≤a1) = false:=decide_eq_false c16
         clear c16
         obtain rfl:=Option.some.inj H
         go_wp2
         go_ret
         exact ⟨zmb8_0,zmb8_2⟩
       ·rw [if_neg c15] at H
        have c15b0:(a0 == 66) = false:=beq_eq_false_iff_ne.mpr c15
        have c15b1:(a0 != 66) = true:=bne_iff_ne.mpr c15
        obtain rfl:=Option.some.inj H
        go_wp2
        go_ret
        exact ⟨zmb8_0,zmb8_2⟩
def inst_Right.f (k:Nat) (a0_0:Int) (a0_1:Int) (a0_2:Int) (a0_3:Int) (a0_4:Int):Option (Bool):=(inst_Form.f a0_0).bind fun t107=>(if t107 = 0 then (some false) else ((inst_needs.f k t107).bind fun bt108=>((inst_register.f a0_1 bt108.1).bind fun t112=>(if t112 = true then ((inst_register.f a0_2 bt108.2.1).bind fun t113=>(if t113 = true then ((inst_register.f a0_3 bt108.2.2.1).bind fun t114=>(if t114 = true then ((inst_reaches.f k t107 a0_4).bind fun t115=>(some t115)) else (some false))) else (some false))) else (some false)))))
theorem inst_Right.mono:∀ a0 a1 a2 a3 a4 k,LeO (inst_Right.f k a0 a1 a2 a3 a4) (inst_Right.f (k + 1) a0 a1 a2 a3 a4):=by
 intro a0 a1 a2 a3 a4 k
 unfold inst_Right.f
 repeat' first
   | (with_reducible exact inst_needs.mono _ _)
   | (with_reducible exact inst_reaches.mono _ _ _)
   | (with_reducible exact LeO.refl _)
   | (with_reducible exact LeO.none _)
   | (with_reducible refine LeO.ite ?_ ?_)
   | (with_reducible refine LeO.bind ?_ (fun _=>?_))
   | exact inst_needs.mono _ _
   | exact inst_reaches.mono _ _ _
   | exact LeO.none _
   | refine LeO.ite ?_ ?_
   | refine LeO.bind ?_ (fun _=>?_)
set_option maxHeartbeats 8000000 in
set_option maxRecDepth 100000 in
theorem inst_Right.calls (k:Nat) (a0_0:Int) (a0_1:Int) (a0_2:Int) (a0_3:Int) (a0_4:Int) (r:Bool) (w:World) (h:inst_Right.f k a0_0 a0_1 a0_2 a0_3 a0_4 = some r) :
  Calls Try.prog 35 #[.agg #[.int .i64 a0_0,.int .i64 a0_1,.int .i64 a0_2,.int .i64 a0_3,.int .i64 a0_4]] w fun e w'=>e = .returned (.bool r)∧Below w.heap.size w w':=by
 have hu39:=Try.underlying39
 have HB:=Aside0.mk (Below.refl w.heap.size w)
 have H:((inst_Form.f a0_0).bind fun t107=>(if t107 = 0 then (some false) else ((inst_needs.f k t107).bind fun bt108=>((inst_register.f a0_1 bt108.1).bind fun t112=>(if t112 = true then ((inst_register.f a0_2 bt108.2.1).bind fun t113=>(if t113 = true then ((inst_register.f a0_3 bt108.2.2.1).bind fun t114=>(if t114 = true then ((inst_reaches.f k t107 a0_4).bind fun t115=>(some t115)) else (some false))) else (some false))) else (some false)))))) = some r:=h
 clear h
 replace H:=Option.bind_eq_some_iff.mp H
 obtain ⟨t107,A20,H⟩:=H
 replace H:(if t107 = 0 then (some false) else ((inst_needs.f k t107).bind fun bt108=>((inst_register.f a0_1 bt108.1).bind fun t112=>(if t112 = true then ((inst_register.f a0_2 bt108.2.1).bind fun t113=>(if t113 = true then ((inst_register.f a0_3 bt108.2.2.1).bind fun t114=>(if t114 = true then ((inst_reaches.f k t107 a0_4).bind fun t115=>(some t115)) else (some false))) else (some false))) else (some false))))) = some r:=H
 have A2:=Aside0.mk A20
 clear A20
 by_cases c3:t107 = 0
 ·rw [if_pos c3] at H
  have c3b0:(t107 == 0) = true:=beq_iff_eq.mpr c3
  have c3b1:(t107 != 0) = false:=bne_eq_false_iff_eq.mpr c3
  clear c3
  obtain rfl:=Option.some.inj H
  go_enter Try.func35,Try.ntmps35
  go_wp2_with (first|((with_reducible refine gate_dst (N:=1) rfl ?_);refine box_event ?hg (N:=1) ?hd (cs:=#[.int .i64 a0_0,.int .i64 a0_1,.int .i64 a0_2,.int .i64 a0_3,.int .i64 a0_4]) (t:=39) ?hr ?_;(case hd=>rfl);(case hg=>rfl);(case hr=>first|(go_simp;done)|(go_simp;rfl));intro gb106 hg w4 hbox hb;have n0_:=Aside0.mk (below_step zmb8_4 hb);have n1_:=Aside0.mk (hbox);have n2_:=Aside0.mk ((by rw [hg];exact (below_size zmb8_4):w.heap.size≤gb106));have n3_:=Aside0.mk ((by rw [hg];exact (below_size zmb8_4):w.heap.size≤gb106));clear HB;have HB:=n0_;have BK106:=n1_;have GW106:=n2_;have GE106:=n3_;clear n0_ n1_ n2_ n3_;clear hb hbox hg;have hcz5_0:w4.cell? ⟨gb106,0,none⟩ = some (.int .i64 a0_0):=(blk_cell BK106.out 0).trans rfl;have hcz5_1:w4.cell? ⟨gb106,1,none⟩ = some (.int .i64 a0_1):=(blk_cell BK106.out 1).trans rfl;have hcz5_2:w4.cell? ⟨gb106,2,none⟩ = some (.int .i64 a0_2):=(blk_cell BK106.out 2).trans rfl;have hcz5_3:w4.cell? ⟨gb106,3,none⟩ = some (.int .i64 a0_3):=(blk_cell BK106.out 3).trans rfl;have hcz5_4:w4.cell? ⟨gb106,4,none⟩ = some (.int .i64 a0_4):=(blk_cell BK106.out 4).trans rfl;have hfz5_0:=blk_frozen BK106.out 0;have hfz5_1:=blk_frozen BK106.out 1;have hfz5_2:=blk_frozen BK106.out 2;have hfz5_3:=blk_frozen BK106.out 3;have hfz5_4:=blk_frozen BK106.out 4)|((with_reducible refine gate_callee (f:=58) rfl ?_);refine goesL_ (some 10) rfl rfl Try.func58 (by kernel_rfl) rfl #[.int .i64 a0_0] rfl zmb8_3 ?_;(with_reducible refine (inst_Form.calls a0_0 t107 _ A2.out).mono ?_);rintro e w6 ⟨rfl,hb⟩;refine ⟨_,rfl,?_⟩;have n0_:=Aside0.mk (blk_below (g:=gb106) (o:=.cells #[.int .i64 a0_0,.int .i64 a0_1,.int .i64 a0_2,.int .i64 a0_3,.int .i64 a0_4] 39 (0,0)) zmb8_14 hb);have n1_:=Aside0.mk (below_step zmb8_15 hb);clear BK106 HB;have BK106:=n0_;have HB:=n1_;clear n0_ n1_;(try clear hb);(try clear hb2);(try clear hk);(try clear hi)))
  go_ret
  exact ⟨zmb8_5,zmb8_15⟩
 ·rw [if_neg c3] at H
  have c3b0:(t107 == 0) = false:=beq_eq_false_iff_ne.mpr c3
  have c3b1:(t107 != 0) = true:=bne_iff_ne.mpr c3
  replace H:=Option.bind_eq_some_iff.mp H
  obtain ⟨⟨t108,t109,t110,t111⟩,A70,H⟩:=H
  replace H:((inst_register.f a0_1 t108).bind fun t112=>(if t112 = true then ((inst_register.f a0_2 t109).bind fun t113=>(if t113 = true then ((inst_register.f a0_3 t110).bind fun t114=>(if t114 = true then ((inst_reaches.f k t107 a0_4).bind fun t115=>(some t115)) else (some false))) else (some false))) else (some false))) = some r:=H
  have A7:=Aside0.mk A70
  clear A70
  replace H:=Option.bind_eq_some_iff.mp H
  obtain ⟨t112,A80,H⟩:=H
  replace H:(if t112 = true then ((inst_register.f a0_2 t109).bind fun t113=>(if t113 = true then ((inst_register.f a0_3 t110).bind fun t114=>(if t114 = true then ((inst_reaches.f k t107 a0_4).bind fun t115=>(some t115)) else (some false))) else (some false))) else (some false)) = some r:=H
  have A8:=Aside0.mk A80
  clear A80
  by_cases c9:t112 = true
  ·subst c9
   have H1:((inst_register.f a0_2 t109).bind fun t113=>(if t113 = true then ((inst_register.f a0_3 t110).bind fun t114=>(if t114 = true then ((inst_reaches.f k t107 a0_4).bind fun t115=>(some t115)) else (some false))) else (some false))) = some r:=by rw [if_pos rfl] at H;exact H
   clear H
   have H:=H1
   clear H1
   replace H:=Option.bind_eq_some_iff.mp H
   obtain ⟨t113,A100,H⟩:=H
   replace H:(if t113 = true then ((inst_register.f a0_3 t110).bind fun t114=>(if t114 = true then ((inst_reaches.f k t107 a0_4).bind fun t115=>(some t115)) else (some false))) else (some false)) = some r:=H
   have A10:=Aside0.mk A100
   clear A100
   by_cases c11:t113 = true
   ·subst c11
    have H1:((inst_register.f a0_3 t110).bind fun t114=>(if t114 = true then ((inst_reaches.f k t107 a0_4).bind fun t115=>(some t115)) else (some false))) = some r:=by rw [if_pos rfl] at H;exact H
    clear H
    have H:=H1
    clear H1
    replace H:=Option.bind_eq_some_iff.mp H
    obtain ⟨t114,A120,H⟩:=H
    replace H:(if t114 = true then ((inst_reaches.f k t107 a0_4).bind fun t115=>(some t115)) else (some false)) = some r:=H
    have A12:=Aside0.mk A120
    clear A120
    by_cases c13:t114 = true
    ·subst c13
     have H1:((inst_reaches.f k t107 a0_4).bind fun t115=>(some t115)) = some r:=by rw [if_pos rfl] at H;exact H
     clear H
     have H:=H1
     clear H1
     replace H:=Option.bind_eq_some_iff.mp H
     obtain ⟨t115,A140,H⟩:=H
     replace H:(some t115) = some r:=H
     have A14:=Aside0.mk A140
     clear A140
     obtain rfl:=Option.some.inj H
     go_enter Try.func35,Try.ntmps35
     go_wp2_with (first|((with_reducible refine gate_dst (N:=1) rfl ?_);refine box_event ?hg (N:=1) ?hd (cs:=#[.int .i64 a0_0,.int .i64 a0_1,.int .i64 a0_2,.int .i64 a0_3,.int .i64 a0_4]) (t:=39) ?hr ?_;(case hd=>rfl);(case hg=>rfl);(case hr=>first|(go_simp;done)|(go_simp;rfl));intro gb106 hg w15 hbox hb;have n0_:=Aside0.mk (below_step zmb8_4 hb);have n1_:=Aside0.mk (hbox);have n2_:=Aside0.mk ((by rw [hg];exact (below_size zmb8_4):w.heap.size≤gb106));have n3_:=Aside0.mk ((by rw [hg];exact (below_size zmb8_4):w.heap.size≤gb106));clear HB;have HB:=n0_;have BK106:=n1_;have GW106:=n2_;have GE106:=n3_;clear n0_ n1_ n2_ n3_;clear hb hbox hg;have hcz16_0:w15.cell? ⟨gb106,0,none⟩ = some (.int .i64 a0_0):=(blk_cell BK106.out 0).trans rfl;have hcz16_1:w15.cell? ⟨gb106,1,none⟩ = some (.int .i64 a0_1):=(blk_cell BK106.out 1).trans rfl;have hcz16_2:w15.cell? ⟨gb106,2,none⟩ = some (.int .i64 a0_2):=(blk_cell BK106.out 2).trans rfl;have hcz16_3:w15.cell? ⟨gb106,3,none⟩ = some (.int .i64 a0_3):=(blk_cell BK106.out 3).trans rfl;have hcz16_4:w15.cell? ⟨gb106,4,none⟩ = some (.int .i64 a0_4):=(blk_cell BK106.out 4).trans rfl;have hfz16_0:=blk_frozen BK106.out 0;have hfz16_1:=blk_frozen BK106.out 1;have hfz16_2:=blk_frozen BK106.out 2;have hfz16_3:=blk_frozen BK106.out 3;have hfz16_4:=blk_frozen BK106.out 4)|((with_reducible refine gate_callee (f:=58) rfl ?_);refine goesL_ (some 10) rfl rfl Try.func58 (by kernel_rfl) rfl #[.int .i64 a0_0] rfl zmb8_3 ?_;(with_reducible refine (inst_Form.calls a0_0 t107 _ A2.out).mono ?_);rintro e w17 ⟨rfl,hb⟩;refine ⟨_,rfl,?_⟩;have n0_:=Aside0.mk (blk_below (g:=gb106) (o:=.cells #[.int .i64 a0_0,.int .i64 a0_1,.int .i64 a0_2,.int .i64 a0_3,.int .i64 a0_4] 39 (0,0)) zmb8_14 hb);have n1_:=Aside0.mk (below_step zmb8_15 hb);clear BK106 HB;have BK106:=n0_;have HB:=n1_;clear n0_ n1_;(try clear hb);(try clear hb2);(try clear hk);(try clear hi))|((with_reducible refine gate_callee (f:=41) rfl ?_);refine goesL_ (some 15) rfl rfl Try.func41 (by kernel_rfl) rfl #[.int .u8 t107] rfl zmb8_3 ?_;(with_reducible refine (inst_needs.calls k t107 t108 t109 t110 t111 _ A7.out).mono ?_);rintro e w' ⟨rfl,⟨nd,rfl⟩⟩;refine ⟨_,rfl,?_⟩;have hcz18_0:w17.cell? ⟨gb106,0,none⟩ = some (.int .i64 a0_0):=(blk_cell BK106.out 0).trans rfl;have hcz18_1:w17.cell? ⟨gb106,1,none⟩ = some (.int .i64 a0_1):=(blk_cell BK106.out 1).trans rfl;have hcz18_2:w17.cell? ⟨gb106,2,none⟩ = some (.int .i64 a0_2):=(blk_cell BK106.out 2).trans rfl;have hcz18_3:w17.cell? ⟨gb106,3,none⟩ = some (.int .i64 a0_3):=(blk_cell BK106.out 3).trans rfl;have hcz18_4:w17.cell? ⟨gb106,4,none⟩ = some (.int .i64 a0_4):=(blk_cell BK106.out 4).trans rfl;have hfz18_0:=blk_frozen BK106.out 0;have hfz18_1:=blk_frozen BK106.out 1;have hfz18_2:=blk_frozen BK106.out 2;have hfz18_3:=blk_frozen BK106.out 3;have hfz18_4:=blk_frozen BK106.out 4)|((with_reducible refine gate_callee (f:=59) rfl ?_);refine goesL_ (some 23) rfl rfl Try.func59 (by kernel_rfl) rfl #[.int .i64 a0_1,.bool t108] rfl zmb8_3 ?_;(with_reducible refine (inst_register.calls a0_1 t108 true _ A8.out).mono ?_);rintro e w' ⟨rfl,⟨nd,rfl⟩⟩;refine ⟨_,rfl,?_⟩)|(go_at_call 59;(with_reducible refine (inst_register.calls a0_2 t109 true _ A10.out).mono ?_);rintro e w' ⟨rfl,⟨nd,rfl⟩⟩)|(go_at_call 59;(with_reducible refine (inst_register.calls a0_3 t110 true _ A12.out).mono ?_);rintro e w' ⟨rfl,⟨nd,rfl⟩⟩)|(go_at_call 60;(with_reducible refine (inst_reaches.calls k t107 a0_4 t115 _ A14.out).mono ?_);rintro e w' ⟨rfl,⟨nd,rfl⟩⟩))
     go_ret
     exact ⟨zmb8_5,zmb8_15⟩
    ·replace c13:=Bool.eq_false_iff.mpr c13
     subst c13
     have H1:(some false) = some r:=by rw [if_neg (show ¬ (false = true) by decide)] at H;exact H
     clear H
     have H:=H1
     clear H1
     obtain rfl:=Option.some.inj H
     go_enter Try.func35,Try.ntmps35
     go_wp2_with (first|((with_reducible refine gate_dst (N:=1) rfl ?_);refine box_event ?hg (N:=1) ?hd (cs:=#[.int .i64 a0_0,.int .i64 a0_1,.int .i64 a0_2,.int .i64 a0_3,.int .i64 a0_4]) (t:=39) ?hr ?_;(case hd=>rfl);(case hg=>rfl);(case hr=>first|(go_simp;done)|(go_simp;rfl));intro gb106 hg w19 hbox hb;have n0_:=Aside0.mk (below_step zmb8_4 hb);have n1_:=Aside0.mk (hbox);have n2_:=Aside0.mk ((by rw [hg];exact (below_size zmb8_4):w.heap.size≤gb106));have n3_:=Aside0.mk ((by rw [hg];exact (below_size zmb8_4):w.heap.size≤gb106));clear HB;have HB:=n0_;have BK106:=n1_;have GW106:=n2_;have GE106:=n3_;clear n0_ n1_ n2_ n3_;clear hb hbox hg;have hcz20_0:w19.cell? ⟨gb106,0,none⟩ = some (.int .i64 a0_0):=(blk_cell BK106.out 0).trans rfl;have hcz20_1:w19.cell? ⟨gb106,1,none⟩ = some (.int .i64 a0_1):=(blk_cell BK106.out 1).trans rfl;have hcz20_2:w19.cell? ⟨gb106,2,none⟩ = some (.int .i64 a0_2):=(blk_cell BK106.out 2).trans rfl;have hcz20_3:w19.cell? ⟨gb106,3,none⟩ = some (.int .i64 a0_3):=(blk_cell BK106.out 3).trans rfl;have hcz20_4:w19.cell? ⟨gb106,4,none⟩ = some (.int .i64 a0_4):=(blk_cell BK106.out 4).trans rfl;have hfz20_0:=blk_frozen BK106.out 0;have hfz20_1:=blk_frozen BK106.out 1;have hfz20_2:=blk_frozen BK106.out 2;have hfz20_3:=blk_frozen BK106.out 3;have hfz20_4:=blk_frozen BK106.out 4)|((with_reducible refine gate_callee (f:=58) rfl ?_);refine goesL_ (some 10) rfl rfl Try.func58 (by kernel_rfl) rfl #[.int .i64 a0_0] rfl zmb8_3 ?_;(with_reducible refine (inst_Form.calls a0_0 t107 _ A2.out).mono ?_);rintro e w21 ⟨rfl,hb⟩;refine ⟨_,rfl,?_⟩;have n0_:=Aside0.mk (blk_below (g:=gb106) (o:=.cells #[.int .i64 a0_0,.int .i64 a0_1,.int .i64 a0_2,.int .i64 a0_3,.int .i64 a0_4] 39 (0,0)) zmb8_14 hb);have n1_:=Aside0.mk (below_step zmb8_15 hb);clear BK106 HB;have BK106:=n0_;have HB:=n1_;clear n0_ n1_;(try clear hb);(try clear hb2);(try clear hk);(try clear hi))|((with_reducible refine gate_callee (f:=41) rfl ?_);refine goesL_ (some 15) rfl rfl Try.func41 (by kernel_rfl) rfl #[.int .u8 t107] rfl zmb8_3 ?_;(with_reducible refine (inst_needs.calls k t107 t108 t109 t110 t111 _ A7.out).mono ?_);rintro e w' ⟨rfl,⟨nd,rfl⟩⟩;refine ⟨_,rfl,?_⟩;have hcz22_0:w21.cell? ⟨gb106,0,none⟩ = some (.int .i64 a0_0):=(blk_cell BK106.out 0).trans rfl;have hcz22_1:w21.cell? ⟨gb106,1,none⟩ = some (.int .i64 a0_1):=(blk_cell BK106.out 1).trans rfl;have hcz22_2:w21.cell? ⟨gb106,2,none⟩ = some (.int .i64 a0_2):=(blk_cell BK106.out 2).trans rfl;have hcz22_3:w21.cell? ⟨gb106,3,none⟩ = some (.int .i64 a0_3):=(blk_cell BK106.out 3).trans rfl;have hcz22_4:w21.cell? ⟨gb106,4,none⟩ = some (.int .i64 a0_4):=(blk_cell BK106.out 4).trans rfl;have hfz22_0:=blk_frozen BK106.out 0;have hfz22_1:=blk_frozen BK106.out 1;have hfz22_2:=blk_frozen BK106.out 2;have hfz22_3:=blk_frozen BK106.out 3;have hfz22_4:=blk_frozen BK106.out 4)|((with_reducible refine gate_callee (f:=59) rfl ?_);refine goesL_ (some 23) rfl rfl Try.func59 (by kernel_rfl) rfl #[.int .i64 a0_1,.bool t108] rfl zmb8_3 ?_;(with_reducible refine (inst_register.calls a0_1 t108 true _ A8.out).mono ?_);rintro e w' ⟨rfl,⟨nd,rfl⟩⟩;refine ⟨_,rfl,?_⟩)|(go_at_call 59;(with_reducible refine (inst_register.calls a0_2 t109 true _ A10.out).mono ?_);rintro e w' ⟨rfl,⟨nd,rfl⟩⟩)|(go_at_call 59;(with_reducible refine (inst_register.calls a0_3 t110 false _ A12.out).mono ?_);rintro e w' ⟨rfl,⟨nd,rfl⟩⟩))
     go_ret
     exact ⟨zmb8_5,zmb8_15⟩
   ·replace c11:=Bool.eq_false_iff.mpr c11
    subst c11
    have H1:(some false) = some r:=by rw [if_neg (show ¬ (false = true) by decide)] at H;exact H
    clear H
    have H:=H1
    clear H1
    obtain rfl:=Option.some.inj H
    go_enter Try.func35,Try.ntmps35
    go_wp2_with (first|((with_reducible refine gate_dst (N:=1) rfl ?_);refine box_event ?hg (N:=1) ?hd (cs:=#[.int .i64 a0_0,.int .i64 a0_1,.int .i64 a0_2,.int .i64 a0_3,.int .i64 a0_4]) (t:=39) ?hr ?_;(case hd=>rfl);(case hg=>rfl);(case hr=>first|(go_simp;done)|(go_simp;rfl));intro gb106 hg w23 hbox hb;have n0_:=Aside0.mk (below_step zmb8_4 hb);have n1_:=Aside0.mk (hbox);have n2_:=Aside0.mk ((by rw [hg];exact (below_size zmb8_4):w.heap.size≤gb106));have n3_:=Aside0.mk ((by rw [hg];exact (below_size zmb8_4):w.heap.size≤gb106));clear HB;have HB:=n0_;have BK106:=n1_;have GW106:=n2_;have GE106:=n3_;clear n0_ n1_ n2_ n3_;clear hb hbox hg;have hcz24_0:w23.cell? ⟨gb106,0,none⟩ = some (.int .i64 a0_0):=(blk_cell BK106.out 0).trans rfl;have hcz24_1:w23.cell? ⟨gb106,1,none⟩ = some (.int .i64 a0_1):=(blk_cell BK106.out 1).trans rfl;have hcz24_2:w23.cell? ⟨gb106,2,none⟩ = some (.int .i64 a0_2):=(blk_cell BK106.out 2).trans rfl;have hcz24_3:w23.cell? ⟨gb106,3,none⟩ = some (.int .i64 a0_3):=(blk_cell BK106.out 3).trans rfl;have hcz24_4:w23.cell? ⟨gb106,4,none⟩ = some (.int .i64 a0_4):=(blk_cell BK106.out 4).trans rfl;have hfz24_0:=blk_frozen BK106.out 0;have hfz24_1:=blk_frozen BK106.out 1;have hfz24_2:=blk_frozen BK106.out 2;have hfz24_3:=blk_frozen BK106.out 3;have hfz24_4:=blk_frozen BK106.out 4)|((with_reducible refine gate_callee (f:=58) rfl ?_);refine goesL_ (some 10) rfl rfl Try.func58 (by kernel_rfl) rfl #[.int .i64 a0_0] rfl zmb8_3 ?_;(with_reducible refine (inst_Form.calls a0_0 t107 _ A2.out).mono ?_);rintro e w25 ⟨rfl,hb⟩;refine ⟨_,rfl,?_⟩;have n0_:=Aside0.mk (blk_below (g:=gb106) (o:=.cells #[.int .i64 a0_0,.int .i64 a0_1,.int .i64 a0_2,.int .i64 a0_3,.int .i64 a0_4] 39 (0,0)) zmb8_14 hb);have n1_:=Aside0.mk (below_step zmb8_15 hb);clear BK106 HB;have BK106:=n0_;have HB:=n1_;clear n0_ n1_;(try clear hb);(try clear hb2);(try clear hk);(try clear hi))|((with_reducible refine gate_callee (f:=41) rfl ?_);refine goesL_ (some 15) rfl rfl Try.func41 (by kernel_rfl) rfl #[.int .u8 t107] rfl zmb8_3 ?_;(with_reducible refine (inst_needs.calls k t107 t108 t109 t110 t111 _ A7.out).mono ?_);rintro e w' ⟨rfl,⟨nd,rfl⟩⟩;refine ⟨_,rfl,?_⟩;have hcz26_0:w25.cell? ⟨gb106,0,none⟩ = some (.int .i64 a0_0):=(blk_cell BK106.out 0).trans rfl;have hcz26_1:w25.cell? ⟨gb106,1,none⟩ = some (.int .i64 a0_1):=(blk_cell BK106.out 1).trans rfl;have hcz26_2:w25.cell? ⟨gb106,2,none⟩ = some (.int .i64 a0_2):=(blk_cell BK106.out 2).trans rfl;have hcz26_3:w25.cell? ⟨gb106,3,none⟩ = some (.int .i64 a0_3):=(blk_cell BK106.out 3).trans rfl;have hcz26_4:w25.cell? ⟨gb106,4,none⟩ = some (.int .i64 a0_4):=(blk_cell BK106.out 4).trans rfl;have hfz26_0:=blk_frozen BK106.out 0;have hfz26_1:=blk_frozen BK106.out 1;have hfz26_2:=blk_frozen BK106.out 2;have hfz26_3:=blk_frozen BK106.out 3;have hfz26_4:=blk_frozen BK106.out 4)|((with_reducible refine gate_callee (f:=59) rfl ?_);refine goesL_ (some 23) rfl rfl Try.func59 (by kernel_rfl) rfl #[.int .i64 a0_1,.bool t108] rfl zmb8_3 ?_;(with_reducible refine (inst_register.calls a0_1 t108 true _ A8.out).mono ?_);rintro e w' ⟨rfl,⟨nd,rfl⟩⟩;refine ⟨_,rfl,?_⟩)|(go_at_call 59;(with_reducible refine (inst_register.calls a0_2 t109 false _ A10.out).mono ?_);rintro e w' ⟨rfl,⟨nd,rfl⟩⟩))
    go_ret
    exact ⟨zmb8_5,zmb8_15⟩
  ·replace c9:=Bool.eq_false_iff.mpr c9
   subst c9
   have H1:(some false) = some r:=by rw [if_neg (show ¬ (false = true) by decide)] at H;exact H
   clear H
   have H:=H1
   clear H1
   obtain rfl:=Option.some.inj H
   go_enter Try.func35,Try.ntmps35
   go_wp2_with (first|((with_reducible refine gate_dst (N:=1) rfl ?_);refine box_event ?hg (N:=1) ?hd (cs:=#[.int .i64 a0_0,.int .i64 a0_1,.int .i64 a0_2,.int .i64 a0_3,.int .i64 a0_4]) (t:=39) ?hr ?_;(case hd=>rfl);(case hg=>rfl);(case hr=>first|(go_simp;done)|(go_simp;rfl));intro gb106 hg w27 hbox hb;have n0_:=Aside0.mk (below_step zmb8_4 hb);have n1_:=Aside0.mk (hbox);have n2_:=Aside0.mk ((by rw [hg];exact (below_size zmb8_4):w.heap.size≤gb106));have n3_:=Aside0.mk ((by rw [hg];exact (below_size zmb8_4):w.heap.size≤gb106));clear HB;have HB:=n0_;have BK106:=n1_;have GW106:=n2_;have GE106:=n3_;clear n0_ n1_ n2_ n3_;clear hb hbox hg;have hcz28_0:w27.cell? ⟨gb106,0,none⟩ = some (.int .i64 a0_0):=(blk_cell BK106.out 0).trans rfl;have hcz28_1:w27.cell? ⟨gb106,1,none⟩ = some (.int .i64 a0_1):=(blk_cell BK106.out 1).trans rfl;have hcz28_2:w27.cell? ⟨gb106,2,none⟩ = some (.int .i64 a0_2):=(blk_cell BK106.out 2).trans rfl;have hcz28_3:w27.cell? ⟨gb106,3,none⟩ = some (.int .i64 a0_3):=(blk_cell BK106.out 3).trans rfl;have hcz28_4:w27.cell? ⟨gb106,4,none⟩ = some (.int .i64 a0_4):=(blk_cell BK106.out 4).trans rfl;have hfz28_0:=blk_frozen BK106.out 0;have hfz28_1:=blk_frozen BK106.out 1;have hfz28_2:=blk_frozen BK106.out 2;have hfz28_3:=blk_frozen BK106.out 3;have hfz28_4:=blk_frozen BK106.out 4)|((with_reducible refine gate_callee (f:=58) rfl ?_);refine goesL_ (some 10) rfl rfl Try.func58 (by kernel_rfl) rfl #[.int .i64 a0_0] rfl zmb8_3 ?_;(with_reducible refine (inst_Form.calls a0_0 t107 _ A2.out).mono ?_);rintro e w29 ⟨rfl,hb⟩;refine ⟨_,rfl,?_⟩;have n0_:=Aside0.mk (blk_below (g:=gb106) (o:=.cells #[.int .i64 a0_0,.int .i64 a0_1,.int .i64 a0_2,.int .i64 a0_3,.int .i64 a0_4] 39 (0,0)) zmb8_14 hb);have n1_:=Aside0.mk (below_step zmb8_15 hb);clear BK106 HB;have BK106:=n0_;have HB:=n1_;clear n0_ n1_;(try clear hb);(try clear hb2);(try clear hk);(try clear hi))|((with_reducible refine gate_callee (f:=41) rfl ?_);refine goesL_ (some 15) rfl rfl Try.func41 (by kernel_rfl) rfl #[.int .u8 t107] rfl zmb8_3 ?_;(with_reducible refine (inst_needs.calls k t107 t108 t109 t110 t111 _ A7.out).mono ?_);rintro e w' ⟨rfl,⟨nd,rfl⟩⟩;refine ⟨_,rfl,?_⟩;have hcz30_0:w29.cell? ⟨gb106,0,none⟩ = some (.int .i64 a0_0):=(blk_cell BK106.out 0).trans rfl;have hcz30_1:w29.cell? ⟨gb106,1,none⟩ = some (.int .i64 a0_1):=(blk_cell BK106.out 1).trans rfl;have hcz30_2:w29.cell? ⟨gb106,2,none⟩ = some (.int .i64 a0_2):=(blk_cell BK106.out 2).trans rfl;have hcz30_3:w29.cell? ⟨gb106,3,none⟩ = some (.int .i64 a0_3):=(blk_cell BK106.out 3).trans rfl;have hcz30_4:w29.cell? ⟨gb106,4,none⟩ = some (.int .i64 a0_4):=(blk_cell BK106.out 4).trans rfl;have hfz30_0:=blk_frozen BK106.out 0;have hfz30_1:=blk_frozen BK106.out 1;have hfz30_2:=blk_frozen BK106.out 2;have hfz30_3:=blk_frozen BK106.out 3;have hfz30_4:=blk_frozen BK106.out 4)|((with_reducible refine gate_callee (f:=59) rfl ?_);refine goesL_ (some 23) rfl rfl Try.func59 (by kernel_rfl) rfl #[.int .i64 a0_1,.bool t108] rfl zmb8_3 ?_;(with_reducible refine (inst_register.calls a0_1 t108 false _ A8.out).mono ?_);rintro e w' ⟨rfl,⟨nd,rfl⟩⟩;refine ⟨_,rfl,?_⟩))
   go_ret
   exact ⟨zmb8_5,zmb8_15⟩
end Go.Proofs.Ytecbponmpinnoaa.P
end
section
namespace Go.Proofs.Ytecbponmpinnoaa.P
open Go.RowKit Go.Proofs.YtecbponmpinnoaaW.PrintWords Go.Proofs.YtecbponmpinnoaaW.PrintLast Go.Proofs.YtecbponmpinnoaaW.PrintMore
attribute [local go_sem] max2_int min2_int max_two min_two max_three min_three max_four min_four   
set_option linter.unusedVariables false
set_option linter.unusedSimpArgs false
theorem wp_scope_ghost {P:Program} {a:Act} {w:World} {Q:Exit→Act→World→Prop} {c rest R:Code} (l:Nat) (J:Nat→Act→World→Prop) (hf:findLabel c l = some rest)
  (hc:∀ (Q:Exit→Act→World→Prop) (a:Act) (w:World),R.wp P Q a w→c.wp P Q a w) (hr:∀ (Q:Exit→Act→World→Prop) (a:Act) (w:World),R.wp P Q a w→rest.wp P Q a w) (k0:Nat) (h0:J k0 a w)
  (pass:∀ k a w,J k a w→R.wp P (Exit.jump l (fun a' w'=>∃ k',k' < k∧J k' a' w') Q) a w):(Code.scope c).wp P Q a w:=by
 classical
 have first:c.wp P (Exit.jump l (fun a w=>∃ k,J k a w) Q) a w:=by
  refine hc _ _ _ (wp_mono (pass k0 a w h0) ?_)
  intro e a' w' he
  cases e with
  | goto l' =>
   obtain ⟨hl,k',_,hk'⟩:=he
   exact ⟨hl,k',hk'⟩
  | _=>exact he
 have least:∀ (a:Act) (w:World),(∃ k,J k a w)→∃ k,J k a w∧∀ k',J k' a w→k≤k':=by
  intro a w ⟨k,hk⟩
  induction k using Nat.strongRecOn with
  | _ k ih =>
   by_cases h:∃ k',k' < k∧J k' a w
   ·obtain ⟨k',hlt,hk'⟩:=h
    exact ih k' hlt hk'
   ·exact ⟨k,hk,fun k' hk'=>Nat.le_of_not_lt fun hlt=>h ⟨k',hlt,hk'⟩⟩
 refine wp_scope_jumps l (fun a w=>∃ k,J k a w) (fun a w=>if h:∃ k,J k a w then Classical.choose (least a w h) else 0) hf first ?_
 intro a w hJ
 have hs:=Classical.choose_spec (least a w hJ)
 refine hr _ _ _ (wp_mono (pass _ a w hs.1) ?_)
 intro e a' w' he
 cases e with
 | goto l' =>
  obtain ⟨hl,k',hlt,hk'⟩:=he
  refine ⟨hl,⟨k',hk'⟩,?_⟩
  have hJ':∃ k,J k a' w':=⟨k',hk'⟩
  rw [dif_pos hJ',dif_pos hJ]
  exact Nat.lt_of_le_of_lt ((Classical.choose_spec (least a' w' hJ')).2 k' hk') hlt
 | _=>exact he
def asm_grow.l1:Nat→List S41→List Bool→List Int→List Int→Bool→Nat→Option (List Bool × Bool)
 | 0,_,_,_,_,_,_=>none
 | k + 1,xs,far,at_,lab,grew,i=>if i < xs.length then
   (if (rd_T41 xs i).f0≠3∨far.getD i false = true then asm_grow.l1 k xs far at_ lab grew (i + 1)
   else if ¬ (0≤(rd_T41 xs i).f2∧(rd_T41 xs i).f2 < lab.length) then none
   else if wrap64 (lab.getD (rd_T41 xs i).f2.toNat 0 - at_.getD i 0) < -4096∨wrap64 (lab.getD (rd_T41 xs i).f2.toNat 0 - at_.getD i 0) > 4094 then asm_grow.l1 k xs (far.set i true) at_ lab true (i + 1)
   else asm_grow.l1 k xs far at_ lab grew (i + 1))
  else some (far,grew)
def asm_grow.l0:Nat→List S41→List Bool→List Int→List Int→Option (List Bool × List Int × List Int)
 | 0,_,_,_,_=>none
 | k + 1,xs,far,at_,lab=>(asm_place.l0 k xs far at_ lab 0 0).bind fun p=>(asm_grow.l1 k xs far p.1 p.2 false 0).bind fun q=>if q.2 = true then asm_grow.l0 k xs q.1 p.1 p.2 else some (q.1,p.1,p.2)
set_option maxHeartbeats 1000000 in
set_option maxRecDepth 100000 in
theorem asm_grow.calls (k:Nat) (w0 w:World) (g:Nat) (A:Option Addr) (c gf ga gl:Nat) (lv:Value) (xs:List S41) (far:List Bool) (at_ lab:List Int) (hS:Sheet w0 w g A c gf ga lv xs far at_) (hL:Lab w0 w ga gl lv lab) (r1:List Bool) (r2 r3:List Int) (h:asm_grow.l0 k xs far at_ lab = some (r1,r2,r3)) :
  Calls Try.prog 27 #[.pointer (some ⟨g,0,none⟩)] w fun e w'=>e = .returned (.tuple #[])∧Sheet w0 w' g A c gf ga lv xs r1 r2∧Lab w0 w' ga gl lv r3:=by
 have hu41:=Try.underlying41
 have hu65:=Try.underlying65
 have H:=Aside0.mk h
 have HS:=Aside0.mk hS
 have HL:=Aside0.mk hL
 have hlen:=hS.len
 clear h hS hL
 go_enter Try.func27,Try.ntmps27
 go_wp2
 refine wp_scope_ghost 0 (fun kq a' w'=>∃ (far1:List Bool) (at1 lab1:List Int) (u2 u3 u4 u5 u6 u7 u8 u9 u10 u11 u12 u13 u14 u15 u16 u17 u18 u19 u20 u21 u22 u23 u24 u25 u26 u27 u28 u29 u30 u31 u32 u33 u34 u35 u36 u37 u38 u39 u40 u41 u42 u43 u44 u45 u46 u47 u48 u49 u50 u51 u52 u53:Value),a' = ⟨#[.pointer (some ⟨g,0,none⟩),undef,u2,u3,u4,u5,u6,u7,u8,u9,u10,u11,u12,u13,u14,u15,u16,u17,u18,u19,u20,u21,u22,u23,u24,u25,u26,u27,u28,u29,u30,u31,u32,u33,u34,u35,u36,u37,u38,u39,u40,u41,u42,u43,u44,u45,u46,u47,u48,u49,u50,u51,u52,u53],[]⟩∧Aside0 (asm_grow.l0 kq xs far1 at1 lab1 = some (r1,r2,r3))∧Aside0 (Sheet w0 w' g A c gf ga lv xs far1 at1)∧Aside0 (Lab w0 w' ga gl lv lab1)) rfl (fun Q a w h=>wp_seq (wp_label h)) (fun Q a w h=>wp_seq (wp_skip h)) k ⟨far,at_,lab,_,_,_,_,_,_,_,_,_,_,_,_,_,_,_,_,_,_,_,_,_,_,_,_,_,_,_,_,_,_,_,_,_,_,_,_,_,_,_,_,_,_,_,_,_,_,_,_,_,_,_,_,rfl,H,HS,HL⟩ ?_
 clear H HS HL
 rintro kq a1 w1 ⟨far1,at1,lab1,u2,u3,u4,u5,u6,u7,u8,u9,u10,u11,u12,u13,u14,u15,u16,u17,u18,u19,u20,u21,u22,u23,u24,u25,u26,u27,u28,u29,u30,u31,u32,u33,u34,u35,u36,u37,u38,u39,u40,u41,u42,u43,u44,u45,u46,u47,u48,u49,u50,u51,u52,u53,rfl,H,HS,HL⟩
 cases kq with
 | zero=>exact absurd H.out (by simp [asm_grow.l0])
 | succ kq =>
 have h0:=H.out
 clear H
 simp only [asm_grow.l0] at h0
 replace h0:=Option.bind_eq_some_iff.mp h0
 obtain ⟨⟨at2,lab2⟩,hp,h0⟩:=h0
 replace h0:=Option.bind_eq_some_iff.mp h0
 obtain ⟨⟨far2,grew⟩,hq,h0⟩:=h0
 have HP:=Aside0.mk hp
 have HQ:=Aside0.mk hq
 have H:=Aside0.mk h0
 clear hp hq h0
 dsimp only at HQ H
 go_wp2_with (go_at_call 45;refine (asm_place.calls kq w0 _ g A c gf ga gl lv xs far1 at1 lab1 HS.out HL.out at2 lab2 HP.out).mono ?_;rintro e w2 ⟨rfl,hS2,hL2⟩;have HS2:=Aside0.mk hS2;have HL2:=Aside0.mk hL2;clear hS2 hL2 HS HL;have s0:=blk_cell HS2.out.blk 0;simp only [List.getElem?_toArray,List.getElem?_cons_zero] at s0)
 go_loopw [2,13] (fun v2 v13 wr=>∃ (k1 i:Nat) (g1:Bool) (far3:List Bool),v2 = .bool g1∧v13 = .int .i64 (i:Int)∧i≤xs.length∧Aside0 (asm_grow.l1 k1 xs far3 at2 lab2 g1 i = some (far2,grew))∧Aside0 (Sheet w0 wr g A c gf ga lv xs far3 at2)∧Aside0 (Lab w0 wr ga gl lv lab2)) (fun _ v13 _=>xs.length - (intOf v13).toNat)
 case atStart=>exact ⟨kq,0,false,far1,rfl,rfl,by omega,HQ,HS2,HL2⟩
 case round =>
  clear HQ HS2 HL2 s0 HP
  obtain ⟨k1',i,g1,far3,rfl,rfl,hi,HQ,HS,HL⟩:=hrel
  cases k1' with
  | zero=>exact absurd HQ.out (by simp [asm_grow.l1])
  | succ k1' =>
  have h0:=HQ.out
  clear HQ
  simp only [asm_grow.l1] at h0
  by_cases hlt:i < xs.length
  ·rw [if_pos hlt] at h0
   have l0:=blk_lt HS.out.blk
   have l1:=blk_lt HS.out.farB
   have l2:=blk_lt HS.out.atB
   have l3:=blk_lt HL.out.blk
   have s0:=blk_cell HS.out.blk 0
   have s1:=blk_cell HS.out.blk 1
   have s2:=blk_cell HS.out.blk 2
   simp only [List.getElem?_toArray,List.getElem?_cons_zero,List.getElem?_cons_succ] at s0 s1 s2
   have hfl:i < far3.length:=by rw [HS.out.farL];exact hlt
   have hal:i < at2.length:=by rw [HS.out.atL];omega
   have a0:=int_cell HS.out.atB i hal
   have f0:=bool_cell HS.out.farB i hfl
   have f1:=blk_frozen HS.out.farB i
   clear hfl hal
   obtain ⟨ad,rfl,e0,e1,e2,e3,e4,e5,e6⟩:=at_T41 (Kd.C_below HS.out.items HS.out.bel) (i:Int) (by omega) (by omega)
   simp only [Int.toNat_natCast] at e0 e1 e2 e3 e4 e5 e6
   generalize hx:rd_T41 xs i = x at *
   obtain ⟨x0,⟨y0,y1,y2,y3,y4⟩,x2⟩:=x
   dsimp only at e0 e1 e2 e3 e4 e5 e6 h0
   have HX:=Aside0.mk hx
   clear hx
   generalize hav:at2.getD i 0 = v at *
   generalize hfv:far3.getD i false = b at *
   clear hav hfv
   by_cases k3:x0 = 3
   ·have b3:(x0 != 3) = false:=by simp [k3]
    cases b
    ·rw [if_neg (by simp [k3])] at h0
     by_cases kr:0≤x2∧x2 < lab2.length
     ·rw [if_neg (fun z=>z kr)] at h0
      obtain ⟨n,rfl⟩:=Int.eq_ofNat_of_zero_le kr.1
      have hn:n < lab2.length:=by omega
      rw [Int.toNat_natCast] at h0
      clear kr
      by_cases kt:wrap64 (lab2.getD n 0 - v) < -4096∨wrap64 (lab2.getD n 0 - v) > 4094
      ·rw [if_pos kt] at h0
       have HQ:=Aside0.mk h0
       clear h0
       generalize hz:wrap64 (lab2.getD n 0 - v) = z at *
       have HZ:=Aside0.mk hz
       clear hz
       by_cases k1:z < -4096
       ·have c1:decide (z < -4096) = true:=decide_eq_true k1
        clear kt
        go_wp2_with (go_at_call 46;refine (asm_way.calls w0 _ g _ c gf ga gl lv xs far3 at2 lab2 (HS.out.below (below_alloc (Below.refl _ _) _)) (HL.out.below (below_alloc (Below.refl _ _) _)) i hlt n (by rw [HX.out]) hn v).mono ?_;rw [HZ.out];rintro e w3 ⟨rfl,hb3⟩;have HB3:=Aside0.mk hb3;clear hb3;have HS3:=Aside0.mk ((HS.out.below (below_alloc (Below.refl _ _) _)).below HB3.out);have HL3:=Aside0.mk ((HL.out.below (below_alloc (Below.refl _ _) _)).below HB3.out);clear s1 f0 f1 l0 l1;have s1:=blk_cell HS3.out.blk 1;simp only [List.getElem?_toArray,List.getElem?_cons_zero,List.getElem?_cons_succ] at s1;have f0:=bool_cell HS3.out.farB i (by rw [HS3.out.farL];exact hlt);have f1:=blk_frozen HS3.out.farB i)
        go_roundw
        case rel=>exact ⟨k1',i + 1,_,_,rfl,by go_num,by omega,HQ,⟨HS3.out.setFar i true⟩,⟨HL3.out.setFar (Ne.symm (blk_ne HS3.out.farB HL3.out.blk (by decide))) i true⟩⟩
        case measure=>simp [intOf];omega
       ·have c1:decide (z < -4096) = false:=decide_eq_false k1
        have k2:z > 4094:=kt.resolve_left k1
        clear kt
        go_wp2_with (go_at_call 46;refine (asm_way.calls w0 _ g _ c gf ga gl lv xs far3 at2 lab2 (HS.out.below (below_alloc (Below.refl _ _) _)) (HL.out.below (below_alloc (Below.refl _ _) _)) i hlt n (by rw [HX.out]) hn v).mono ?_;rw [HZ.out];rintro e w3 ⟨rfl,hb3⟩;have HB3:=Aside0.mk hb3;clear hb3;have HS3:=Aside0.mk ((HS.out.below (below_alloc (Below.refl _ _) _)).below HB3.out);have HL3:=Aside0.mk ((HL.out.below (below_alloc (Below.refl _ _) _)).below HB3.out);clear s1 f0 f1 l0 l1;have s1:=blk_cell HS3.out.blk 1;simp only [List.getElem?_toArray,List.getElem?_cons_zero,List.getElem?_cons_succ] at s1;have f0:=bool_cell HS3.out.farB i (by rw [HS3.out.farL];exact hlt);have f1:=blk_frozen HS3.out.farB i)
        go_roundw
        case rel=>exact ⟨k1',i + 1,_,_,rfl,by go_num,by omega,HQ,⟨HS3.out.setFar i true⟩,⟨HL3.out.setFar (Ne.symm (blk_ne HS3.out.farB HL3.out.blk (by decide))) i true⟩⟩
        case measure=>simp [intOf];omega
      ·rw [if_neg kt] at h0
       have HQ:=Aside0.mk h0
       clear h0
       generalize hz:wrap64 (lab2.getD n 0 - v) = z at *
       have HZ:=Aside0.mk hz
       clear hz
       have c1:decide (z < -4096) = false:=decide_eq_false (fun q=>kt (.inl q))
       have c2:¬ (4094 < z):=fun q=>kt (.inr q)
       clear kt
       go_wp2_with (go_at_call 46;refine (asm_way.calls w0 _ g _ c gf ga gl lv xs far3 at2 lab2 (HS.out.below (below_alloc (Below.refl _ _) _)) (HL.out.below (below_alloc (Below.refl _ _) _)) i hlt n (by rw [HX.out]) hn v).mono ?_;rw [HZ.out];rintro e w3 ⟨rfl,hb3⟩;have HB3:=Aside0.mk hb3;clear hb3)
       go_roundw
       case rel=>exact ⟨k1',i + 1,_,_,rfl,by go_num,by omega,HQ,⟨(HS.out.below (below_alloc (Below.refl _ _) _)).below HB3.out⟩,⟨(HL.out.below (below_alloc (Below.refl _ _) _)).below HB3.out⟩⟩
       case measure=>simp [intOf];omega
     ·rw [if_pos kr] at h0
      cases h0
    ·rw [if_pos (.inr rfl)] at h0
     have HQ:=Aside0.mk h0
     clear h0 k3
     go_wp2
     go_roundw
     case rel=>exact ⟨k1',i + 1,_,_,rfl,by go_num,by omega,HQ,⟨HS.out.below (below_alloc (Below.refl _ _) _)⟩,⟨HL.out.below (below_alloc (Below.refl _ _) _)⟩⟩
     case measure=>simp [intOf];omega
   ·have b3:(x0 != 3) = true:=by simp [k3]
    rw [if_pos (.inl k3)] at h0
    have HQ:=Aside0.mk h0
    clear h0 k3
    go_wp2
    go_roundw
    case rel=>exact ⟨k1',i + 1,_,_,rfl,by go_num,by omega,HQ,⟨HS.out.below (below_alloc (Below.refl _ _) _)⟩,⟨HL.out.below (below_alloc (Below.refl _ _) _)⟩⟩
    case measure=>simp [intOf];omega
  ·rw [if_neg hlt] at h0
   simp only [Option.some.injEq,Prod.mk.injEq] at h0
   obtain ⟨rfl,rfl⟩:=h0
   have hlt2:decide ((i:Int) < xs.length) = false:=by simp;omega
   cases g1
   ·have h1:=H.out
    rw [if_neg (by simp)] at h1
    simp only [Option.some.injEq,Prod.mk.injEq] at h1
    obtain ⟨rfl,rfl,rfl⟩:=h1
    clear H
    go_wp2
    simp only [Exit.jump]
    go_end0
    exact ⟨rfl,HS.out,HL.out⟩
   ·have h1:=H.out
    rw [if_pos rfl] at h1
    clear H
    have H:=Aside0.mk h1
    clear h1
    go_wp2
    go_step3
    exact ⟨rfl,kq,by omega,_,_,_,_,_,_,_,_,_,_,_,_,_,_,_,_,_,_,_,_,_,_,_,_,_,_,_,_,_,_,_,_,_,_,_,_,_,_,_,_,_,_,_,_,_,_,_,_,_,_,_,_,_,_,_,rfl,H,HS,HL⟩
set_option linter.unusedVariables false
set_option linter.unusedSimpArgs false
def leadsJ (z:Int):Bool:=decide (-1048576≤z) && decide (z≤1048574)
def asm_insts.f (k:Nat) (xs:List S41) (far:List Bool) (at_ lab:List Int) (i:Nat):Option (List S39 × Bool) :=
 if (rd_T41 xs i).f0 = 1 then some ([(rd_T41 xs i).f1],true)
 else if (rd_T41 xs i).f0 = 5 then (asm_consts.f (rd_T41 xs i).f1.f1 ((rd_T41 xs i).f1.f4 % 4294967296)).bind fun r=>some (r,true)
 else if (rd_T41 xs i).f0 = 2 then some ([],true)
 else if ¬ (0≤(rd_T41 xs i).f2∧(rd_T41 xs i).f2 < lab.length) then none
 else if (rd_T41 xs i).f0 = 3∧far.getD i false = false then some ([⟨(rd_T41 xs i).f1.f0,(rd_T41 xs i).f1.f1,(rd_T41 xs i).f1.f2,(rd_T41 xs i).f1.f3,wrap64 (lab.getD (rd_T41 xs i).f2.toNat 0 - at_.getD i 0)⟩],true)
 else if (rd_T41 xs i).f0 = 4 then some ([⟨(rd_T41 xs i).f1.f0,(rd_T41 xs i).f1.f1,(rd_T41 xs i).f1.f2,(rd_T41 xs i).f1.f3,wrap64 (lab.getD (rd_T41 xs i).f2.toNat 0 - at_.getD i 0)⟩],leadsJ (wrap64 (lab.getD (rd_T41 xs i).f2.toNat 0 - at_.getD i 0)))
 else (asm_Contrary.f k (rd_T41 xs i).f1.f0).bind fun op=>some ([⟨op,(rd_T41 xs i).f1.f1,(rd_T41 xs i).f1.f2,(rd_T41 xs i).f1.f3,8⟩,⟨3,0,0,0,wrap64 (lab.getD (rd_T41 xs i).f2.toNat 0 - wrap64 (at_.getD i 0 + 4))⟩],leadsJ (wrap64 (lab.getD (rd_T41 xs i).f2.toNat 0 - wrap64 (at_.getD i 0 + 4))))
theorem heap_second (w:World) (o1 o2:Obj):((w.alloc o1).alloc o2).heap[w.heap.size + 1]? = some o2:=by
 have h:=heap_alloc_last (w.alloc o1) o2
 simpa using h
theorem inst_lit1 (W:World) (base G:Nat) (x:S39) (hG:W.heap.size = G) (hb:base≤W.heap.size):Kd.R k39 39 (W.alloc (.cells #[.int .i64 x.f0,.int .i64 x.f1,.int .i64 x.f2,.int .i64 x.f3,.int .i64 x.f4] 39)) base (fun _=>True) (.slice (some ⟨G,0,none⟩) 1 1) [x]:=by
 subst hG
 exact ⟨fun _ _=>trivial,OwnRow.lit W base (ps:=[x]) (inner:=[.int .i64 x.f0,.int .i64 x.f1,.int .i64 x.f2,.int .i64 x.f3,.int .i64 x.f4]) ((Reps.none _ _).snoc (k39_mkM _ _ _ x) rfl) hb (show _≤9223372036854775807 by simp)⟩
theorem inst_lit2 (W:World) (base G:Nat) (x y:S39) (hG:W.heap.size = G) (hb:base≤W.heap.size):Kd.R k39 39 (W.alloc (.cells #[.int .i64 x.f0,.int .i64 x.f1,.int .i64 x.f2,.int .i64 x.f3,.int .i64 x.f4,.int .i64 y.f0,.int .i64 y.f1,.int .i64 y.f2,.int .i64 y.f3,.int .i64 y.f4] 39)) base (fun _=>True) (.slice (some ⟨G,0,none⟩) 2 2) [x,y]:=by
 subst hG
 exact ⟨fun _ _=>trivial,OwnRow.lit W base (ps:=[x,y]) (inner:=[.int .i64 x.f0,.int .i64 x.f1,.int .i64 x.f2,.int .i64 x.f3,.int .i64 x.f4,.int .i64 y.f0,.int .i64 y.f1,.int .i64 y.f2,.int .i64 y.f3,.int .i64 y.f4]) (((Reps.none _ _).snoc (k39_mkM _ _ _ x) rfl).snoc (k39_mkM _ _ _ y) rfl) hb (show _≤9223372036854775807 by simp)⟩
theorem far_facts {G:Nat} {cs ds:Array Value} {t u:TypeId} {w3 w4:World} (h7:w3.heap[G]? = some (.cells cs t (0,0))) (hd:Drawn0 (w3.alloc (.cells ds u)) w4):w4.heap[G]? = some (.cells cs t (0,0))∧w4.heap[w3.heap.size]? = some (.cells ds u (0,0))∧Below w3.heap.size w3 w4∧w3.heap.size < w4.heap.size:=by
 have hb:=hd.below
 have hl:=blk_lt h7
 have hs:=hb.size
 simp at hs
 refine ⟨?_,?_,?_,by omega⟩
 ·have:=hb.block G (by simp;omega)
  rw [this,heap_alloc_old _ _ (by omega),h7]
 ·have:=hb.block w3.heap.size (by simp)
  rw [this,heap_alloc_last]
 ·exact below_then (below_alloc (Below.refl _ _) _) (by simp) hb
set_option maxHeartbeats 1000000 in
set_option maxRecDepth 100000 in
theorem asm_insts.calls (k:Nat) (w0 w:World) (g:Nat) (A:Option Addr) (c gf ga gl:Nat) (lv:Value) (xs:List S41) (far:List Bool) (at_ lab:List Int) (hS:Sheet w0 w g A c gf ga lv xs far at_) (hL:Lab w0 w ga gl lv lab) (i:Nat) (hlt:i < xs.length) (r1:List S39) (r2:Bool) (h:asm_insts.f k xs far at_ lab i = some (r1,r2)) :
  Calls Try.prog 28 #[.pointer (some ⟨g,0,none⟩),.int .i64 i] w fun e w'=>∃ v0,e = .returned (.tuple #[v0,.bool r2])∧Kd.R k39 39 w' w.heap.size (fun _=>True) v0 r1∧Below w.heap.size w w':=by
 have hu41:=Try.underlying41
 have hu39:=Try.underlying39
 have hu65:=Try.underlying65
 have l0:=blk_lt hS.blk
 have l1:=blk_lt hS.farB
 have l2:=blk_lt hS.atB
 have l3:=blk_lt hL.blk
 have s0:=blk_cell hS.blk 0
 have s1:=blk_cell hS.blk 1
 have s2:=blk_cell hS.blk 2
 simp only [List.getElem?_toArray,List.getElem?_cons_zero,List.getElem?_cons_succ] at s0 s1 s2
 have hfl:i < far.length:=by rw [hS.farL];exact hlt
 have hal:i < at_.length:=by rw [hS.atL];omega
 have a0:=int_cell hS.atB i hal
 have f0:=bool_cell hS.farB i hfl
 clear hfl hal
 have hlen:=hS.len
 have HS:=Aside0.mk hS
 have HL:=Aside0.mk hL
 clear hS hL
 obtain ⟨ad,rfl,e0,e1,e2,e3,e4,e5,e6⟩:=at_T41 (Kd.C_below HS.out.items HS.out.bel) (i:Int) (by omega) (by omega)
 simp only [Int.toNat_natCast] at e0 e1 e2 e3 e4 e5 e6
 simp only [asm_insts.f] at h
 generalize hx:rd_T41 xs i = x at *
 obtain ⟨x0,⟨y0,y1,y2,y3,y4⟩,x2⟩:=x
 dsimp only at e0 e1 e2 e3 e4 e5 e6 h
 have HX:=Aside0.mk hx
 clear hx
 generalize hav:at_.getD i 0 = v at *
 generalize hfv:far.getD i false = b at *
 clear hav hfv
 by_cases k1:x0 = 1
 ·have b1:(x0 == 1) = true:=by simp [k1]
  rw [if_pos k1] at h
  simp only [Option.some.injEq,Prod.mk.injEq] at h
  obtain ⟨rfl,rfl⟩:=h
  clear k1
  go_enter Try.func28,Try.ntmps28
  go_wp2
  go_ret2
  exact ⟨.slice (some ⟨w.heap.size + 1 + 1,0,none⟩) 1 1,rfl,inst_lit1 _ w.heap.size _ ⟨y0,y1,y2,y3,y4⟩ (by simp) (by simp;omega),(((Below.refl _ _).alloc (Nat.le_refl _) _).alloc (by simp) _).alloc (by simp;omega) _⟩
 have b1:(x0 == 1) = false:=by simp [k1]
 rw [if_neg k1] at h
 by_cases k5:x0 = 5
 ·have b5:(x0 == 5) = true:=by simp [k5]
  rw [if_pos k5] at h
  replace h:=Option.bind_eq_some_iff.mp h
  obtain ⟨q,hq,h⟩:=h
  simp only [Option.some.injEq,Prod.mk.injEq] at h
  obtain ⟨rfl,rfl⟩:=h
  have HQ:=Aside0.mk hq
  clear hq k5 k1
  go_enter Try.func28,Try.ntmps28
  go_wp2_with (go_at_call 47;refine (asm_consts.calls y1 (y4 % 4294967296) q _ HQ.out).mono ?_;rintro e w' ⟨v,rfl,ho,hb⟩;have HB:=Aside0.mk hb;have HO:=Aside0.mk ho;clear hb ho)
  go_ret2
  exact ⟨_,rfl,Kd.R_lower HO.out (by simp;omega),below_then (((Below.refl _ _).alloc (Nat.le_refl _) _).alloc (by simp) _) (by simp;omega) HB.out⟩
 have b5:(x0 == 5) = false:=by simp [k5]
 rw [if_neg k5] at h
 by_cases k2:x0 = 2
 ·have b2:(x0 == 2) = true:=by simp [k2]
  rw [if_pos k2] at h
  simp only [Option.some.injEq,Prod.mk.injEq] at h
  obtain ⟨rfl,rfl⟩:=h
  clear k2 k1 k5
  go_enter Try.func28,Try.ntmps28
  go_wp2
  go_ret2
  exact ⟨_,rfl,Kd.R_nil _ _ _ _ _,((Below.refl _ _).alloc (Nat.le_refl _) _).alloc (by simp) _⟩
 have b2:(x0 == 2) = false:=by simp [k2]
 rw [if_neg k2] at h
 by_cases kr:¬ (0≤x2∧x2 < lab.length)
 ·rw [if_pos kr] at h
  cases h
 rw [if_neg kr] at h
 have kr:=Classical.not_not.1 kr
 obtain ⟨n,rfl⟩:=Int.eq_ofNat_of_zero_le kr.1
 have hn:n < lab.length:=by omega
 rw [Int.toNat_natCast] at h
 clear kr k1 k2 k5
 by_cases k3:x0 = 3∧b = false
 ·have b3:(x0 == 3) = true:=by simp [k3.1]
  rw [if_pos k3] at h
  obtain ⟨k3,rfl⟩:=k3
  simp only [Option.some.injEq,Prod.mk.injEq] at h
  obtain ⟨rfl,rfl⟩:=h
  clear k3
  generalize hz:wrap64 (lab.getD n 0 - v) = z at *
  have HZ:=Aside0.mk hz
  clear hz
  go_enter Try.func28,Try.ntmps28
  go_wp2_with (go_at_call 46;refine (asm_way.calls w0 _ g _ c gf ga gl lv xs far at_ lab (HS.out.below (below_alloc (below_alloc (Below.refl _ _) _) _)) (HL.out.below (below_alloc (below_alloc (Below.refl _ _) _) _)) i hlt n (by rw [HX.out]) hn (v)).mono ?_;rw [HZ.out];rintro e w3 ⟨rfl,hb3⟩;have HB3:=Aside0.mk hb3;clear hb3;have hsz:w.heap.size + 1 + 1≤w3.heap.size:=zmb8_16;have HO:=Aside0.mk ((HB3.out.block (w.heap.size + 1) (by simp)).trans (heap_second w _ _));have o0:=blk_cell HO.out 0;have o1:=blk_cell HO.out 1;have o2:=blk_cell HO.out 2;have o3:=blk_cell HO.out 3;have o4:=blk_cell HO.out 4;have o5:=blk_frozen HO.out 4;have o6:=blk_frozen HO.out 0)
  go_ret2
  exact ⟨.slice (some ⟨w3.heap.size,0,none⟩) 1 1,rfl,inst_lit1 _ w.heap.size _ ⟨y0,y1,y2,y3,z⟩ (by simp) (by simp;omega),below_step (below_set (below_then (below_alloc (below_alloc (Below.refl _ _) _) _) (by simp;omega) HB3.out) (by omega)) (below_alloc (Below.refl _ _) _)⟩
 rw [if_neg k3] at h
 by_cases k4:x0 = 4
 ·have b3:(x0 == 3) = false:=by simp [k4]
  have b4:(x0 == 4) = true:=by simp [k4]
  rw [if_pos k4] at h
  simp only [Option.some.injEq,Prod.mk.injEq] at h
  obtain ⟨rfl,rfl⟩:=h
  clear k4 k3
  generalize hz:wrap64 (lab.getD n 0 - v) = z at *
  have HZ:=Aside0.mk hz
  clear hz
  by_cases kz:-1048576≤z
  ·have z1:decide (-1048576≤z) = true:=decide_eq_true kz
   have hf:leadsJ z = decide (z≤1048574):=by simp only [leadsJ,z1,Bool.true_and,Bool.false_and]
   rw [hf]
   go_enter Try.func28,Try.ntmps28
   go_wp2_with (go_at_call 46;refine (asm_way.calls w0 _ g _ c gf ga gl lv xs far at_ lab (HS.out.below (below_alloc (below_alloc (Below.refl _ _) _) _)) (HL.out.below (below_alloc (below_alloc (Below.refl _ _) _) _)) i hlt n (by rw [HX.out]) hn (v)).mono ?_;rw [HZ.out];rintro e w3 ⟨rfl,hb3⟩;have HB3:=Aside0.mk hb3;clear hb3;have hsz:w.heap.size + 1 + 1≤w3.heap.size:=zmb8_16;have HO:=Aside0.mk ((HB3.out.block (w.heap.size + 1) (by simp)).trans (heap_second w _ _));have o0:=blk_cell HO.out 0;have o1:=blk_cell HO.out 1;have o2:=blk_cell HO.out 2;have o3:=blk_cell HO.out 3;have o4:=blk_cell HO.out 4;have o5:=blk_frozen HO.out 4;have o6:=blk_frozen HO.out 0;have HP:Aside0 ((w3.setCell ⟨w.heap.size + 1,4,none⟩ (.int .i64 z)).heap[w.heap.size + 1]? = some (.cells #[.int .i64 y0,.int .i64 y1,.int .i64 y2,.int .i64 y3,.int .i64 z] 39)):=Aside0.mk (blk_set HO.out 4 (.int .i64 z));have p0:=blk_cell HP.out 0;have p1:=blk_cell HP.out 1;have p2:=blk_cell HP.out 2;have p3:=blk_cell HP.out 3;have p4:=blk_cell HP.out 4;have l9:w.heap.size + 1 < w3.heap.size:=hsz)
   go_region
   all_goals go_wp2
   all_goals go_ret2
   all_goals exact ⟨.slice (some ⟨w3.heap.size,0,none⟩) 1 1,rfl,Kd.R_drew (inst_lit1 _ w.heap.size _ ⟨y0,y1,y2,y3,z⟩ (by simp) (by simp;omega)),below_drew (below_step (below_set (below_then (below_alloc (below_alloc (Below.refl _ _) _) _) (by simp;omega) HB3.out) (by omega)) (below_alloc (Below.refl _ _) _))⟩
  ·have z1:decide (-1048576≤z) = false:=decide_eq_false kz
   have hf:leadsJ z = false:=by simp only [leadsJ,z1,Bool.true_and,Bool.false_and]
   rw [hf]
   go_enter Try.func28,Try.ntmps28
   go_wp2_with (go_at_call 46;refine (asm_way.calls w0 _ g _ c gf ga gl lv xs far at_ lab (HS.out.below (below_alloc (below_alloc (Below.refl _ _) _) _)) (HL.out.below (below_alloc (below_alloc (Below.refl _ _) _) _)) i hlt n (by rw [HX.out]) hn (v)).mono ?_;rw [HZ.out];rintro e w3 ⟨rfl,hb3⟩;have HB3:=Aside0.mk hb3;clear hb3;have hsz:w.heap.size + 1 + 1≤w3.heap.size:=zmb8_16;have HO:=Aside0.mk ((HB3.out.block (w.heap.size + 1) (by simp)).trans (heap_second w _ _));have o0:=blk_cell HO.out 0;have o1:=blk_cell HO.out 1;have o2:=blk_cell HO.out 2;have o3:=blk_cell HO.out 3;have o4:=blk_cell HO.out 4;have o5:=blk_frozen HO.out 4;have o6:=blk_frozen HO.out 0;have HP:Aside0 ((w3.setCell ⟨w.heap.size + 1,4,none⟩ (.int .i64 z)).heap[w.heap.size + 1]? = some (.cells #[.int .i64 y0,.int .i64 y1,.int .i64 y2,.int .i64 y3,.int .i64 z] 39)):=Aside0.mk (blk_set HO.out 4 (.int .i64 z));have p0:=blk_cell HP.out 0;have p1:=blk_cell HP.out 1;have p2:=blk_cell HP.out 2;have p3:=blk_cell HP.out 3;have p4:=blk_cell HP.out 4;have l9:w.heap.size + 1 < w3.heap.size:=hsz)
   go_region
   all_goals go_wp2
   all_goals go_ret2
   all_goals exact ⟨.slice (some ⟨w3.heap.size,0,none⟩) 1 1,rfl,Kd.R_drew (inst_lit1 _ w.heap.size _ ⟨y0,y1,y2,y3,z⟩ (by simp) (by simp;omega)),below_drew (below_step (below_set (below_then (below_alloc (below_alloc (Below.refl _ _) _) _) (by simp;omega) HB3.out) (by omega)) (below_alloc (Below.refl _ _) _))⟩
 rw [if_neg k4] at h
 replace h:=Option.bind_eq_some_iff.mp h
 obtain ⟨op,hop,h⟩:=h
 simp only [Option.some.injEq,Prod.mk.injEq] at h
 obtain ⟨rfl,rfl⟩:=h
 have HQ:=Aside0.mk hop
 clear hop
 generalize hz:wrap64 (lab.getD n 0 - wrap64 (v + 4)) = z at *
 have HZ:=Aside0.mk hz
 clear hz
 have b4:(x0 == 4) = false:=by simp [k4]
 have b3:((x0 == 3) = true∧b = true)∨(x0 == 3) = false:=by
  by_cases q:x0 = 3
  ·left
   refine ⟨by simp [q],?_⟩
   cases b with
   | true=>rfl
   | false=>exact absurd ⟨q,rfl⟩ k3
  ·right
   simp [q]
 clear k3 k4
 by_cases kz:-1048576≤z
 ·have z1:decide (-1048576≤z) = true:=decide_eq_true kz
  have hf:leadsJ z = decide (z≤1048574):=by simp only [leadsJ,z1,Bool.true_and,Bool.false_and]
  rw [hf]
  rcases b3 with ⟨b3,rfl⟩|b3
  ·go_enter Try.func28,Try.ntmps28
   go_wp2_with (go_at_call 46;refine (asm_way.calls w0 _ g _ c gf ga gl lv xs far at_ lab (HS.out.below (below_alloc (below_alloc (Below.refl _ _) _) _)) (HL.out.below (below_alloc (below_alloc (Below.refl _ _) _) _)) i hlt n (by rw [HX.out]) hn _).mono ?_;rw [HZ.out];rintro e w3 ⟨rfl,hb3⟩;have HB3:=Aside0.mk hb3;clear hb3;have hsz:w.heap.size + 1 + 1≤w3.heap.size:=zmb8_16;have HO:=Aside0.mk ((HB3.out.block (w.heap.size + 1) (by simp)).trans (heap_second w _ _));have o0:=blk_cell HO.out 0;have o1:=blk_cell HO.out 1;have o2:=blk_cell HO.out 2;have o3:=blk_cell HO.out 3;have o4:=blk_cell HO.out 4;have o5:=blk_frozen HO.out 4;have o6:=blk_frozen HO.out 0;have l9:w.heap.size + 1 < w3.heap.size:=hsz)
   go_wp2_with (go_at_call 16;refine (asm_Contrary.calls k y0 op _ HQ.out).mono ?_;rintro e w4 ⟨rfl,hd4⟩;have HD:=Aside0.mk (far_facts HO.out hd4);clear hd4;have q10:=HD.out.2.2.2;have P0:Aside0 ((w4.setCell ⟨w.heap.size + 1,0,none⟩ (.int .i64 op)).heap[w.heap.size + 1]? = some (.cells #[.int .i64 op,.int .i64 y1,.int .i64 y2,.int .i64 y3,.int .i64 y4] 39)):=Aside0.mk (blk_set HD.out.1 0 (.int .i64 op));have P1:Aside0 (((w4.setCell ⟨w.heap.size + 1,0,none⟩ (.int .i64 op)).setCell ⟨w.heap.size + 1,4,none⟩ (.int .i64 8)).heap[w.heap.size + 1]? = some (.cells #[.int .i64 op,.int .i64 y1,.int .i64 y2,.int .i64 y3,.int .i64 8] 39)):=Aside0.mk (blk_set P0.out 4 (.int .i64 8));have P2:Aside0 (((w4.setCell ⟨w.heap.size + 1,0,none⟩ (.int .i64 op)).setCell ⟨w.heap.size + 1,4,none⟩ (.int .i64 8)).heap[w3.heap.size]? = some (.cells #[.int .i64 3,.int .i64 0,.int .i64 0,.int .i64 0,.int .i64 z] 39)):=Aside0.mk (blk_far (blk_far HD.out.2.1 (by simp;omega) _) (by simp;omega) _);have r0:=blk_cell HD.out.1 0;have r1:=blk_frozen HD.out.1 0;have r2:=blk_cell P0.out 4;have r3:=blk_frozen P0.out 4;have p0:=blk_cell P1.out 0;have p1:=blk_cell P1.out 1;have p2:=blk_cell P1.out 2;have p3:=blk_cell P1.out 3;have p4:=blk_cell P1.out 4;have q0:=blk_cell P2.out 0;have q1:=blk_cell P2.out 1;have q2:=blk_cell P2.out 2;have q3:=blk_cell P2.out 3;have q4:=blk_cell P2.out 4)
   go_region
   all_goals go_wp2
   all_goals go_ret2
   all_goals exact ⟨.slice (some ⟨w4.heap.size,0,none⟩) 2 2,rfl,Kd.R_drew (inst_lit2 _ w.heap.size _ ⟨op,y1,y2,y3,8⟩ ⟨3,0,0,0,z⟩ (by simp) (by simp;omega)),below_drew (below_step (below_set (below_set (below_then (below_then (below_alloc (below_alloc (Below.refl _ _) _) _) (by simp;omega) HB3.out) (by omega) HD.out.2.2.1) (by omega)) (by omega)) (below_alloc (Below.refl _ _) _))⟩
  ·go_enter Try.func28,Try.ntmps28
   go_wp2_with (go_at_call 46;refine (asm_way.calls w0 _ g _ c gf ga gl lv xs far at_ lab (HS.out.below (below_alloc (below_alloc (Below.refl _ _) _) _)) (HL.out.below (below_alloc (below_alloc (Below.refl _ _) _) _)) i hlt n (by rw [HX.out]) hn _).mono ?_;rw [HZ.out];rintro e w3 ⟨rfl,hb3⟩;have HB3:=Aside0.mk hb3;clear hb3;have hsz:w.heap.size + 1 + 1≤w3.heap.size:=zmb8_16;have HO:=Aside0.mk ((HB3.out.block (w.heap.size + 1) (by simp)).trans (heap_second w _ _));have o0:=blk_cell HO.out 0;have o1:=blk_cell HO.out 1;have o2:=blk_cell HO.out 2;have o3:=blk_cell HO.out 3;have o4:=blk_cell HO.out 4;have o5:=blk_frozen HO.out 4;have o6:=blk_frozen HO.out 0;have l9:w.heap.size + 1 < w3.heap.size:=hsz)
   go_wp2_with (go_at_call 16;refine (asm_Contrary.calls k y0 op _ HQ.out).mono ?_;rintro e w4 ⟨rfl,hd4⟩;have HD:=Aside0.mk (far_facts HO.out hd4);clear hd4;have q10:=HD.out.2.2.2;have P0:Aside0 ((w4.setCell ⟨w.heap.size + 1,0,none⟩ (.int .i64 op)).heap[w.heap.size + 1]? = some (.cells #[.int .i64 op,.int .i64 y1,.int .i64 y2,.int .i64 y3,.int .i64 y4] 39)):=Aside0.mk (blk_set HD.out.1 0 (.int .i64 op));have P1:Aside0 (((w4.setCell ⟨w.heap.size + 1,0,none⟩ (.int .i64 op)).setCell ⟨w.heap.size + 1,4,none⟩ (.int .i64 8)).heap[w.heap.size + 1]? = some (.cells #[.int .i64 op,.int .i64 y1,.int .i64 y2,.int .i64 y3,.int .i64 8] 39)):=Aside0.mk (blk_set P0.out 4 (.int .i64 8));have P2:Aside0 (((w4.setCell ⟨w.heap.size + 1,0,none⟩ (.int .i64 op)).setCell ⟨w.heap.size + 1,4,none⟩ (.int .i64 8)).heap[w3.heap.size]? = some (.cells #[.int .i64 3,.int .i64 0,.int .i64 0,.int .i64 0,.int .i64 z] 39)):=Aside0.mk (blk_far (blk_far HD.out.2.1 (by simp;omega) _) (by simp;omega) _);have r0:=blk_cell HD.out.1 0;have r1:=blk_frozen HD.out.1 0;have r2:=blk_cell P0.out 4;have r3:=blk_frozen P0.out 4;have p0:=blk_cell P1.out 0;have p1:=blk_cell P1.out 1;have p2:=blk_cell P1.out 2;have p3:=blk_cell P1.out 3;have p4:=blk_cell P1.out 4;have q0:=blk_cell P2.out 0;have q1:=blk_cell P2.out 1;have q2:=blk_cell P2.out 2;have q3:=blk_cell P2.out 3;have q4:=blk_cell P2.out 4)
   go_region
   all_goals go_wp2
   all_goals go_ret2
   all_goals exact ⟨.slice (some ⟨w4.heap.size,0,none⟩) 2 2,rfl,Kd.R_drew (inst_lit2 _ w.heap.size _ ⟨op,y1,y2,y3,8⟩ ⟨3,0,0,0,z⟩ (by simp) (by simp;omega)),below_drew (below_step (below_set (below_set (below_then (below_then (below_alloc (below_alloc (Below.refl _ _) _) _) (by simp;omega) HB3.out) (by omega) HD.out.2.2.1) (by omega)) (by omega)) (below_alloc (Below.refl _ _) _))⟩
 ·have z1:decide (-1048576≤z) = false:=decide_eq_false kz
  have hf:leadsJ z = false:=by simp only [leadsJ,z1,Bool.true_and,Bool.false_and]
  rw [hf]
  rcases b3 with ⟨b3,rfl⟩|b3
  ·go_enter Try.func28,Try.ntmps28
   go_wp2_with (go_at_call 46;refine (asm_way.calls w0 _ g _ c gf ga gl lv xs far at_ lab (HS.out.below (below_alloc (below_alloc (Below.refl _ _) _) _)) (HL.out.below (below_alloc (below_alloc (Below.refl _ _) _) _)) i hlt n (by rw [HX.out]) hn _).mono ?_;rw [HZ.out];rintro e w3 ⟨rfl,hb3⟩;have HB3:=Aside0.mk hb3;clear hb3;have hsz:w.heap.size + 1 + 1≤w3.heap.size:=zmb8_16;have HO:=Aside0.mk ((HB3.out.block (w.heap.size + 1) (by simp)).trans (heap_second w _ _));have o0:=blk_cell HO.out 0;have o1:=blk_cell HO.out 1;have o2:=blk_cell HO.out 2;have o3:=blk_cell HO.out 3;have o4:=blk_cell HO.out 4;have o5:=blk_frozen HO.out 4;have o6:=blk_frozen HO.out 0;have l9:w.heap.size + 1 < w3.heap.size:=hsz)
   go_wp2_with (go_at_call 16;refine (asm_Contrary.calls k y0 op _ HQ.out).mono ?_;rintro e w4 ⟨rfl,hd4⟩;have HD:=Aside0.mk (far_facts HO.out hd4);clear hd4;have q10:=HD.out.2.2.2;have P0:Aside0 ((w4.setCell ⟨w.heap.size + 1,0,none⟩ (.int .i64 op)).heap[w.heap.size + 1]? = some (.cells #[.int .i64 op,.int .i64 y1,.int .i64 y2,.int .i64 y3,.int .i64 y4] 39)):=Aside0.mk (blk_set HD.out.1 0 (.int .i64 op));have P1:Aside0 (((w4.setCell ⟨w.heap.size + 1,0,none⟩ (.int .i64 op)).setCell ⟨w.heap.size + 1,4,none⟩ (.int .i64 8)).heap[w.heap.size + 1]? = some (.cells #[.int .i64 op,.int .i64 y1,.int .i64 y2,.int .i64 y3,.int .i64 8] 39)):=Aside0.mk (blk_set P0.out 4 (.int .i64 8));have P2:Aside0 (((w4.setCell ⟨w.heap.size + 1,0,none⟩ (.int .i64 op)).setCell ⟨w.heap.size + 1,4,none⟩ (.int .i64 8)).heap[w3.heap.size]? = some (.cells #[.int .i64 3,.int .i64 0,.int .i64 0,.int .i64 0,.int .i64 z] 39)):=Aside0.mk (blk_far (blk_far HD.out.2.1 (by simp;omega) _) (by simp;omega) _);have r0:=blk_cell HD.out.1 0;have r1:=blk_frozen HD.out.1 0;have r2:=blk_cell P0.out 4;have r3:=blk_frozen P0.out 4;have p0:=blk_cell P1.out 0;have p1:=blk_cell P1.out 1;have p2:=blk_cell P1.out 2;have p3:=blk_cell P1.out 3;have p4:=blk_cell P1.out 4;have q0:=blk_cell P2.out 0;have q1:=blk_cell P2.out 1;have q2:=blk_cell P2.out 2;have q3:=blk_cell P2.out 3;have q4:=blk_cell P2.out 4)
   go_region
   all_goals go_wp2
   all_goals go_ret2
   all_goals exact ⟨.slice (some ⟨w4.heap.size,0,none⟩) 2 2,rfl,Kd.R_drew (inst_lit2 _ w.heap.size _ ⟨op,y1,y2,y3,8⟩ ⟨3,0,0,0,z⟩ (by simp) (by simp;omega)),below_drew (below_step (below_set (below_set (below_then (below_then (below_alloc (below_alloc (Below.refl _ _) _) _) (by simp;omega) HB3.out) (by omega) HD.out.2.2.1) (by omega)) (by omega)) (below_alloc (Below.refl _ _) _))⟩
  ·go_enter Try.func28,Try.ntmps28
   go_wp2_with (go_at_call 46;refine (asm_way.calls w0 _ g _ c gf ga gl lv xs far at_ lab (HS.out.below (below_alloc (below_alloc (Below.refl _ _) _) _)) (HL.out.below (below_alloc (below_alloc (Below.refl _ _) _) _)) i hlt n (by rw [HX.out]) hn _).mono ?_;rw [HZ.out];rintro e w3 ⟨rfl,hb3⟩;have HB3:=Aside0.mk hb3;clear hb3;have hsz:w.heap.size + 1 + 1≤w3.heap.size:=zmb8_16;have HO:=Aside0.mk ((HB3.out.block (w.heap.size + 1) (by simp)).trans (heap_second w _ _));have o0:=blk_cell HO.out 0;have o1:=blk_cell HO.out 1;have o2:=blk_cell HO.out 2;have o3:=blk_cell HO.out 3;have o4:=blk_cell HO.out 4;have o5:=blk_frozen HO.out 4;have o6:=blk_frozen HO.out 0;have l9:w.heap.size + 1 < w3.heap.size:=hsz)
   go_wp2_with (go_at_call 16;refine (asm_Contrary.calls k y0 op _ HQ.out).mono ?_;rintro e w4 ⟨rfl,hd4⟩;have HD:=Aside0.mk (far_facts HO.out hd4);clear hd4;have q10:=HD.out.2.2.2;have P0:Aside0 ((w4.setCell ⟨w.heap.size + 1,0,none⟩ (.int .i64 op)).heap[w.heap.size + 1]? = some (.cells #[.int .i64 op,.int .i64 y1,.int .i64 y2,.int .i64 y3,.int .i64 y4] 39)):=Aside0.mk (blk_set HD.out.1 0 (.int .i64 op));have P1:Aside0 (((w4.setCell ⟨w.heap.size + 1,0,none⟩ (.int .i64 op)).setCell ⟨w.heap.size + 1,4,none⟩ (.int .i64 8)).heap[w.heap.size + 1]? = some (.cells #[.int .i64 op,.int .i64 y1,.int .i64 y2,.int .i64 y3,.int .i64 8] 39)):=Aside0.mk (blk_set P0.out 4 (.int .i64 8));have P2:Aside0 (((w4.setCell ⟨w.heap.size + 1,0,none⟩ (.int .i64 op)).setCell ⟨w.heap.size + 1,4,none⟩ (.int .i64 8)).heap[w3.heap.size]? = some (.cells #[.int .i64 3,.int .i64 0,.int .i64 0,.int .i64 0,.int .i64 z] 39)):=Aside0.mk (blk_far (blk_far HD.out.2.1 (by simp;omega) _) (by simp;omega) _);have r0:=blk_cell HD.out.1 0;have r1:=blk_frozen HD.out.1 0;have r2:=blk_cell P0.out 4;have r3:=blk_frozen P0.out 4;have p0:=blk_cell P1.out 0;have p1:=blk_cell P1.out 1;have p2:=blk_cell P1.out 2;have p3:=blk_cell P1.out 3;have p4:=blk_cell P1.out 4;have q0:=blk_cell P2.out 0;have q1:=blk_cell P2.out 1;have q2:=blk_cell P2.out 2;have q3:=blk_cell P2.out 3;have q4:=blk_cell P2.out 4)
   go_region
   all_goals go_wp2
   all_goals go_ret2
   all_goals exact ⟨.slice (some ⟨w4.heap.size,0,none⟩) 2 2,rfl,Kd.R_drew (inst_lit2 _ w.heap.size _ ⟨op,y1,y2,y3,8⟩ ⟨3,0,0,0,z⟩ (by simp) (by simp;omega)),below_drew (below_step (below_set (below_set (below_then (below_then (below_alloc (below_alloc (Below.refl _ _) _) _) (by simp;omega) HB3.out) (by omega) HD.out.2.2.1) (by omega)) (by omega)) (below_alloc (Below.refl _ _) _))⟩
def inst_bits.f (a0:Int) (a1:Int) (a2:Int):Option (Int):=if 0≤a1 then (if 0≤a2 then (some (Go.bits .and .u32 (shr .u32 a0 a1) (((shl .u32 1 a2) - 1) % 4294967296))) else (none)) else (none)
set_option maxHeartbeats 8000000 in
set_option maxRecDepth 100000 in
theorem inst_bits.calls (a0:Int) (a1:Int) (a2:Int) (r:Int) (w:World) (h:inst_bits.f a0 a1 a2 = some r) :
  Calls Try.prog 42 #[.int .u32 a0,.int .i64 a1,.int .i64 a2] w fun e w'=>e = .returned (.int .u32 r)∧Drawn0 w w':=by
 have H:(if 0≤a1 then (if 0≤a2 then (some (Go.bits .and .u32 (shr .u32 a0 a1) (((shl .u32 1 a2) - 1) % 4294967296))) else (none)) else (none)) = some r:=h
 clear h
 by_cases c4:0≤a1
 ·rw [if_pos c4] at H
  have c4b0:=eq_true c4
  have c4b1:decide (0≤a1) = true:=decide_eq_true c4
  clear c4
  obtain ⟨ji5,hji5⟩:∃ j_:Int,(shr .u32 a0 a1) = j_:=⟨_,rfl⟩
  replace H:(if 0≤a2 then (some (Go.bits .and .u32 (ji5) (((shl .u32 1 a2) - 1) % 4294967296))) else (none)) = some r:=by first|(rw [hji5] at H;exact H)|(simp only [hji5] at H ⊢;exact H)
  have hji5_:(a0 / 2 ^ min a1.toNat 32) = ji5:=hji5
  have hji5z:a1≤32→(a0 / 2 ^ a1.toNat) = ji5:=shr_small hji5
  by_cases c6:0≤a2
  ·rw [if_pos c6] at H
   have c6b0:=eq_true c6
   have c6b1:decide (0≤a2) = true:=decide_eq_true c6
   clear c6
   obtain ⟨ji7,hji7⟩:∃ j_:Int,(shl .u32 1 a2) = j_:=⟨_,rfl⟩
   replace H:(some (Go.bits .and .u32 (ji5) (((ji7) - 1) % 4294967296))) = some r:=by first|(rw [hji7] at H;exact H)|(simp only [hji7] at H ⊢;exact H)
   have hji7_:(IntKind.u32.wrap (1 * 2 ^ min a2.toNat 32)) = ji7:=hji7
   have hji7z:a2≤32→(IntKind.u32.wrap (1 * 2 ^ a2.toNat)) = ji7:=shl_small hji7
   have hji7u:(IntKind.u32.wrap (2 ^ min a2.toNat 32)) = ji7:=by have h_:=hji7_;rw [Int.one_mul] at h_;exact h_
   have hji7v:a2≤32→(IntKind.u32.wrap (2 ^ a2.toNat)) = ji7:=fun hle_=>by have h_:=hji7z hle_;rw [Int.one_mul] at h_;exact h_
   obtain rfl:=Option.some.inj H
   go_enter Try.func42,Try.ntmps42
   go_wp2
   repeat (go_quiet (fail);try go_wp2)
   go_ret
   exact ⟨by first|rfl|(simp;done)|(simp only [← hji5,← hji7] <;> (first|rfl|simp))|(simp [*];done),zmb8_2⟩
  ·rw [if_neg c6] at H
   exact absurd H (by simp)
 ·rw [if_neg c4] at H
  exact absurd H (by simp)
def inst_number.j0:Nat→Int→Int→Bool→Option (Int)
 | 0,_,_,_=>none
 | k + 1,x1,x5,x26=>if x26 = true then (some ((x1 * 1048576) % 4294967296)) else (if x5 = 83 then ((inst_bits.f x1 5 7).bind fun t140=>((inst_bits.f x1 0 5).bind fun t141=>(some (Go.bits .or .u32 ((t140 * 33554432) % 4294967296) ((t141 * 128) % 4294967296))))) else (if x5 = 66 then ((inst_bits.f x1 12 1).bind fun t142=>((inst_bits.f x1 5 6).bind fun t143=>((inst_bits.f x1 1 4).bind fun t144=>((inst_bits.f x1 11 1).bind fun t145=>(some (Go.bits .or .u32 (Go.bits .or .u32 (Go.bits .or .u32 ((t142 * 2147483648) % 4294967296) ((t143 * 33554432) % 4294967296)) ((t144 * 256) % 4294967296)) ((t145 * 128) % 4294967296))))))) else (some 0)))
def inst_number.f (k:Nat) (a0:Int) (a1:Int):Option (Int):=if a0 = 85 then (some a1) else (if a0 = 74 then ((inst_bits.f a1 20 1).bind fun t136=>((inst_bits.f a1 1 10).bind fun t137=>((inst_bits.f a1 11 1).bind fun t138=>((inst_bits.f a1 12 8).bind fun t139=>(some (Go.bits .or .u32 (Go.bits .or .u32 (Go.bits .or .u32 ((t136 * 2147483648) % 4294967296) ((t137 * 2097152) % 4294967296)) ((t138 * 1048576) % 4294967296)) ((t139 * 4096) % 4294967296))))))) else (if a0 = 73 then (inst_number.j0 k a1 a0 (a0 == 73)) else (inst_number.j0 k a1 a0 (a0 == 72))))
theorem inst_number.mono_l:∀ k,(∀ y0 y1 y2,LeO (inst_number.j0 k y0 y1 y2) (inst_number.j0 (k + 1) y0 y1 y2))
 | 0=>fun _ _ _ r h=>by simp [inst_number.j0] at h
 | k + 1=>by
  have ih0:=inst_number.mono_l k
  ·intro y0 y1 y2
   unfold inst_number.j0
   repeat' first
   | (with_reducible exact ih0 _ _ _)
   | (with_reducible exact LeO.refl _)
   | (with_reducible exact LeO.none _)
   | (with_reducible refine LeO.ite ?_ ?_)
   | (with_reducible refine LeO.bind ?_ (fun _=>?_))
   | exact ih0 _ _ _
   | exact LeO.none _
   | refine LeO.ite ?_ ?_
   | refine LeO.bind ?_ (fun _=>?_)
theorem inst_number.mono:∀ a0 a1 k,LeO (inst_number.f k a0 a1) (inst_number.f (k + 1) a0 a1):=by
 intro a0 a1 k
 have ih0:=inst_number.mono_l k
 unfold inst_number.f
 repeat' first
   | (with_reducible exact ih0 _ _ _)
   | (with_reducible exact LeO.refl _)
   | (with_reducible exact LeO.none _)
   | (with_reducible refine LeO.ite ?_ ?_)
   | (with_reducible refine LeO.bind ?_ (fun _=>?_))
   | exact ih0 _ _ _
   | exact LeO.none _
   | refine LeO.ite ?_ ?_
   | refine LeO.bind ?_ (fun _=>?_)
set_option maxHeartbeats 8000000 in
set_option maxRecDepth 100000 in
theorem inst_number.calls (k:Nat) (a0:Int) (a1:Int) (r:Int) (w:World) (h:inst_number.f k a0 a1 = some r) :
  Calls Try.prog 49 #[.int .u8 a0,.int .u32 a1] w fun e w'=>e = .returned (.int .u32 r)∧Drawn0 w w':=by
 have H:(if a0 = 85 then (some a1) else (if a0 = 74 then ((inst_bits.f a1 20 1).bind fun t136=>((inst_bits.f a1 1 10).bind fun t137=>((inst_bits.f a1 11 1).bind fun t138=>((inst_bits.f a1 12 8).bind fun t139=>(some (Go.bits .or .u32 (Go.bits .or .u32 (Go.bits .or .u32 ((t136 * 2147483648) % 4294967296) ((t137 * 2097152) % 4294967296)) ((t138 * 1048576) % 4294967296)) ((t139 * 4096) % 4294967296))))))) else (if a0 = 73 then (inst_number.j0 k a1 a0 (a0 == 73)) else (inst_number.j0 k a1 a0 (a0 == 72))))) = some r:=h
 clear h
 by_cases c3:a0 = 85
 ·rw [if_pos c3] at H
  have c3b0:(a0 == 85) = true:=beq_iff_eq.mpr c3
  have c3b1:(a0 != 85) = false:=bne_eq_false_iff_eq.mpr c3
  clear c3
  obtain rfl:=Option.some.inj H
  go_enter Try.func49,Try.ntmps49
  go_wp2
  go_ret
  exact ⟨zmb8_0,zmb8_2⟩
 ·rw [if_neg c3] at H
  have c3b0:(a0 == 85) = false:=beq_eq_false_iff_ne.mpr c3
  have c3b1:(a0 != 85) = true:=bne_iff_ne.mpr c3
  by_cases c4:a0 = 74
  ·rw [if_pos c4] at H
   have c4b0:(a0 == 74) = true:=beq_iff_eq.mpr c4
   have c4b1:(a0 != 74) = false:=bne_eq_false_iff_eq.mpr c4
   clear c4
   replace H:=Option.bind_eq_some_iff.mp H
   obtain ⟨t136,A50,H⟩:=H
   replace H:((inst_bits.f a1 1 10).bind fun t137=>((inst_bits.f a1 11 1).bind fun t138=>((inst_bits.f a1 12 8).bind fun t139=>(some (Go.bits .or .u32 (Go.bits .or .u32 (Go.bits .or .u32 ((t136 * 2147483648) % 4294967296) ((t137 * 2097152) % 4294967296)) ((t138 * 1048576) % 4294967296)) ((t139 * 4096) % 4294967296)))))) = some r:=H
   have A5:=Aside0.mk A50
   clear A50
   replace H:=Option.bind_eq_some_iff.mp H
   obtain ⟨t137,A60,H⟩:=H
   replace H:((inst_bits.f a1 11 1).bind fun t138=>((inst_bits.f a1 12 8).bind fun t139=>(some (Go.bits .or .u32 (Go.bits .or .u32 (Go.bits .or .u32 ((t136 * 2147483648) % 4294967296) ((t137 * 2097152) % 4294967296)) ((t138 * 1048576) % 4294967296)) ((t139 * 4096) % 4294967296))))) = some r:=H
   have A6:=Aside0.mk A60
   clear A60
   replace H:=Option.bind_eq_some_iff.mp H
   obtain ⟨t138,A70,H⟩:=H
   replace H:((inst_bits.f a1 12 8).bind fun t139=>(some (Go.bits .or .u32 (Go.bits .or .u32 (Go.bits .or .u32 ((t136 * 2147483648) % 4294967296) ((t137 * 2097152) % 4294967296)) ((t138 * 1048576) % 4294967296)) ((t139 * 4096) % 4294967296)))) = some r:=H
   have A7:=Aside0.mk A70
   clear A70
   replace H:=Option.bind_eq_some_iff.mp H
   obtain ⟨t139,A80,H⟩:=H
   replace H:(some (Go.bits .or .u32 (Go.bits .or .u32 (Go.bits .or .u32 ((t136 * 2147483648) % 4294967296) ((t137 * 2097152) % 4294967296)) ((t138 * 1048576) % 4294967296)) ((t139 * 4096) % 4294967296))) = some r:=H
   have A8:=Aside0.mk A80
   clear A80
   obtain rfl:=Option.some.inj H
   go_enter Try.func49,Try.ntmps49
   go_wp2_with (first|((with_reducible refine gate_callee (f:=42) rfl ?_);refine goesL_ (some 12) rfl rfl Try.func42 (by kernel_rfl) rfl #[.int .u32 a1,.int .i64 20,.int .i64 1] rfl zmb8_3 ?_;(with_reducible refine (inst_bits.calls a1 20 1 t136 _ A5.out).mono ?_);rintro e w' ⟨rfl,⟨nd,rfl⟩⟩;refine ⟨_,rfl,?_⟩)|((with_reducible refine gate_callee (f:=42) rfl ?_);refine goesL_ (some 15) rfl rfl Try.func42 (by kernel_rfl) rfl #[.int .u32 a1,.int .i64 1,.int .i64 10] rfl zmb8_3 ?_;(with_reducible refine (inst_bits.calls a1 1 10 t137 _ A6.out).mono ?_);rintro e w' ⟨rfl,⟨nd,rfl⟩⟩;refine ⟨_,rfl,?_⟩)|((with_reducible refine gate_callee (f:=42) rfl ?_);refine goesL_ (some 19) rfl rfl Try.func42 (by kernel_rfl) rfl #[.int .u32 a1,.int .i64 11,.int .i64 1] rfl zmb8_3 ?_;(with_reducible refine (inst_bits.calls a1 11 1 t138 _ A7.out).mono ?_);rintro e w' ⟨rfl,⟨nd,rfl⟩⟩;refine ⟨_,rfl,?_⟩)|((with_reducible refine gate_callee (f:=42) rfl ?_);refine goesL_ (some 23) rfl rfl Try.func42 (by kernel_rfl) rfl #[.int .u32 a1,.int .i64 12,.int .i64 8] rfl zmb8_3 ?_;(with_reducible refine (inst_bits.calls a1 12 8 t139 _ A8.out).mono ?_);rintro e w' ⟨rfl,⟨nd,rfl⟩⟩;refine ⟨_,rfl,?_⟩))
   go_ret
   exact ⟨zmb8_0,zmb8_2⟩
  ·rw [if_neg c4] at H
   have c4b0:(a0 == 74) = false:=beq_eq_false_iff_ne.mpr c4
   have c4b1:(a0 != 74) = true:=bne_iff_ne.mpr c4
   have HC9:=Aside0.mk H
   clear H
   go_enter Try.func49,Try.ntmps49
   go_upto_if 26 with (fail)
   go_cut [26] (fun v26 wc=>∃ (kq:Nat) (x26_8:Bool),v26 = .bool x26_8∧Aside0 (inst_number.j0 kq a1 a0 x26_8 = some r)∧Aside0 (kq≤k)∧Drawn0 w wc)
   case first =>
    have H:=HC9.out
    clear HC9
    by_cases c10:a0 = 73
    ·rw [if_pos c10] at H
     have c10b0:(a0 == 73) = true:=beq_iff_eq.mpr c10
     have c10b1:(a0 != 73) = false:=bne_eq_false_iff_eq.mpr c10
     clear c10
     (first|rw [c10b0]|(simp only [i64_w,i32_w];rw [c10b0])|skip)
     have H':=Aside0.mk H
     clear H
     go_wp2
     go_meet
     case rel=>exact ⟨_,((a0 == 73)),zmb8_0,H',⟨zmb8_1⟩,zmb8_2⟩
    ·rw [if_neg c10] at H
     have c10b0:(a0 == 73) = false:=beq_eq_false_iff_ne.mpr c10
     have c10b1:(a0 != 73) = true:=bne_iff_ne.mpr c10
     (first|rw [c10b0]|(simp only [i64_w,i32_w];rw [c10b0])|skip)
     have H':=Aside0.mk H
     clear H
     go_wp2
     go_meet
     case rel=>exact ⟨_,((a0 == 72)),zmb8_0,H',⟨zmb8_1⟩,zmb8_2⟩
   case rest =>
    clear HC9
    try clear c1
    try clear p2
    try clear c3
    try clear c3b0
    try clear c3b1
    try clear c4
    try clear c4b0
    try clear c4b1
    try clear c10
    try clear c10b0
    try clear c10b1
    obtain ⟨kq,x26_8,rfl,HA,HJ8,⟨mc8,rfl⟩⟩:=hcut
    cases kq with
    | zero=>exact absurd HA.out (by simp [inst_number.j0])
    | succ kj8 =>
     have H:=HA.out
     clear HA
     simp only [inst_number.j0] at H
     by_cases c11:x26_8 = true
     ·subst c11
      have H1:(some ((a1 * 1048576) % 4294967296)) = some r:=by rw [if_pos rfl] at H;exact H
      clear H
      have H:=H1
      clear H1
      obtain rfl:=Option.some.inj H
      go_wp2
      go_ret
      exact ⟨zmb8_0,zmb8_2⟩
     ·replace c11:=Bool.eq_false_iff.mpr c11
      subst c11
      have H1:(if a0 = 83 then ((inst_bits.f a1 5 7).bind fun t140=>((inst_bits.f a1 0 5).bind fun t141=>(some (Go.bits .or .u32 ((t140 * 33554432) % 4294967296) ((t141 * 128) % 4294967296))))) else (if a0 = 66 then ((inst_bits.f a1 12 1).bind fun t142=>((inst_bits.f a1 5 6).bind fun t143=>((inst_bits.f a1 1 4).bind fun t144=>((inst_bits.f a1 11 1).bind fun t145=>(some (Go.bits .or .u32 (Go.bits .or .u32 (Go.bits .or .u32 ((t142 * 2147483648) % 4294967296) ((t143 * 33554432) % 4294967296)) ((t144 * 256) % 4294967296)) ((t145 * 128) % 4294967296))))))) else (some 0))) = some r:=by rw [if_neg (show ¬ (false = true) by decide)] at H;exact H
      clear H
      have H:=H1
      clear H1
      by_cases c12:a0 = 83
      ·rw [if_pos c12] at H
       have c12b0:(a0 == 83) = true:=beq_iff_eq.mpr c12
       have c12b1:(a0 != 83) = false:=bne_eq_false_iff_eq.mpr c12
       clear c12
       replace H:=Option.bind_eq_some_iff.mp H
       obtain ⟨t140,A130,H⟩:=H
       replace H:((inst_bits.f a1 0 5).bind fun t141=>(some (Go.bits .or .u32 ((t140 * 33554432) % 4294967296) ((t141 * 128) % 4294967296)))) = some r:=H
       have A13:=Aside0.mk A130
       clear A130
       replace H:=Option.bind_eq_some_iff.mp H
       obtain ⟨t141,A140,H⟩:=H
       replace H:(some (Go.bits .or .u32 ((t140 * 33554432) % 4294967296) ((t141 * 128) % 4294967296))) = some r:=H
       have A14:=Aside0.mk A140
       clear A140
       obtain rfl:=Option.some.inj H
       go_wp2_with (first|((with_reducible refine gate_callee (f:=42) rfl ?_);refine goesL_ (some 34) rfl rfl Try.func42 (by kernel_rfl) rfl #[.int .u32 a1,.int .i64 5,.int .i64 7] rfl zmb8_3 ?_;(with_reducible refine (inst_bits.calls a1 5 7 t140 _ A13.out).mono ?_);rintro e w' ⟨rfl,⟨nd,rfl⟩⟩;refine ⟨_,rfl,?_⟩)|((with_reducible refine gate_callee (f:=42) rfl ?_);refine goesL_ (some 37) rfl rfl Try.func42 (by kernel_rfl) rfl #[.int .u32 a1,.int .i64 0,.int .i64 5] rfl zmb8_3 ?_;(with_reducible refine (inst_bits.calls a1 0 5 t141 _ A14.out).mono ?_);rintro e w' ⟨rfl,⟨nd,rfl⟩⟩;refine ⟨_,rfl,?_⟩))
       go_ret
       exact ⟨zmb8_0,zmb8_2⟩
      ·rw [if_neg c12] at H
       have c12b0:(a0 == 83) = false:=beq_eq_false_iff_ne.mpr c12
       have c12b1:(a0 != 83) = true:=bne_iff_ne.mpr c12
       by_cases c15:a0 = 66
       ·rw [if_pos c15] at H
        have c15b0:(a0 == 66) = true:=beq_iff_eq.mpr c15
        have c15b1:(a0 != 66) = false:=bne_eq_false_iff_eq.mpr c15
        clear c15
        replace H:=Option.bind_eq_some_iff.mp H
        obtain ⟨t142,A160,H⟩:=H
        replace H:((inst_bits.f a1 5 6).bind fun t143=>((inst_bits.f a1 1 4).bind fun t144=>((inst_bits.f a1 11 1).bind fun t145=>(some (Go.bits .or .u32 (Go.bits .or .u32 (Go.bits .or .u32 ((t142 * 2147483648) % 4294967296) ((t143 * 33554432) % 4294967296)) ((t144 * 256) % 4294967296)) ((t145 * 128) % 4294967296)))))) = some r:=H
        have A16:=Aside0.mk A160
        clear A160
        replace H:=Option.bind_eq_some_iff.mp H
        obtain ⟨t143,A170,H⟩:=H
        replace H:((inst_bits.f a1 1 4).bind fun t144=>((inst_bits.f a1 11 1).bind fun t145=>(some (Go.bits .or .u32 (Go.bits .or .u32 (Go.bits .or .u32 ((t142 * 2147483648) % 4294967296) ((t143 * 33554432) % 4294967296)) ((t144 * 256) % 4294967296)) ((t145 * 128) % 4294967296))))) = some r:=H
        have A17:=Aside0.mk A170
        clear A170
        replace H:=Option.bind_eq_some_iff.mp H
        obtain ⟨t144,A180,H⟩:=H
        replace H:((inst_bits.f a1 11 1).bind fun t145=>(some (Go.bits .or .u32 (Go.bits .or .u32 (Go.bits .or .u32 ((t142 * 2147483648) % 4294967296) ((t143 * 33554432) % 4294967296)) ((t144 * 256) % 4294967296)) ((t145 * 128) % 4294967296)))) = some r:=H
        have A18:=Aside0.mk A180
        clear A180
        replace H:=Option.bind_eq_some_iff.mp H
        obtain ⟨t145,A190,H⟩:=H
        replace H:(some (Go.bits .or .u32 (Go.bits .or .u32 (Go.bits .or .u32 ((t142 * 2147483648) % 4294967296) ((t143 * 33554432) % 4294967296)) ((t144 * 256) % 4294967296)) ((t145 * 128) % 4294967296))) = some r:=H
        have A19:=Aside0.mk A190
        clear A190
        obtain rfl:=Option.some.inj H
        go_wp2_with (first|((with_reducible refine gate_callee (f:=42) rfl ?_);refine goesL_ (some 43) rfl rfl Try.func42 (by kernel_rfl) rfl #[.int .u32 a1,.int .i64 12,.int .i64 1] rfl zmb8_3 ?_;(with_reducible refine (inst_bits.calls a1 12 1 t142 _ A16.out).mono ?_);rintro e w' ⟨rfl,⟨nd,rfl⟩⟩;refine ⟨_,rfl,?_⟩)|((with_reducible refine gate_callee (f:=42) rfl ?_);refine goesL_ (some 46) rfl rfl Try.func42 (by kernel_rfl) rfl #[.int .u32 a1,.int .i64 5,.int .i64 6] rfl zmb8_3 ?_;(with_reducible refine (inst_bits.calls a1 5 6 t143 _ A17.out).mono ?_);rintro e w' ⟨rfl,⟨nd,rfl⟩⟩;refine ⟨_,rfl,?_⟩)|((with_reducible refine gate_callee (f:=42) rfl ?_);refine goesL_ (some 50) rfl rfl Try.func42 (by kernel_rfl) rfl #[.int .u32 a1,.int .i64 1,.int .i64 4] rfl zmb8_3 ?_;(with_reducible refine (inst_bits.calls a1 1 4 t144 _ A18.out).mono ?_);rintro e w' ⟨rfl,⟨nd,rfl⟩⟩;refine ⟨_,rfl,?_⟩)|((with_reducible refine gate_callee (f:=42) rfl ?_);refine goesL_ (some 54) rfl rfl Try.func42 (by kernel_rfl) rfl #[.int .u32 a1,.int .i64 11,.int .i64 1] rfl zmb8_3 ?_;(with_reducible refine (inst_bits.calls a1 11 1 t145 _ A19.out).mono ?_);rintro e w' ⟨rfl,⟨nd,rfl⟩⟩;refine ⟨_,rfl,?_⟩))
        go_ret
        exact ⟨zmb8_0,zmb8_2⟩
       ·rw [if_neg c15] at H
        have c15b0:(a0 == 66) = false:=beq_eq_false_iff_ne.mpr c15
        have c15b1:(a0 != 66) = true:=bne_iff_ne.mpr c15
        obtain rfl:=Option.some.inj H
        go_wp2
        go_ret
        exact ⟨zmb8_0,zmb8_2⟩
def inst_Encode.f (k:Nat) (a0_0:Int) (a0_1:Int) (a0_2:Int) (a0_3:Int) (a0_4:Int):Option (Int × Int):=(inst_Right.f k a0_0 a0_1 a0_2 a0_3 a0_4).bind fun t147=>(if t147 = true then ((inst_of.f a0_0).bind fun bt148=>((inst_number.f k bt148.2.1 ((a0_4) % 4294967296)).bind fun t154=>(some (Go.bits .or .u32 (Go.bits .or .u32 (Go.bits .or .u32 (Go.bits .or .u32 bt148.2.2.1 ((bt148.2.2.2.1 * 4096) % 4294967296)) ((bt148.2.2.2.2 * 33554432) % 4294967296)) (Go.bits .or .u32 (Go.bits .or .u32 ((((a0_1) % 4294967296) * 128) % 4294967296) ((((a0_2) % 4294967296) * 32768) % 4294967296)) ((((a0_3) % 4294967296) * 1048576) % 4294967296))) t154,0)))) else (some (0,1)))
theorem inst_Encode.mono:∀ a0 a1 a2 a3 a4 k,LeO (inst_Encode.f k a0 a1 a2 a3 a4) (inst_Encode.f (k + 1) a0 a1 a2 a3 a4):=by
 intro a0 a1 a2 a3 a4 k
 unfold inst_Encode.f
 repeat' first
   | (with_reducible exact inst_Right.mono _ _ _ _ _ _)
   | (with_reducible exact inst_number.mono _ _ _)
   | (with_reducible exact LeO.refl _)
   | (with_reducible exact LeO.none _)
   | (with_reducible refine LeO.ite ?_ ?_)
   | (with_reducible refine LeO.bind ?_ (fun _=>?_))
   | exact inst_Right.mono _ _ _ _ _ _
   | exact inst_number.mono _ _ _
   | exact LeO.none _
   | refine LeO.ite ?_ ?_
   | refine LeO.bind ?_ (fun _=>?_)
set_option maxHeartbeats 8000000 in
set_option maxRecDepth 100000 in
theorem inst_Encode.calls (k:Nat) (a0_0:Int) (a0_1:Int) (a0_2:Int) (a0_3:Int) (a0_4:Int) (r1:Int) (r2:Int) (w:World) (h:inst_Encode.f k a0_0 a0_1 a0_2 a0_3 a0_4 = some (r1,r2)) :
  Calls Try.prog 29 #[.agg #[.int .i64 a0_0,.int .i64 a0_1,.int .i64 a0_2,.int .i64 a0_3,.int .i64 a0_4]] w fun e w'=>e = .returned (.tuple #[.int .u32 r1,.int .i64 r2])∧Below w.heap.size w w':=by
 have hu39:=Try.underlying39
 have hu80:=Try.underlying80
 have HB:=Aside0.mk (Below.refl w.heap.size w)
 have H:((inst_Right.f k a0_0 a0_1 a0_2 a0_3 a0_4).bind fun t147=>(if t147 = true then ((inst_of.f a0_0).bind fun bt148=>((inst_number.f k bt148.2.1 ((a0_4) % 4294967296)).bind fun t154=>(some (Go.bits .or .u32 (Go.bits .or .u32 (Go.bits .or .u32 (Go.bits .or .u32 bt148.2.2.1 ((bt148.2.2.2.1 * 4096) % 4294967296)) ((bt148.2.2.2.2 * 33554432) % 4294967296)) (Go.bits .or .u32 (Go.bits .or .u32 ((((a0_1) % 4294967296) * 128) % 4294967296) ((((a0_2) % 4294967296) * 32768) % 4294967296)) ((((a0_3) % 4294967296) * 1048576) % 4294967296))) t154,0)))) else (some (0,1)))) = some (r1,r2):=h
 clear h
 replace H:=Option.bind_eq_some_iff.mp H
 obtain ⟨t147,A20,H⟩:=H
 replace H:(if t147 = true then ((inst_of.f a0_0).bind fun bt148=>((inst_number.f k bt148.2.1 ((a0_4) % 4294967296)).bind fun t154=>(some (Go.bits .or .u32 (Go.bits .or .u32 (Go.bits .or .u32 (Go.bits .or .u32 bt148.2.2.1 ((bt148.2.2.2.1 * 4096) % 4294967296)) ((bt148.2.2.2.2 * 33554432) % 4294967296)) (Go.bits .or .u32 (Go.bits .or .u32 ((((a0_1) % 4294967296) * 128) % 4294967296) ((((a0_2) % 4294967296) * 32768) % 4294967296)) ((((a0_3) % 4294967296) * 1048576) % 4294967296))) t154,0)))) else (some (0,1))) = some (r1,r2):=H
 have A2:=Aside0.mk A20
 clear A20
 by_cases c3:t147 = true
 ·subst c3
  have H1:((inst_of.f a0_0).bind fun bt148=>((inst_number.f k bt148.2.1 ((a0_4) % 4294967296)).bind fun t154=>(some (Go.bits .or .u32 (Go.bits .or .u32 (Go.bits .or .u32 (Go.bits .or .u32 bt148.2.2.1 ((bt148.2.2.2.1 * 4096) % 4294967296)) ((bt148.2.2.2.2 * 33554432) % 4294967296)) (Go.bits .or .u32 (Go.bits .or .u32 ((((a0_1) % 4294967296) * 128) % 4294967296) ((((a0_2) % 4294967296) * 32768) % 4294967296)) ((((a0_3) % 4294967296) * 1048576) % 4294967296))) t154,0)))) = some (r1,r2):=by rw [if_pos rfl] at H;exact H
  clear H
  have H:=H1
  clear H1
  replace H:=Option.bind_eq_some_iff.mp H
  obtain ⟨⟨t148,t149,t150,t151,t152⟩,A40,H⟩:=H
  replace H:((inst_number.f k t149 ((a0_4) % 4294967296)).bind fun t154=>(some (Go.bits .or .u32 (Go.bits .or .u32 (Go.bits .or .u32 (Go.bits .or .u32 t150 ((t151 * 4096) % 4294967296)) ((t152 * 33554432) % 4294967296)) (Go.bits .or .u32 (Go.bits .or .u32 ((((a0_1) % 4294967296) * 128) % 4294967296) ((((a0_2) % 4294967296) * 32768) % 4294967296)) ((((a0_3) % 4294967296) * 1048576) % 4294967296))) t154,0))) = some (r1,r2):=H
  have A4:=Aside0.mk A40
  clear A40
  replace H:=Option.bind_eq_some_iff.mp H
  obtain ⟨t154,A50,H⟩:=H
  replace H:(some (Go.bits .or .u32 (Go.bits .or .u32 (Go.bits .or .u32 (Go.bits .or .u32 t150 ((t151 * 4096) % 4294967296)) ((t152 * 33554432) % 4294967296)) (Go.bits .or .u32 (Go.bits .or .u32 ((((a0_1) % 4294967296) * 128) % 4294967296) ((((a0_2) % 4294967296) * 32768) % 4294967296)) ((((a0_3) % 4294967296) * 1048576) % 4294967296))) t154,0)) = some (r1,r2):=H
  have A5:=Aside0.mk A50
  clear A50
  simp only [Option.some.injEq,Prod.mk.injEq] at H
  obtain ⟨rfl,rfl⟩:=H
  go_enter Try.func29,Try.ntmps29
  go_wp2_with (first|((with_reducible refine gate_dst (N:=1) rfl ?_);refine box_event ?hg (N:=1) ?hd (cs:=#[.int .i64 a0_0,.int .i64 a0_1,.int .i64 a0_2,.int .i64 a0_3,.int .i64 a0_4]) (t:=39) ?hr ?_;(case hd=>rfl);(case hg=>rfl);(case hr=>first|(go_simp;done)|(go_simp;rfl));intro gb146 hg w6 hbox hb;have n0_:=Aside0.mk (below_step zmb8_4 hb);have n1_:=Aside0.mk (hbox);have n2_:=Aside0.mk ((by rw [hg];exact (below_size zmb8_4):w.heap.size≤gb146));have n3_:=Aside0.mk ((by rw [hg];exact (below_size zmb8_4):w.heap.size≤gb146));clear HB;have HB:=n0_;have BK146:=n1_;have GW146:=n2_;have GE146:=n3_;clear n0_ n1_ n2_ n3_;clear hb hbox hg;have hcz7_0:w6.cell? ⟨gb146,0,none⟩ = some (.int .i64 a0_0):=(blk_cell BK146.out 0).trans rfl;have hcz7_1:w6.cell? ⟨gb146,1,none⟩ = some (.int .i64 a0_1):=(blk_cell BK146.out 1).trans rfl;have hcz7_2:w6.cell? ⟨gb146,2,none⟩ = some (.int .i64 a0_2):=(blk_cell BK146.out 2).trans rfl;have hcz7_3:w6.cell? ⟨gb146,3,none⟩ = some (.int .i64 a0_3):=(blk_cell BK146.out 3).trans rfl;have hcz7_4:w6.cell? ⟨gb146,4,none⟩ = some (.int .i64 a0_4):=(blk_cell BK146.out 4).trans rfl;have hfz7_0:=blk_frozen BK146.out 0;have hfz7_1:=blk_frozen BK146.out 1;have hfz7_2:=blk_frozen BK146.out 2;have hfz7_3:=blk_frozen BK146.out 3;have hfz7_4:=blk_frozen BK146.out 4)|((with_reducible refine gate_callee (f:=35) rfl ?_);refine goesL_ (some 7) rfl rfl Try.func35 (by kernel_rfl) rfl #[.agg #[.int .i64 a0_0,.int .i64 a0_1,.int .i64 a0_2,.int .i64 a0_3,.int .i64 a0_4]] rfl zmb8_3 ?_;(with_reducible refine (inst_Right.calls k a0_0 a0_1 a0_2 a0_3 a0_4 true _ A2.out).mono ?_);rintro e w8 ⟨rfl,hb⟩;refine ⟨_,rfl,?_⟩;have n0_:=Aside0.mk (blk_below (g:=gb146) (o:=.cells #[.int .i64 a0_0,.int .i64 a0_1,.int .i64 a0_2,.int .i64 a0_3,.int .i64 a0_4] 39 (0,0)) zmb8_17 hb);have n1_:=Aside0.mk (below_step zmb8_18 hb);clear BK146 HB;have BK146:=n0_;have HB:=n1_;clear n0_ n1_;(try clear hb);(try clear hb2);(try clear hk);(try clear hi);have hcz9_0:w8.cell? ⟨gb146,0,none⟩ = some (.int .i64 a0_0):=(blk_cell BK146.out 0).trans rfl;have hcz9_1:w8.cell? ⟨gb146,1,none⟩ = some (.int .i64 a0_1):=(blk_cell BK146.out 1).trans rfl;have hcz9_2:w8.cell? ⟨gb146,2,none⟩ = some (.int .i64 a0_2):=(blk_cell BK146.out 2).trans rfl;have hcz9_3:w8.cell? ⟨gb146,3,none⟩ = some (.int .i64 a0_3):=(blk_cell BK146.out 3).trans rfl;have hcz9_4:w8.cell? ⟨gb146,4,none⟩ = some (.int .i64 a0_4):=(blk_cell BK146.out 4).trans rfl;have hfz9_0:=blk_frozen BK146.out 0;have hfz9_1:=blk_frozen BK146.out 1;have hfz9_2:=blk_frozen BK146.out 2;have hfz9_3:=blk_frozen BK146.out 3;have hfz9_4:=blk_frozen BK146.out 4)|((with_reducible refine gate_callee (f:=48) rfl ?_);refine goesL_ (some 11) rfl rfl Try.func48 (by kernel_rfl) rfl #[.int .i64 a0_0] rfl zmb8_3 ?_;(with_reducible refine (inst_of.calls a0_0 t148 t149 t150 t151 t152 _ A4.out).mono ?_);rintro e w10 ⟨rfl,hb⟩;refine ⟨_,rfl,?_⟩;have n0_:=Aside0.mk (blk_below (g:=gb146) (o:=.cells #[.int .i64 a0_0,.int .i64 a0_1,.int .i64 a0_2,.int .i64 a0_3,.int .i64 a0_4] 39 (0,0)) zmb8_17 hb);have n1_:=Aside0.mk (below_step zmb8_18 hb);clear BK146 HB;have BK146:=n0_;have HB:=n1_;clear n0_ n1_;(try clear hb);(try clear hb2);(try clear hk);(try clear hi))|((with_reducible refine gate_dst (N:=4) rfl ?_);refine box_event ?hg (N:=4) ?hd (cs:=#[.string (⟨#[]⟩:ByteArray),.int .u8 0,.int .u32 0,.int .u32 0,.int .u32 0]) (t:=80) ?hr ?_;(case hd=>rfl);(case hg=>rfl);(case hr=>first|(go_simp;done)|(go_simp;rfl));intro gb153 hg w11 hbox hb;have n0_:=Aside0.mk (blk_below (g:=gb146) (o:=.cells #[.int .i64 a0_0,.int .i64 a0_1,.int .i64 a0_2,.int .i64 a0_3,.int .i64 a0_4] 39 (0,0)) zmb8_17 hb);have n1_:=Aside0.mk (below_step zmb8_18 hb);have n2_:=Aside0.mk (hbox);have n3_:=Aside0.mk ((by rw [hg];exact (below_size zmb8_18):w.heap.size≤gb153));have n4_:=Aside0.mk ((by rw [hg];exact (below_size zmb8_18):w.heap.size≤gb153));have n5_:=Aside0.mk ((by rw [hg];exact Nat.ne_of_lt (blk_lt (g:=gb146) (o:=.cells #[.int .i64 a0_0,.int .i64 a0_1,.int .i64 a0_2,.int .i64 a0_3,.int .i64 a0_4] 39 (0,0)) zmb8_17):gb146≠gb153));have n6_:=Aside0.mk ((by rw [hg];exact Nat.ne_of_gt (blk_lt (g:=gb146) (o:=.cells #[.int .i64 a0_0,.int .i64 a0_1,.int .i64 a0_2,.int .i64 a0_3,.int .i64 a0_4] 39 (0,0)) zmb8_17):gb153≠gb146));clear BK146 HB;have BK146:=n0_;have HB:=n1_;have BK153:=n2_;have GW153:=n3_;have GE153:=n4_;have NB146_153:=n5_;have NB153_146:=n6_;clear n0_ n1_ n2_ n3_ n4_ n5_ n6_;clear hb hbox hg;have hnb12:=NB153_146.out;have hnc12:=NB146_153.out;have hcz13_0:w11.cell? ⟨gb153,0,none⟩ = some (.string (⟨#[]⟩:ByteArray)):=(blk_cell BK153.out 0).trans rfl;have hcz13_1:w11.cell? ⟨gb153,1,none⟩ = some (.int .u8 0):=(blk_cell BK153.out 1).trans rfl;have hcz13_2:w11.cell? ⟨gb153,2,none⟩ = some (.int .u32 0):=(blk_cell BK153.out 2).trans rfl;have hcz13_3:w11.cell? ⟨gb153,3,none⟩ = some (.int .u32 0):=(blk_cell BK153.out 3).trans rfl;have hcz13_4:w11.cell? ⟨gb153,4,none⟩ = some (.int .u32 0):=(blk_cell BK153.out 4).trans rfl;have hfz13_0:=blk_frozen BK153.out 0;have hfz13_1:=blk_frozen BK153.out 1;have hfz13_2:=blk_frozen BK153.out 2;have hfz13_3:=blk_frozen BK153.out 3;have hfz13_4:=blk_frozen BK153.out 4;have hcz14_0:w11.cell? ⟨gb146,0,none⟩ = some (.int .i64 a0_0):=(blk_cell BK146.out 0).trans rfl;have hcz14_1:w11.cell? ⟨gb146,1,none⟩ = some (.int .i64 a0_1):=(blk_cell BK146.out 1).trans rfl;have hcz14_2:w11.cell? ⟨gb146,2,none⟩ = some (.int .i64 a0_2):=(blk_cell BK146.out 2).trans rfl;have hcz14_3:w11.cell? ⟨gb146,3,none⟩ = some (.int .i64 a0_3):=(blk_cell BK146.out 3).trans rfl;have hcz14_4:w11.cell? ⟨gb146,4,none⟩ = some (.int .i64 a0_4):=(blk_cell BK146.out 4).trans rfl;have hfz14_0:=blk_frozen BK146.out 0;have hfz14_1:=blk_frozen BK146.out 1;have hfz14_2:=blk_frozen BK146.out 2;have hfz14_3:=blk_frozen BK146.out 3;have hfz14_4:=blk_frozen BK146.out 4)|((with_reducible refine gate_callee (f:=49) rfl ?_);refine goesL_ (some 44) rfl rfl Try.func49 (by kernel_rfl) rfl #[.int .u8 t149,.int .u32 ((a0_4) % 4294967296)] rfl zmb8_3 ?_;(with_reducible refine (inst_number.calls k t149 ((a0_4) % 4294967296) t154 _ A5.out).mono ?_);rintro e w' ⟨rfl,⟨nd,rfl⟩⟩;refine ⟨_,rfl,?_⟩))
  go_ret2
  exact ⟨zmb8_5,by repeat (first|(with_reducible first|exact HB.out|apply below_alloc|apply pw_below_drewN|apply below_drew1|refine below_set ?_ GE146.out|refine below_set ?_ GE153.out)|exact HB.out)⟩
 ·replace c3:=Bool.eq_false_iff.mpr c3
  subst c3
  have H1:(some (0,1)) = some (r1,r2):=by rw [if_neg (show ¬ (false = true) by decide)] at H;exact H
  clear H
  have H:=H1
  clear H1
  simp only [Option.some.injEq,Prod.mk.injEq] at H
  obtain ⟨rfl,rfl⟩:=H
  go_enter Try.func29,Try.ntmps29
  go_wp2_with (first|((with_reducible refine gate_dst (N:=1) rfl ?_);refine box_event ?hg (N:=1) ?hd (cs:=#[.int .i64 a0_0,.int .i64 a0_1,.int .i64 a0_2,.int .i64 a0_3,.int .i64 a0_4]) (t:=39) ?hr ?_;(case hd=>rfl);(case hg=>rfl);(case hr=>first|(go_simp;done)|(go_simp;rfl));intro gb146 hg w15 hbox hb;have n0_:=Aside0.mk (below_step zmb8_4 hb);have n1_:=Aside0.mk (hbox);have n2_:=Aside0.mk ((by rw [hg];exact (below_size zmb8_4):w.heap.size≤gb146));have n3_:=Aside0.mk ((by rw [hg];exact (below_size zmb8_4):w.heap.size≤gb146));clear HB;have HB:=n0_;have BK146:=n1_;have GW146:=n2_;have GE146:=n3_;clear n0_ n1_ n2_ n3_;clear hb hbox hg;have hcz16_0:w15.cell? ⟨gb146,0,none⟩ = some (.int .i64 a0_0):=(blk_cell BK146.out 0).trans rfl;have hcz16_1:w15.cell? ⟨gb146,1,none⟩ = some (.int .i64 a0_1):=(blk_cell BK146.out 1).trans rfl;have hcz16_2:w15.cell? ⟨gb146,2,none⟩ = some (.int .i64 a0_2):=(blk_cell BK146.out 2).trans rfl;have hcz16_3:w15.cell? ⟨gb146,3,none⟩ = some (.int .i64 a0_3):=(blk_cell BK146.out 3).trans rfl;have hcz16_4:w15.cell? ⟨gb146,4,none⟩ = some (.int .i64 a0_4):=(blk_cell BK146.out 4).trans rfl;have hfz16_0:=blk_frozen BK146.out 0;have hfz16_1:=blk_frozen BK146.out 1;have hfz16_2:=blk_frozen BK146.out 2;have hfz16_3:=blk_frozen BK146.out 3;have hfz16_4:=blk_frozen BK146.out 4)|((with_reducible refine gate_callee (f:=35) rfl ?_);refine goesL_ (some 7) rfl rfl Try.func35 (by kernel_rfl) rfl #[.agg #[.int .i64 a0_0,.int .i64 a0_1,.int .i64 a0_2,.int .i64 a0_3,.int .i64 a0_4]] rfl zmb8_3 ?_;(with_reducible refine (inst_Right.calls k a0_0 a0_1 a0_2 a0_3 a0_4 false _ A2.out).mono ?_);rintro e w17 ⟨rfl,hb⟩;refine ⟨_,rfl,?_⟩;have n0_:=Aside0.mk (blk_below (g:=gb146) (o:=.cells #[.int .i64 a0_0,.int .i64 a0_1,.int .i64 a0_2,.int .i64 a0_3,.int .i64 a0_4] 39 (0,0)) zmb8_17 hb);have n1_:=Aside0.mk (below_step zmb8_18 hb);clear BK146 HB;have BK146:=n0_;have HB:=n1_;clear n0_ n1_;(try clear hb);(try clear hb2);(try clear hk);(try clear hi)))
  go_ret2
  exact ⟨zmb8_5,zmb8_18⟩
end Go.Proofs.Ytecbponmpinnoaa.P
end
section
namespace Go.Proofs.Ytecbponmpinnoaa.P
open Go.RowKit Go.Proofs.YtecbponmpinnoaaW.PrintWords Go.Proofs.YtecbponmpinnoaaW.PrintLast Go.Proofs.YtecbponmpinnoaaW.PrintMore
attribute [local go_sem] max2_int min2_int max_two min_two max_three min_three max_four min_four   
set_option linter.unusedVariables false
set_option linter.unusedSimpArgs false
end Go.Proofs.Ytecbponmpinnoaa.P
end
