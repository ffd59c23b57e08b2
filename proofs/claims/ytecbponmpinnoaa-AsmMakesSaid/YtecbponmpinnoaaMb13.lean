/- A claim's text, put together by a program of this session (wip/tools/shake.py): the declarations that the claim needs. -/
import Derived.Test.YtecbponmpinnoaaMb0
import Derived.Test.YtecbponmpinnoaaMb1
import Derived.Test.YtecbponmpinnoaaMb2
import Derived.Test.YtecbponmpinnoaaMb3
import Derived.Test.YtecbponmpinnoaaMb4
import Derived.Test.YtecbponmpinnoaaMb5
import Derived.Test.YtecbponmpinnoaaMb6
import Derived.Test.YtecbponmpinnoaaMb7
import Derived.Test.YtecbponmpinnoaaMb8
import Derived.Test.YtecbponmpinnoaaMb9
import Derived.Test.YtecbponmpinnoaaMb10
import Derived.Test.YtecbponmpinnoaaMb11
import Derived.Test.YtecbponmpinnoaaProg
import Derived.Below
import Derived.Deep.Draws
import Derived.Deep.AppendLies
import Derived.Maps.AppendAt
import Derived.OwnWalk
import Derived.Laws.BytesArg
import Derived.Laws.MakeOwn
import Derived.Laws.OwnMore
import Derived.Deep.OwnRows
import Derived.Tactics
import Derived.Lib.ConvBytes
import Derived.Laws.Slices
import Derived.WalkKit
import Derived.KernelRfl
import Derived.RowKit3
import Derived.Deep.LoopGhost
import Derived.Deep.QuietTactic
import Derived.BigQuiet
import Derived.WideLaws
import Derived.Deep.DeepCutAuto
import Derived.Deep.CutBlock
import Derived.Deep.RegionHeld3
import Derived.Laws.Rows
import Derived.Lib.AppendStr
import Derived.ArgAppend
import Derived.Laws.IdiomCopy
import Derived.OrdersHeld
import Derived.Laws.BitsLemmas
import Derived.RowKit
import Derived.Deep.WholeRow
import Derived.Outline
import Derived.WalkMore
import Derived.ScopeJumps
import Derived.Deep.DeepFit
import Derived.Maps.OwnOps
import Derived.Maps.Views
import Derived.Carry
import Derived.WalkArith
import Derived.Laws.StructEq
namespace Go
theorem zmb13_0 {p:Prop} (h:p:=by go_simp;rfl):p:=h
theorem zmb13_1 {p:Prop} (h:p:=by repeat (first|(with_reducible first|exact HB.out|apply below_alloc|apply pw_below_drewN|apply below_drew1)|exact HB.out)):p:=h
theorem zmb13_2 {p:Prop} (h:p:=by (with_reducible repeat (first|refine blk_drewN ?_ _|refine blk_drew ?_|refine blk_alloc ?_ _));exact BK227.out):p:=h
theorem zmb13_3 {p:Prop} (h:p:=by repeat (first|(with_reducible first|exact HB.out|apply below_alloc|apply pw_below_drewN|apply below_drew1|refine below_set ?_ GE227.out)|exact HB.out)):p:=h
theorem zmb13_4 {p:Prop} (h:p:=by (try simp only [List.map_toArray,List.map_cons,List.map_nil]);first|done|rfl|(simp only [List.length_drop,List.length_take];rfl)):p:=h
theorem zmb13_5 {p:Prop} (h:p:=by (with_reducible repeat (first|refine blk_drewN ?_ _|refine blk_drew ?_|refine blk_alloc ?_ _));refine blk_far ?_ NB227_228.out _;(with_reducible repeat (first|refine blk_drewN ?_ _|refine blk_drew ?_|refine blk_alloc ?_ _));refine blk_far ?_ NB227_228.out _;(with_reducible repeat (first|refine blk_drewN ?_ _|refine blk_drew ?_|refine blk_alloc ?_ _));refine blk_far ?_ NB227_228.out _;(with_reducible repeat (first|refine blk_drewN ?_ _|refine blk_drew ?_|refine blk_alloc ?_ _));refine blk_far ?_ NB227_228.out _;(with_reducible repeat (first|refine blk_drewN ?_ _|refine blk_drew ?_|refine blk_alloc ?_ _));refine blk_far ?_ NB227_228.out _;(with_reducible repeat (first|refine blk_drewN ?_ _|refine blk_drew ?_|refine blk_alloc ?_ _));exact BK227.out):p:=h
theorem zmb13_6 {p:Prop} (h:p:=by (with_reducible repeat (first|refine blk_drewN ?_ _|refine blk_drew ?_|refine blk_alloc ?_ _));refine blk_put (cs:=#[.int .i64 a0_1,.int .i64 a0_2,.int .i64 a0_3,.int .i64 a0_4,.int .i64 0]) ?_ 4 _ rfl;(with_reducible repeat (first|refine blk_drewN ?_ _|refine blk_drew ?_|refine blk_alloc ?_ _));refine blk_put (cs:=#[.int .i64 a0_1,.int .i64 a0_2,.int .i64 a0_3,.int .i64 0,.int .i64 0]) ?_ 3 _ rfl;(with_reducible repeat (first|refine blk_drewN ?_ _|refine blk_drew ?_|refine blk_alloc ?_ _));refine blk_put (cs:=#[.int .i64 a0_1,.int .i64 a0_2,.int .i64 0,.int .i64 0,.int .i64 0]) ?_ 2 _ rfl;(with_reducible repeat (first|refine blk_drewN ?_ _|refine blk_drew ?_|refine blk_alloc ?_ _));refine blk_put (cs:=#[.int .i64 a0_1,.int .i64 0,.int .i64 0,.int .i64 0,.int .i64 0]) ?_ 1 _ rfl;(with_reducible repeat (first|refine blk_drewN ?_ _|refine blk_drew ?_|refine blk_alloc ?_ _));refine blk_put (cs:=#[.int .i64 0,.int .i64 0,.int .i64 0,.int .i64 0,.int .i64 0]) ?_ 0 _ rfl;(with_reducible repeat (first|refine blk_drewN ?_ _|refine blk_drew ?_|refine blk_alloc ?_ _));exact BK228.out):p:=h
theorem zmb13_7 {p:Prop} (h:p:=by repeat (first|(with_reducible first|exact HB.out|apply below_alloc|apply pw_below_drewN|apply below_drew1|refine below_set ?_ GE227.out|refine below_set ?_ GE228.out)|exact HB.out)):p:=h
theorem zmb13_8 {p:Prop} (h:p:=by first|rfl|(simp [errW_none,errW_some] <;> rfl)|(simp [*,errW_none,errW_some] <;> rfl)):p:=h
theorem zmb13_9 {p:Prop} (h:p:=by first|rfl|(simp;done)|(simp [*];done)):p:=h
theorem zmb13_10 {p:Prop} (h:p:=by (with_reducible repeat (first|refine blk_drewN ?_ _|refine blk_drew ?_|refine blk_alloc ?_ _));exact BK228.out):p:=h
theorem zmb13_11 {p:Prop} (h:p:=by first|(with_reducible assumption)|assumption):p:=h
theorem zmb13_12 {p:Prop} (h:p:=by (with_reducible repeat (first|apply Kd.R_alloc|apply Kd.R_drewN|apply Kd.R_drew));exact HO_3.out):p:=h
end Go
set_option linter.unusedVariables false
set_option linter.unusedSimpArgs false
section
namespace Go.Proofs.Ytecbponmpinnoaa.P
open Go.RowKit Go.Proofs.YtecbponmpinnoaaW.PrintWords Go.Proofs.YtecbponmpinnoaaW.PrintLast Go.Proofs.YtecbponmpinnoaaW.PrintMore
attribute [local go_sem] max2_int min2_int max_two min_two max_three min_three max_four min_four   
set_option linter.unusedVariables false
set_option linter.unusedSimpArgs false
theorem eqA46 (d:Nat) (w:World) (x0 y0:Int) (x1 y1:Int) (x2 y2:Int) (x3 y3:Int) (x4 y4:Int) :
  (Op.equalIn (d + 2) 46 (.agg #[.int .i64 x0,.int .i64 x1,.int .i64 x2,.int .i64 x3,.int .i64 x4]) (.agg #[.int .i64 y0,.int .i64 y1,.int .i64 y2,.int .i64 y3,.int .i64 y4])).run Try.prog w = .ok (x0 == y0 && (x1 == y1 && (x2 == y2 && (x3 == y3 && (x4 == y4))))) w:=by
 refine eqA_of Try.underlying46 (by kernel_rfl) ?_
 refine eqf_cons (by rfl) zmb13_0 zmb13_0 (by go_simp) ?_
 refine eqf_cons (by rfl) zmb13_0 zmb13_0 (by go_simp) ?_
 refine eqf_cons (by rfl) zmb13_0 zmb13_0 (by go_simp) ?_
 refine eqf_cons (by rfl) zmb13_0 zmb13_0 (by go_simp) ?_
 exact eqf_last (by rfl) zmb13_0 zmb13_0 (by go_simp)
end Go.Proofs.Ytecbponmpinnoaa.P
end
section
namespace Go.Proofs.Ytecbponmpinnoaa.P
open Go.RowKit Go.Proofs.YtecbponmpinnoaaW.PrintWords Go.Proofs.YtecbponmpinnoaaW.PrintLast Go.Proofs.YtecbponmpinnoaaW.PrintMore
attribute [local go_sem] max2_int min2_int max_two min_two max_three min_three max_four min_four   
set_option linter.unusedVariables false
set_option linter.unusedSimpArgs false
attribute [local go_sem high] eqA46
def rushlightref05_Right.j0:Nat→Bool→Int→Int→Int→Int→Int→Int→Int→Int→Int→Int→Int→Int→Option (Bool)
 | 0,_,_,_,_,_,_,_,_,_,_,_,_,_=>none
 | k + 1,x65,x228000,x228001,x228002,x228003,x228004,x228005,x228006,x229000,x229001,x229002,x229003,x229004=>if x65 = true then (some false) else (if x228000 = 2 then (some (x229000 == 0 && (x229001 == 0 && (x229002 == 0 && (x229003 == 0 && (x229004 == 0)))))) else (if x228000 = 3 then ((rushlightref05_branch.f x229000).bind fun t231=>(if t231 = true then ((rushlightref02_Right.f k x229000 x229001 x229002 x229003 x229004).bind fun t232=>(if t232 = true then (some (x229004 == 0)) else (some false))) else (some false))) else (if x228000 = 4 then (if x229000 = 3 then ((rushlightref02_Right.f k x229000 x229001 x229002 x229003 x229004).bind fun t233=>(if t233 = true then (some (x229004 == 0)) else (some false))) else (some false)) else (some false))))
def rushlightref05_Right.f (k:Nat) (a0_0:Int) (a0_1:Int) (a0_2:Int) (a0_3:Int) (a0_4:Int) (a0_5:Int) (a0_6:Int):Option (Bool):=if a0_0 = 1 then ((rushlightref02_Right.f k a0_1 a0_2 a0_3 a0_4 a0_5).bind fun t229=>(if t229 = true then (some (a0_6 == 0)) else (some false))) else (if a0_0 = 5 then (if a0_6 = 0 then (if a0_1 = 0 then (if a0_3 = 0 then (if a0_4 = 0 then (if a0_2 ≥ 0 then (if a0_2≤31 then (if a0_5 ≥ (-2147483648) then (some (decide (a0_5≤4294967295))) else (some false)) else (some false)) else (some false)) else (some false)) else (some false)) else (some false)) else (some false)) else (if a0_6 < 0 then (rushlightref05_Right.j0 k true a0_0 a0_1 a0_2 a0_3 a0_4 a0_5 a0_6 a0_1 a0_2 a0_3 a0_4 a0_5) else (rushlightref05_Right.j0 k (decide (a0_6 > 4095)) a0_0 a0_1 a0_2 a0_3 a0_4 a0_5 a0_6 a0_1 a0_2 a0_3 a0_4 a0_5)))
set_option maxHeartbeats 8000000 in
set_option maxRecDepth 100000 in
theorem rushlightref05_Right.calls (k:Nat) (a0_0:Int) (a0_1:Int) (a0_2:Int) (a0_3:Int) (a0_4:Int) (a0_5:Int) (a0_6:Int) (r:Bool) (w:World) (h:rushlightref05_Right.f k a0_0 a0_1 a0_2 a0_3 a0_4 a0_5 a0_6 = some r) :
  Calls Try.prog 15 #[.agg #[.int .i64 a0_0,.int .i64 a0_1,.int .i64 a0_2,.int .i64 a0_3,.int .i64 a0_4,.int .i64 a0_5,.int .i64 a0_6]] w fun e w'=>e = .returned (.bool r)∧Below w.heap.size w w':=by
 have hu48:=Try.underlying48
 have hu46:=Try.underlying46
 have HB:=Aside0.mk (Below.refl w.heap.size w)
 have H:(if a0_0 = 1 then ((rushlightref02_Right.f k a0_1 a0_2 a0_3 a0_4 a0_5).bind fun t229=>(if t229 = true then (some (a0_6 == 0)) else (some false))) else (if a0_0 = 5 then (if a0_6 = 0 then (if a0_1 = 0 then (if a0_3 = 0 then (if a0_4 = 0 then (if a0_2 ≥ 0 then (if a0_2≤31 then (if a0_5 ≥ (-2147483648) then (some (decide (a0_5≤4294967295))) else (some false)) else (some false)) else (some false)) else (some false)) else (some false)) else (some false)) else (some false)) else (if a0_6 < 0 then (rushlightref05_Right.j0 k true a0_0 a0_1 a0_2 a0_3 a0_4 a0_5 a0_6 a0_1 a0_2 a0_3 a0_4 a0_5) else (rushlightref05_Right.j0 k (decide (a0_6 > 4095)) a0_0 a0_1 a0_2 a0_3 a0_4 a0_5 a0_6 a0_1 a0_2 a0_3 a0_4 a0_5)))) = some r:=h
 clear h
 by_cases c2:a0_0 = 1
 ·rw [if_pos c2] at H
  have c2b0:(a0_0 == 1) = true:=beq_iff_eq.mpr c2
  have c2b1:(a0_0 != 1) = false:=bne_eq_false_iff_eq.mpr c2
  clear c2
  replace H:=Option.bind_eq_some_iff.mp H
  obtain ⟨t229,A30,H⟩:=H
  replace H:(if t229 = true then (some (a0_6 == 0)) else (some false)) = some r:=H
  have A3:=Aside0.mk A30
  clear A30
  by_cases c4:t229 = true
  ·subst c4
   have H1:(some (a0_6 == 0)) = some r:=by rw [if_pos rfl] at H;exact H
   clear H
   have H:=H1
   clear H1
   obtain rfl:=Option.some.inj H
   go_enter Try.func15,Try.ntmps15
   go_wp2_with (first|((with_reducible refine gate_dst (N:=1) rfl ?_);refine box_event ?hg (N:=1) ?hd (cs:=#[.int .i64 a0_0,.int .i64 a0_1,.int .i64 a0_2,.int .i64 a0_3,.int .i64 a0_4,.int .i64 a0_5,.int .i64 a0_6]) (t:=48) ?hr ?_;(case hd=>rfl);(case hg=>rfl);(case hr=>first|(go_simp;done)|(go_simp;rfl));intro gb227 hg w5 hbox hb;have n0_:=Aside0.mk (below_step zmb13_1 hb);have n1_:=Aside0.mk (hbox);have n2_:=Aside0.mk ((by rw [hg];exact (below_size zmb13_1):w.heap.size≤gb227));have n3_:=Aside0.mk ((by rw [hg];exact (below_size zmb13_1):w.heap.size≤gb227));clear HB;have HB:=n0_;have BK227:=n1_;have GW227:=n2_;have GE227:=n3_;clear n0_ n1_ n2_ n3_;clear hb hbox hg;have hcz6_0:w5.cell? ⟨gb227,0,none⟩ = some (.int .i64 a0_0):=(blk_cell BK227.out 0).trans rfl;have hcz6_1:w5.cell? ⟨gb227,1,none⟩ = some (.int .i64 a0_1):=(blk_cell BK227.out 1).trans rfl;have hcz6_2:w5.cell? ⟨gb227,2,none⟩ = some (.int .i64 a0_2):=(blk_cell BK227.out 2).trans rfl;have hcz6_3:w5.cell? ⟨gb227,3,none⟩ = some (.int .i64 a0_3):=(blk_cell BK227.out 3).trans rfl;have hcz6_4:w5.cell? ⟨gb227,4,none⟩ = some (.int .i64 a0_4):=(blk_cell BK227.out 4).trans rfl;have hcz6_5:w5.cell? ⟨gb227,5,none⟩ = some (.int .i64 a0_5):=(blk_cell BK227.out 5).trans rfl;have hcz6_6:w5.cell? ⟨gb227,6,none⟩ = some (.int .i64 a0_6):=(blk_cell BK227.out 6).trans rfl;have hfz6_0:=blk_frozen BK227.out 0;have hfz6_1:=blk_frozen BK227.out 1;have hfz6_2:=blk_frozen BK227.out 2;have hfz6_3:=blk_frozen BK227.out 3;have hfz6_4:=blk_frozen BK227.out 4;have hfz6_5:=blk_frozen BK227.out 5;have hfz6_6:=blk_frozen BK227.out 6)|((with_reducible refine gate_dst (N:=3) rfl ?_);refine box_event ?hg (N:=3) ?hd (cs:=#[.int .i64 0,.int .i64 0,.int .i64 0,.int .i64 0,.int .i64 0]) (t:=46) ?hr ?_;(case hd=>rfl);(case hg=>rfl);(case hr=>first|(go_simp;done)|(go_simp;rfl));intro gb228 hg w7 hbox hb;have n0_:=Aside0.mk (blk_below (g:=gb227) (o:=.cells #[.int .i64 a0_0,.int .i64 a0_1,.int .i64 a0_2,.int .i64 a0_3,.int .i64 a0_4,.int .i64 a0_5,.int .i64 a0_6] 48 (0,0)) zmb13_2 hb);have n1_:=Aside0.mk (below_step zmb13_3 hb);have n2_:=Aside0.mk (hbox);have n3_:=Aside0.mk ((by rw [hg];exact (below_size zmb13_3):w.heap.size≤gb228));have n4_:=Aside0.mk ((by rw [hg];exact (below_size zmb13_3):w.heap.size≤gb228));have n5_:=Aside0.mk ((by rw [hg];exact Nat.ne_of_lt (blk_lt (g:=gb227) (o:=.cells #[.int .i64 a0_0,.int .i64 a0_1,.int .i64 a0_2,.int .i64 a0_3,.int .i64 a0_4,.int .i64 a0_5,.int .i64 a0_6] 48 (0,0)) zmb13_2):gb227≠gb228));have n6_:=Aside0.mk ((by rw [hg];exact Nat.ne_of_gt (blk_lt (g:=gb227) (o:=.cells #[.int .i64 a0_0,.int .i64 a0_1,.int .i64 a0_2,.int .i64 a0_3,.int .i64 a0_4,.int .i64 a0_5,.int .i64 a0_6] 48 (0,0)) zmb13_2):gb228≠gb227));clear BK227 HB;have BK227:=n0_;have HB:=n1_;have BK228:=n2_;have GW228:=n3_;have GE228:=n4_;have NB227_228:=n5_;have NB228_227:=n6_;clear n0_ n1_ n2_ n3_ n4_ n5_ n6_;clear hb hbox hg;have hnb8:=NB228_227.out;have hnc8:=NB227_228.out;have hcz9_0:w7.cell? ⟨gb228,0,none⟩ = some (.int .i64 0):=(blk_cell BK228.out 0).trans rfl;have hcz9_1:w7.cell? ⟨gb228,1,none⟩ = some (.int .i64 0):=(blk_cell BK228.out 1).trans rfl;have hcz9_2:w7.cell? ⟨gb228,2,none⟩ = some (.int .i64 0):=(blk_cell BK228.out 2).trans rfl;have hcz9_3:w7.cell? ⟨gb228,3,none⟩ = some (.int .i64 0):=(blk_cell BK228.out 3).trans rfl;have hcz9_4:w7.cell? ⟨gb228,4,none⟩ = some (.int .i64 0):=(blk_cell BK228.out 4).trans rfl;have hfz9_0:=blk_frozen BK228.out 0;have hfz9_1:=blk_frozen BK228.out 1;have hfz9_2:=blk_frozen BK228.out 2;have hfz9_3:=blk_frozen BK228.out 3;have hfz9_4:=blk_frozen BK228.out 4;have hcz10_0:w7.cell? ⟨gb227,0,none⟩ = some (.int .i64 a0_0):=(blk_cell BK227.out 0).trans rfl;have hcz10_1:w7.cell? ⟨gb227,1,none⟩ = some (.int .i64 a0_1):=(blk_cell BK227.out 1).trans rfl;have hcz10_2:w7.cell? ⟨gb227,2,none⟩ = some (.int .i64 a0_2):=(blk_cell BK227.out 2).trans rfl;have hcz10_3:w7.cell? ⟨gb227,3,none⟩ = some (.int .i64 a0_3):=(blk_cell BK227.out 3).trans rfl;have hcz10_4:w7.cell? ⟨gb227,4,none⟩ = some (.int .i64 a0_4):=(blk_cell BK227.out 4).trans rfl;have hcz10_5:w7.cell? ⟨gb227,5,none⟩ = some (.int .i64 a0_5):=(blk_cell BK227.out 5).trans rfl;have hcz10_6:w7.cell? ⟨gb227,6,none⟩ = some (.int .i64 a0_6):=(blk_cell BK227.out 6).trans rfl;have hfz10_0:=blk_frozen BK227.out 0;have hfz10_1:=blk_frozen BK227.out 1;have hfz10_2:=blk_frozen BK227.out 2;have hfz10_3:=blk_frozen BK227.out 3;have hfz10_4:=blk_frozen BK227.out 4;have hfz10_5:=blk_frozen BK227.out 5;have hfz10_6:=blk_frozen BK227.out 6)|((with_reducible refine gate_callee (f:=36) rfl ?_);refine goesL_ (some 11) rfl rfl Try.func36 (by kernel_rfl) rfl #[.agg #[.int .i64 a0_1,.int .i64 a0_2,.int .i64 a0_3,.int .i64 a0_4,.int .i64 a0_5]] rfl zmb13_4 ?_;(with_reducible refine (rushlightref02_Right.calls k a0_1 a0_2 a0_3 a0_4 a0_5 true _ A3.out).mono ?_);rintro e w11 ⟨rfl,hb⟩;refine ⟨_,rfl,?_⟩;have n0_:=Aside0.mk (blk_below (g:=gb227) (o:=.cells #[.int .i64 a0_0,.int .i64 a0_1,.int .i64 a0_2,.int .i64 a0_3,.int .i64 a0_4,.int .i64 a0_5,.int .i64 a0_6] 48 (0,0)) zmb13_5 hb);have n1_:=Aside0.mk (blk_below (g:=gb228) (o:=.cells #[.int .i64 a0_1,.int .i64 a0_2,.int .i64 a0_3,.int .i64 a0_4,.int .i64 a0_5] 46 (0,0)) zmb13_6 hb);have n2_:=Aside0.mk (below_step zmb13_7 hb);clear BK227 BK228 HB;have BK227:=n0_;have BK228:=n1_;have HB:=n2_;clear n0_ n1_ n2_;(try clear hb);(try clear hb2);(try clear hk);(try clear hi);have hcz12_0:w11.cell? ⟨gb227,0,none⟩ = some (.int .i64 a0_0):=(blk_cell BK227.out 0).trans rfl;have hcz12_1:w11.cell? ⟨gb227,1,none⟩ = some (.int .i64 a0_1):=(blk_cell BK227.out 1).trans rfl;have hcz12_2:w11.cell? ⟨gb227,2,none⟩ = some (.int .i64 a0_2):=(blk_cell BK227.out 2).trans rfl;have hcz12_3:w11.cell? ⟨gb227,3,none⟩ = some (.int .i64 a0_3):=(blk_cell BK227.out 3).trans rfl;have hcz12_4:w11.cell? ⟨gb227,4,none⟩ = some (.int .i64 a0_4):=(blk_cell BK227.out 4).trans rfl;have hcz12_5:w11.cell? ⟨gb227,5,none⟩ = some (.int .i64 a0_5):=(blk_cell BK227.out 5).trans rfl;have hcz12_6:w11.cell? ⟨gb227,6,none⟩ = some (.int .i64 a0_6):=(blk_cell BK227.out 6).trans rfl;have hfz12_0:=blk_frozen BK227.out 0;have hfz12_1:=blk_frozen BK227.out 1;have hfz12_2:=blk_frozen BK227.out 2;have hfz12_3:=blk_frozen BK227.out 3;have hfz12_4:=blk_frozen BK227.out 4;have hfz12_5:=blk_frozen BK227.out 5;have hfz12_6:=blk_frozen BK227.out 6))
   go_ret
   exact ⟨zmb13_8,zmb13_7⟩
  ·replace c4:=Bool.eq_false_iff.mpr c4
   subst c4
   have H1:(some false) = some r:=by rw [if_neg (show ¬ (false = true) by decide)] at H;exact H
   clear H
   have H:=H1
   clear H1
   obtain rfl:=Option.some.inj H
   go_enter Try.func15,Try.ntmps15
   go_wp2_with (first|((with_reducible refine gate_dst (N:=1) rfl ?_);refine box_event ?hg (N:=1) ?hd (cs:=#[.int .i64 a0_0,.int .i64 a0_1,.int .i64 a0_2,.int .i64 a0_3,.int .i64 a0_4,.int .i64 a0_5,.int .i64 a0_6]) (t:=48) ?hr ?_;(case hd=>rfl);(case hg=>rfl);(case hr=>first|(go_simp;done)|(go_simp;rfl));intro gb227 hg w13 hbox hb;have n0_:=Aside0.mk (below_step zmb13_1 hb);have n1_:=Aside0.mk (hbox);have n2_:=Aside0.mk ((by rw [hg];exact (below_size zmb13_1):w.heap.size≤gb227));have n3_:=Aside0.mk ((by rw [hg];exact (below_size zmb13_1):w.heap.size≤gb227));clear HB;have HB:=n0_;have BK227:=n1_;have GW227:=n2_;have GE227:=n3_;clear n0_ n1_ n2_ n3_;clear hb hbox hg;have hcz14_0:w13.cell? ⟨gb227,0,none⟩ = some (.int .i64 a0_0):=(blk_cell BK227.out 0).trans rfl;have hcz14_1:w13.cell? ⟨gb227,1,none⟩ = some (.int .i64 a0_1):=(blk_cell BK227.out 1).trans rfl;have hcz14_2:w13.cell? ⟨gb227,2,none⟩ = some (.int .i64 a0_2):=(blk_cell BK227.out 2).trans rfl;have hcz14_3:w13.cell? ⟨gb227,3,none⟩ = some (.int .i64 a0_3):=(blk_cell BK227.out 3).trans rfl;have hcz14_4:w13.cell? ⟨gb227,4,none⟩ = some (.int .i64 a0_4):=(blk_cell BK227.out 4).trans rfl;have hcz14_5:w13.cell? ⟨gb227,5,none⟩ = some (.int .i64 a0_5):=(blk_cell BK227.out 5).trans rfl;have hcz14_6:w13.cell? ⟨gb227,6,none⟩ = some (.int .i64 a0_6):=(blk_cell BK227.out 6).trans rfl;have hfz14_0:=blk_frozen BK227.out 0;have hfz14_1:=blk_frozen BK227.out 1;have hfz14_2:=blk_frozen BK227.out 2;have hfz14_3:=blk_frozen BK227.out 3;have hfz14_4:=blk_frozen BK227.out 4;have hfz14_5:=blk_frozen BK227.out 5;have hfz14_6:=blk_frozen BK227.out 6)|((with_reducible refine gate_dst (N:=3) rfl ?_);refine box_event ?hg (N:=3) ?hd (cs:=#[.int .i64 0,.int .i64 0,.int .i64 0,.int .i64 0,.int .i64 0]) (t:=46) ?hr ?_;(case hd=>rfl);(case hg=>rfl);(case hr=>first|(go_simp;done)|(go_simp;rfl));intro gb228 hg w15 hbox hb;have n0_:=Aside0.mk (blk_below (g:=gb227) (o:=.cells #[.int .i64 a0_0,.int .i64 a0_1,.int .i64 a0_2,.int .i64 a0_3,.int .i64 a0_4,.int .i64 a0_5,.int .i64 a0_6] 48 (0,0)) zmb13_2 hb);have n1_:=Aside0.mk (below_step zmb13_3 hb);have n2_:=Aside0.mk (hbox);have n3_:=Aside0.mk ((by rw [hg];exact (below_size zmb13_3):w.heap.size≤gb228));have n4_:=Aside0.mk ((by rw [hg];exact (below_size zmb13_3):w.heap.size≤gb228));have n5_:=Aside0.mk ((by rw [hg];exact Nat.ne_of_lt (blk_lt (g:=gb227) (o:=.cells #[.int .i64 a0_0,.int .i64 a0_1,.int .i64 a0_2,.int .i64 a0_3,.int .i64 a0_4,.int .i64 a0_5,.int .i64 a0_6] 48 (0,0)) zmb13_2):gb227≠gb228));have n6_:=Aside0.mk ((by rw [hg];exact Nat.ne_of_gt (blk_lt (g:=gb227) (o:=.cells #[.int .i64 a0_0,.int .i64 a0_1,.int .i64 a0_2,.int .i64 a0_3,.int .i64 a0_4,.int .i64 a0_5,.int .i64 a0_6] 48 (0,0)) zmb13_2):gb228≠gb227));clear BK227 HB;have BK227:=n0_;have HB:=n1_;have BK228:=n2_;have GW228:=n3_;have GE228:=n4_;have NB227_228:=n5_;have NB228_227:=n6_;clear n0_ n1_ n2_ n3_ n4_ n5_ n6_;clear hb hbox hg;have hnb16:=NB228_227.out;have hnc16:=NB227_228.out;have hcz17_0:w15.cell? ⟨gb228,0,none⟩ = some (.int .i64 0):=(blk_cell BK228.out 0).trans rfl;have hcz17_1:w15.cell? ⟨gb228,1,none⟩ = some (.int .i64 0):=(blk_cell BK228.out 1).trans rfl;have hcz17_2:w15.cell? ⟨gb228,2,none⟩ = some (.int .i64 0):=(blk_cell BK228.out 2).trans rfl;have hcz17_3:w15.cell? ⟨gb228,3,none⟩ = some (.int .i64 0):=(blk_cell BK228.out 3).trans rfl;have hcz17_4:w15.cell? ⟨gb228,4,none⟩ = some (.int .i64 0):=(blk_cell BK228.out 4).trans rfl;have hfz17_0:=blk_frozen BK228.out 0;have hfz17_1:=blk_frozen BK228.out 1;have hfz17_2:=blk_frozen BK228.out 2;have hfz17_3:=blk_frozen BK228.out 3;have hfz17_4:=blk_frozen BK228.out 4;have hcz18_0:w15.cell? ⟨gb227,0,none⟩ = some (.int .i64 a0_0):=(blk_cell BK227.out 0).trans rfl;have hcz18_1:w15.cell? ⟨gb227,1,none⟩ = some (.int .i64 a0_1):=(blk_cell BK227.out 1).trans rfl;have hcz18_2:w15.cell? ⟨gb227,2,none⟩ = some (.int .i64 a0_2):=(blk_cell BK227.out 2).trans rfl;have hcz18_3:w15.cell? ⟨gb227,3,none⟩ = some (.int .i64 a0_3):=(blk_cell BK227.out 3).trans rfl;have hcz18_4:w15.cell? ⟨gb227,4,none⟩ = some (.int .i64 a0_4):=(blk_cell BK227.out 4).trans rfl;have hcz18_5:w15.cell? ⟨gb227,5,none⟩ = some (.int .i64 a0_5):=(blk_cell BK227.out 5).trans rfl;have hcz18_6:w15.cell? ⟨gb227,6,none⟩ = some (.int .i64 a0_6):=(blk_cell BK227.out 6).trans rfl;have hfz18_0:=blk_frozen BK227.out 0;have hfz18_1:=blk_frozen BK227.out 1;have hfz18_2:=blk_frozen BK227.out 2;have hfz18_3:=blk_frozen BK227.out 3;have hfz18_4:=blk_frozen BK227.out 4;have hfz18_5:=blk_frozen BK227.out 5;have hfz18_6:=blk_frozen BK227.out 6)|((with_reducible refine gate_callee (f:=36) rfl ?_);refine goesL_ (some 11) rfl rfl Try.func36 (by kernel_rfl) rfl #[.agg #[.int .i64 a0_1,.int .i64 a0_2,.int .i64 a0_3,.int .i64 a0_4,.int .i64 a0_5]] rfl zmb13_4 ?_;(with_reducible refine (rushlightref02_Right.calls k a0_1 a0_2 a0_3 a0_4 a0_5 false _ A3.out).mono ?_);rintro e w19 ⟨rfl,hb⟩;refine ⟨_,rfl,?_⟩;have n0_:=Aside0.mk (blk_below (g:=gb227) (o:=.cells #[.int .i64 a0_0,.int .i64 a0_1,.int .i64 a0_2,.int .i64 a0_3,.int .i64 a0_4,.int .i64 a0_5,.int .i64 a0_6] 48 (0,0)) zmb13_5 hb);have n1_:=Aside0.mk (blk_below (g:=gb228) (o:=.cells #[.int .i64 a0_1,.int .i64 a0_2,.int .i64 a0_3,.int .i64 a0_4,.int .i64 a0_5] 46 (0,0)) zmb13_6 hb);have n2_:=Aside0.mk (below_step zmb13_7 hb);clear BK227 BK228 HB;have BK227:=n0_;have BK228:=n1_;have HB:=n2_;clear n0_ n1_ n2_;(try clear hb);(try clear hb2);(try clear hk);(try clear hi)))
   go_ret
   exact ⟨zmb13_8,zmb13_7⟩
 ·rw [if_neg c2] at H
  have c2b0:(a0_0 == 1) = false:=beq_eq_false_iff_ne.mpr c2
  have c2b1:(a0_0 != 1) = true:=bne_iff_ne.mpr c2
  by_cases c20:a0_0 = 5
  ·rw [if_pos c20] at H
   have c20b0:(a0_0 == 5) = true:=beq_iff_eq.mpr c20
   have c20b1:(a0_0 != 5) = false:=bne_eq_false_iff_eq.mpr c20
   clear c20
   by_cases c21:a0_6 = 0
   ·rw [if_pos c21] at H
    have c21b0:(a0_6 == 0) = true:=beq_iff_eq.mpr c21
    have c21b1:(a0_6 != 0) = false:=bne_eq_false_iff_eq.mpr c21
    clear c21
    by_cases c22:a0_1 = 0
    ·rw [if_pos c22] at H
     have c22b0:(a0_1 == 0) = true:=beq_iff_eq.mpr c22
     have c22b1:(a0_1 != 0) = false:=bne_eq_false_iff_eq.mpr c22
     clear c22
     by_cases c23:a0_3 = 0
     ·rw [if_pos c23] at H
      have c23b0:(a0_3 == 0) = true:=beq_iff_eq.mpr c23
      have c23b1:(a0_3 != 0) = false:=bne_eq_false_iff_eq.mpr c23
      clear c23
      by_cases c24:a0_4 = 0
      ·rw [if_pos c24] at H
       have c24b0:(a0_4 == 0) = true:=beq_iff_eq.mpr c24
       have c24b1:(a0_4 != 0) = false:=bne_eq_false_iff_eq.mpr c24
       clear c24
       by_cases c25:a0_2 ≥ 0
       ·rw [if_pos c25] at H
        have c25b0:decide (0≤a0_2) = true:=decide_eq_true c25
        clear c25
        by_cases c26:a0_2≤31
        ·rw [if_pos c26] at H
         have c26b0:decide (a0_2≤31) = true:=decide_eq_true c26
         clear c26
         by_cases c27:a0_5 ≥ (-2147483648)
         ·rw [if_pos c27] at H
          have c27b0:decide ((-2147483648)≤a0_5) = true:=decide_eq_true c27
          clear c27
          obtain rfl:=Option.some.inj H
          go_enter Try.func15,Try.ntmps15
          go_wp2_with (first|((with_reducible refine gate_dst (N:=1) rfl ?_);refine box_event ?hg (N:=1) ?hd (cs:=#[.int .i64 a0_0,.int .i64 a0_1,.int .i64 a0_2,.int .i64 a0_3,.int .i64 a0_4,.int .i64 a0_5,.int .i64 a0_6]) (t:=48) ?hr ?_;(case hd=>rfl);(case hg=>rfl);(case hr=>first|(go_simp;done)|(go_simp;rfl));intro gb227 hg w28 hbox hb;have n0_:=Aside0.mk (below_step zmb13_1 hb);have n1_:=Aside0.mk (hbox);have n2_:=Aside0.mk ((by rw [hg];exact (below_size zmb13_1):w.heap.size≤gb227));have n3_:=Aside0.mk ((by rw [hg];exact (below_size zmb13_1):w.heap.size≤gb227));clear HB;have HB:=n0_;have BK227:=n1_;have GW227:=n2_;have GE227:=n3_;clear n0_ n1_ n2_ n3_;clear hb hbox hg;have hcz29_0:w28.cell? ⟨gb227,0,none⟩ = some (.int .i64 a0_0):=(blk_cell BK227.out 0).trans rfl;have hcz29_1:w28.cell? ⟨gb227,1,none⟩ = some (.int .i64 a0_1):=(blk_cell BK227.out 1).trans rfl;have hcz29_2:w28.cell? ⟨gb227,2,none⟩ = some (.int .i64 a0_2):=(blk_cell BK227.out 2).trans rfl;have hcz29_3:w28.cell? ⟨gb227,3,none⟩ = some (.int .i64 a0_3):=(blk_cell BK227.out 3).trans rfl;have hcz29_4:w28.cell? ⟨gb227,4,none⟩ = some (.int .i64 a0_4):=(blk_cell BK227.out 4).trans rfl;have hcz29_5:w28.cell? ⟨gb227,5,none⟩ = some (.int .i64 a0_5):=(blk_cell BK227.out 5).trans rfl;have hcz29_6:w28.cell? ⟨gb227,6,none⟩ = some (.int .i64 a0_6):=(blk_cell BK227.out 6).trans rfl;have hfz29_0:=blk_frozen BK227.out 0;have hfz29_1:=blk_frozen BK227.out 1;have hfz29_2:=blk_frozen BK227.out 2;have hfz29_3:=blk_frozen BK227.out 3;have hfz29_4:=blk_frozen BK227.out 4;have hfz29_5:=blk_frozen BK227.out 5;have hfz29_6:=blk_frozen BK227.out 6)|((with_reducible refine gate_dst (N:=3) rfl ?_);refine box_event ?hg (N:=3) ?hd (cs:=#[.int .i64 0,.int .i64 0,.int .i64 0,.int .i64 0,.int .i64 0]) (t:=46) ?hr ?_;(case hd=>rfl);(case hg=>rfl);(case hr=>first|(go_simp;done)|(go_simp;rfl));intro gb228 hg w30 hbox hb;have n0_:=Aside0.mk (blk_below (g:=gb227) (o:=.cells #[.int .i64 a0_0,.int .i64 a0_1,.int .i64 a0_2,.int .i64 a0_3,.int .i64 a0_4,.int .i64 a0_5,.int .i64 a0_6] 48 (0,0)) zmb13_2 hb);have n1_:=Aside0.mk (below_step zmb13_3 hb);have n2_:=Aside0.mk (hbox);have n3_:=Aside0.mk ((by rw [hg];exact (below_size zmb13_3):w.heap.size≤gb228));have n4_:=Aside0.mk ((by rw [hg];exact (below_size zmb13_3):w.heap.size≤gb228));have n5_:=Aside0.mk ((by rw [hg];exact Nat.ne_of_lt (blk_lt (g:=gb227) (o:=.cells #[.int .i64 a0_0,.int .i64 a0_1,.int .i64 a0_2,.int .i64 a0_3,.int .i64 a0_4,.int .i64 a0_5,.int .i64 a0_6] 48 (0,0)) zmb13_2):gb227≠gb228));have n6_:=Aside0.mk ((by rw [hg];exact Nat.ne_of_gt (blk_lt (g:=gb227) (o:=.cells #[.int .i64 a0_0,.int .i64 a0_1,.int .i64 a0_2,.int .i64 a0_3,.int .i64 a0_4,.int .i64 a0_5,.int .i64 a0_6] 48 (0,0)) zmb13_2):gb228≠gb227));clear BK227 HB;have BK227:=n0_;have HB:=n1_;have BK228:=n2_;have GW228:=n3_;have GE228:=n4_;have NB227_228:=n5_;have NB228_227:=n6_;clear n0_ n1_ n2_ n3_ n4_ n5_ n6_;clear hb hbox hg;have hnb31:=NB228_227.out;have hnc31:=NB227_228.out;have hcz32_0:w30.cell? ⟨gb228,0,none⟩ = some (.int .i64 0):=(blk_cell BK228.out 0).trans rfl;have hcz32_1:w30.cell? ⟨gb228,1,none⟩ = some (.int .i64 0):=(blk_cell BK228.out 1).trans rfl;have hcz32_2:w30.cell? ⟨gb228,2,none⟩ = some (.int .i64 0):=(blk_cell BK228.out 2).trans rfl;have hcz32_3:w30.cell? ⟨gb228,3,none⟩ = some (.int .i64 0):=(blk_cell BK228.out 3).trans rfl;have hcz32_4:w30.cell? ⟨gb228,4,none⟩ = some (.int .i64 0):=(blk_cell BK228.out 4).trans rfl;have hfz32_0:=blk_frozen BK228.out 0;have hfz32_1:=blk_frozen BK228.out 1;have hfz32_2:=blk_frozen BK228.out 2;have hfz32_3:=blk_frozen BK228.out 3;have hfz32_4:=blk_frozen BK228.out 4;have hcz33_0:w30.cell? ⟨gb227,0,none⟩ = some (.int .i64 a0_0):=(blk_cell BK227.out 0).trans rfl;have hcz33_1:w30.cell? ⟨gb227,1,none⟩ = some (.int .i64 a0_1):=(blk_cell BK227.out 1).trans rfl;have hcz33_2:w30.cell? ⟨gb227,2,none⟩ = some (.int .i64 a0_2):=(blk_cell BK227.out 2).trans rfl;have hcz33_3:w30.cell? ⟨gb227,3,none⟩ = some (.int .i64 a0_3):=(blk_cell BK227.out 3).trans rfl;have hcz33_4:w30.cell? ⟨gb227,4,none⟩ = some (.int .i64 a0_4):=(blk_cell BK227.out 4).trans rfl;have hcz33_5:w30.cell? ⟨gb227,5,none⟩ = some (.int .i64 a0_5):=(blk_cell BK227.out 5).trans rfl;have hcz33_6:w30.cell? ⟨gb227,6,none⟩ = some (.int .i64 a0_6):=(blk_cell BK227.out 6).trans rfl;have hfz33_0:=blk_frozen BK227.out 0;have hfz33_1:=blk_frozen BK227.out 1;have hfz33_2:=blk_frozen BK227.out 2;have hfz33_3:=blk_frozen BK227.out 3;have hfz33_4:=blk_frozen BK227.out 4;have hfz33_5:=blk_frozen BK227.out 5;have hfz33_6:=blk_frozen BK227.out 6))
          go_ret
          exact ⟨zmb13_8,zmb13_7⟩
         ·rw [if_neg c27] at H
          have c27b0:decide ((-2147483648)≤a0_5) = false:=decide_eq_false c27
          clear c27
          obtain rfl:=Option.some.inj H
          go_enter Try.func15,Try.ntmps15
          go_wp2_with (first|((with_reducible refine gate_dst (N:=1) rfl ?_);refine box_event ?hg (N:=1) ?hd (cs:=#[.int .i64 a0_0,.int .i64 a0_1,.int .i64 a0_2,.int .i64 a0_3,.int .i64 a0_4,.int .i64 a0_5,.int .i64 a0_6]) (t:=48) ?hr ?_;(case hd=>rfl);(case hg=>rfl);(case hr=>first|(go_simp;done)|(go_simp;rfl));intro gb227 hg w34 hbox hb;have n0_:=Aside0.mk (below_step zmb13_1 hb);have n1_:=Aside0.mk (hbox);have n2_:=Aside0.mk ((by rw [hg];exact (below_size zmb13_1):w.heap.size≤gb227));have n3_:=Aside0.mk ((by rw [hg];exact (below_size zmb13_1):w.heap.size≤gb227));clear HB;have HB:=n0_;have BK227:=n1_;have GW227:=n2_;have GE227:=n3_;clear n0_ n1_ n2_ n3_;clear hb hbox hg;have hcz35_0:w34.cell? ⟨gb227,0,none⟩ = some (.int .i64 a0_0):=(blk_cell BK227.out 0).trans rfl;have hcz35_1:w34.cell? ⟨gb227,1,none⟩ = some (.int .i64 a0_1):=(blk_cell BK227.out 1).trans rfl;have hcz35_2:w34.cell? ⟨gb227,2,none⟩ = some (.int .i64 a0_2):=(blk_cell BK227.out 2).trans rfl;have hcz35_3:w34.cell? ⟨gb227,3,none⟩ = some (.int .i64 a0_3):=(blk_cell BK227.out 3).trans rfl;have hcz35_4:w34.cell? ⟨gb227,4,none⟩ = some (.int .i64 a0_4):=(blk_cell BK227.out 4).trans rfl;have hcz35_5:w34.cell? ⟨gb227,5,none⟩ = some (.int .i64 a0_5):=(blk_cell BK227.out 5).trans rfl;have hcz35_6:w34.cell? ⟨gb227,6,none⟩ = some (.int .i64 a0_6):=(blk_cell BK227.out 6).trans rfl;have hfz35_0:=blk_frozen BK227.out 0;have hfz35_1:=blk_frozen BK227.out 1;have hfz35_2:=blk_frozen BK227.out 2;have hfz35_3:=blk_frozen BK227.out 3;have hfz35_4:=blk_frozen BK227.out 4;have hfz35_5:=blk_frozen BK227.out 5;have hfz35_6:=blk_frozen BK227.out 6)|((with_reducible refine gate_dst (N:=3) rfl ?_);refine box_event ?hg (N:=3) ?hd (cs:=#[.int .i64 0,.int .i64 0,.int .i64 0,.int .i64 0,.int .i64 0]) (t:=46) ?hr ?_;(case hd=>rfl);(case hg=>rfl);(case hr=>first|(go_simp;done)|(go_simp;rfl));intro gb228 hg w36 hbox hb;have n0_:=Aside0.mk (blk_below (g:=gb227) (o:=.cells #[.int .i64 a0_0,.int .i64 a0_1,.int .i64 a0_2,.int .i64 a0_3,.int .i64 a0_4,.int .i64 a0_5,.int .i64 a0_6] 48 (0,0)) zmb13_2 hb);have n1_:=Aside0.mk (below_step zmb13_3 hb);have n2_:=Aside0.mk (hbox);have n3_:=Aside0.mk ((by rw [hg];exact (below_size zmb13_3):w.heap.size≤gb228));have n4_:=Aside0.mk ((by rw [hg];exact (below_size zmb13_3):w.heap.size≤gb228));have n5_:=Aside0.mk ((by rw [hg];exact Nat.ne_of_lt (blk_lt (g:=gb227) (o:=.cells #[.int .i64 a0_0,.int .i64 a0_1,.int .i64 a0_2,.int .i64 a0_3,.int .i64 a0_4,.int .i64 a0_5,.int .i64 a0_6] 48 (0,0)) zmb13_2):gb227≠gb228));have n6_:=Aside0.mk ((by rw [hg];exact Nat.ne_of_gt (blk_lt (g:=gb227) (o:=.cells #[.int .i64 a0_0,.int .i64 a0_1,.int .i64 a0_2,.int .i64 a0_3,.int .i64 a0_4,.int .i64 a0_5,.int .i64 a0_6] 48 (0,0)) zmb13_2):gb228≠gb227));clear BK227 HB;have BK227:=n0_;have HB:=n1_;have BK228:=n2_;have GW228:=n3_;have GE228:=n4_;have NB227_228:=n5_;have NB228_227:=n6_;clear n0_ n1_ n2_ n3_ n4_ n5_ n6_;clear hb hbox hg;have hnb37:=NB228_227.out;have hnc37:=NB227_228.out;have hcz38_0:w36.cell? ⟨gb228,0,none⟩ = some (.int .i64 0):=(blk_cell BK228.out 0).trans rfl;have hcz38_1:w36.cell? ⟨gb228,1,none⟩ = some (.int .i64 0):=(blk_cell BK228.out 1).trans rfl;have hcz38_2:w36.cell? ⟨gb228,2,none⟩ = some (.int .i64 0):=(blk_cell BK228.out 2).trans rfl;have hcz38_3:w36.cell? ⟨gb228,3,none⟩ = some (.int .i64 0):=(blk_cell BK228.out 3).trans rfl;have hcz38_4:w36.cell? ⟨gb228,4,none⟩ = some (.int .i64 0):=(blk_cell BK228.out 4).trans rfl;have hfz38_0:=blk_frozen BK228.out 0;have hfz38_1:=blk_frozen BK228.out 1;have hfz38_2:=blk_frozen BK228.out 2;have hfz38_3:=blk_frozen BK228.out 3;have hfz38_4:=blk_frozen BK228.out 4;have hcz39_0:w36.cell? ⟨gb227,0,none⟩ = some (.int .i64 a0_0):=(blk_cell BK227.out 0).trans rfl;have hcz39_1:w36.cell? ⟨gb227,1,none⟩ = some (.int .i64 a0_1):=(blk_cell BK227.out 1).trans rfl;have hcz39_2:w36.cell? ⟨gb227,2,none⟩ = some (.int .i64 a0_2):=(blk_cell BK227.out 2).trans rfl;have hcz39_3:w36.cell? ⟨gb227,3,none⟩ = some (.int .i64 a0_3):=(blk_cell BK227.out 3).trans rfl;have hcz39_4:w36.cell? ⟨gb227,4,none⟩ = some (.int .i64 a0_4):=(blk_cell BK227.out 4).trans rfl;have hcz39_5:w36.cell? ⟨gb227,5,none⟩ = some (.int .i64 a0_5):=(blk_cell BK227.out 5).trans rfl;have hcz39_6:w36.cell? ⟨gb227,6,none⟩ = some (.int .i64 a0_6):=(blk_cell BK227.out 6).trans rfl;have hfz39_0:=blk_frozen BK227.out 0;have hfz39_1:=blk_frozen BK227.out 1;have hfz39_2:=blk_frozen BK227.out 2;have hfz39_3:=blk_frozen BK227.out 3;have hfz39_4:=blk_frozen BK227.out 4;have hfz39_5:=blk_frozen BK227.out 5;have hfz39_6:=blk_frozen BK227.out 6))
          go_ret
          exact ⟨zmb13_8,zmb13_7⟩
        ·rw [if_neg c26] at H
         have c26b0:decide (a0_2≤31) = false:=decide_eq_false c26
         clear c26
         obtain rfl:=Option.some.inj H
         go_enter Try.func15,Try.ntmps15
         go_wp2_with (first|((with_reducible refine gate_dst (N:=1) rfl ?_);refine box_event ?hg (N:=1) ?hd (cs:=#[.int .i64 a0_0,.int .i64 a0_1,.int .i64 a0_2,.int .i64 a0_3,.int .i64 a0_4,.int .i64 a0_5,.int .i64 a0_6]) (t:=48) ?hr ?_;(case hd=>rfl);(case hg=>rfl);(case hr=>first|(go_simp;done)|(go_simp;rfl));intro gb227 hg w40 hbox hb;have n0_:=Aside0.mk (below_step zmb13_1 hb);have n1_:=Aside0.mk (hbox);have n2_:=Aside0.mk ((by rw [hg];exact (below_size zmb13_1):w.heap.size≤gb227));have n3_:=Aside0.mk ((by rw [hg];exact (below_size zmb13_1):w.heap.size≤gb227));clear HB;have HB:=n0_;have BK227:=n1_;have GW227:=n2_;have GE227:=n3_;clear n0_ n1_ n2_ n3_;clear hb hbox hg;have hcz41_0:w40.cell? ⟨gb227,0,none⟩ = some (.int .i64 a0_0):=(blk_cell BK227.out 0).trans rfl;have hcz41_1:w40.cell? ⟨gb227,1,none⟩ = some (.int .i64 a0_1):=(blk_cell BK227.out 1).trans rfl;have hcz41_2:w40.cell? ⟨gb227,2,none⟩ = some (.int .i64 a0_2):=(blk_cell BK227.out 2).trans rfl;have hcz41_3:w40.cell? ⟨gb227,3,none⟩ = some (.int .i64 a0_3):=(blk_cell BK227.out 3).trans rfl;have hcz41_4:w40.cell? ⟨gb227,4,none⟩ = some (.int .i64 a0_4):=(blk_cell BK227.out 4).trans rfl;have hcz41_5:w40.cell? ⟨gb227,5,none⟩ = some (.int .i64 a0_5):=(blk_cell BK227.out 5).trans rfl;have hcz41_6:w40.cell? ⟨gb227,6,none⟩ = some (.int .i64 a0_6):=(blk_cell BK227.out 6).trans rfl;have hfz41_0:=blk_frozen BK227.out 0;have hfz41_1:=blk_frozen BK227.out 1;have hfz41_2:=blk_frozen BK227.out 2;have hfz41_3:=blk_frozen BK227.out 3;have hfz41_4:=blk_frozen BK227.out 4;have hfz41_5:=blk_frozen BK227.out 5;have hfz41_6:=blk_frozen BK227.out 6)|((with_reducible refine gate_dst (N:=3) rfl ?_);refine box_event ?hg (N:=3) ?hd (cs:=#[.int .i64 0,.int .i64 0,.int .i64 0,.int .i64 0,.int .i64 0]) (t:=46) ?hr ?_;(case hd=>rfl);(case hg=>rfl);(case hr=>first|(go_simp;done)|(go_simp;rfl));intro gb228 hg w42 hbox hb;have n0_:=Aside0.mk (blk_below (g:=gb227) (o:=.cells #[.int .i64 a0_0,.int .i64 a0_1,.int .i64 a0_2,.int .i64 a0_3,.int .i64 a0_4,.int .i64 a0_5,.int .i64 a0_6] 48 (0,0)) zmb13_2 hb);have n1_:=Aside0.mk (below_step zmb13_3 hb);have n2_:=Aside0.mk (hbox);have n3_:=Aside0.mk ((by rw [hg];exact (below_size zmb13_3):w.heap.size≤gb228));have n4_:=Aside0.mk ((by rw [hg];exact (below_size zmb13_3):w.heap.size≤gb228));have n5_:=Aside0.mk ((by rw [hg];exact Nat.ne_of_lt (blk_lt (g:=gb227) (o:=.cells #[.int .i64 a0_0,.int .i64 a0_1,.int .i64 a0_2,.int .i64 a0_3,.int .i64 a0_4,.int .i64 a0_5,.int .i64 a0_6] 48 (0,0)) zmb13_2):gb227≠gb228));have n6_:=Aside0.mk ((by rw [hg];exact Nat.ne_of_gt (blk_lt (g:=gb227) (o:=.cells #[.int .i64 a0_0,.int .i64 a0_1,.int .i64 a0_2,.int .i64 a0_3,.int .i64 a0_4,.int .i64 a0_5,.int .i64 a0_6] 48 (0,0)) zmb13_2):gb228≠gb227));clear BK227 HB;have BK227:=n0_;have HB:=n1_;have BK228:=n2_;have GW228:=n3_;have GE228:=n4_;have NB227_228:=n5_;have NB228_227:=n6_;clear n0_ n1_ n2_ n3_ n4_ n5_ n6_;clear hb hbox hg;have hnb43:=NB228_227.out;have hnc43:=NB227_228.out;have hcz44_0:w42.cell? ⟨gb228,0,none⟩ = some (.int .i64 0):=(blk_cell BK228.out 0).trans rfl;have hcz44_1:w42.cell? ⟨gb228,1,none⟩ = some (.int .i64 0):=(blk_cell BK228.out 1).trans rfl;have hcz44_2:w42.cell? ⟨gb228,2,none⟩ = some (.int .i64 0):=(blk_cell BK228.out 2).trans rfl;have hcz44_3:w42.cell? ⟨gb228,3,none⟩ = some (.int .i64 0):=(blk_cell BK228.out 3).trans rfl;have hcz44_4:w42.cell? ⟨gb228,4,none⟩ = some (.int .i64 0):=(blk_cell BK228.out 4).trans rfl;have hfz44_0:=blk_frozen BK228.out 0;have hfz44_1:=blk_frozen BK228.out 1;have hfz44_2:=blk_frozen BK228.out 2;have hfz44_3:=blk_frozen BK228.out 3;have hfz44_4:=blk_frozen BK228.out 4;have hcz45_0:w42.cell? ⟨gb227,0,none⟩ = some (.int .i64 a0_0):=(blk_cell BK227.out 0).trans rfl;have hcz45_1:w42.cell? ⟨gb227,1,none⟩ = some (.int .i64 a0_1):=(blk_cell BK227.out 1).trans rfl;have hcz45_2:w42.cell? ⟨gb227,2,none⟩ = some (.int .i64 a0_2):=(blk_cell BK227.out 2).trans rfl;have hcz45_3:w42.cell? ⟨gb227,3,none⟩ = some (.int .i64 a0_3):=(blk_cell BK227.out 3).trans rfl;have hcz45_4:w42.cell? ⟨gb227,4,none⟩ = some (.int .i64 a0_4):=(blk_cell BK227.out 4).trans rfl;have hcz45_5:w42.cell? ⟨gb227,5,none⟩ = some (.int .i64 a0_5):=(blk_cell BK227.out 5).trans rfl;have hcz45_6:w42.cell? ⟨gb227,6,none⟩ = some (.int .i64 a0_6):=(blk_cell BK227.out 6).trans rfl;have hfz45_0:=blk_frozen BK227.out 0;have hfz45_1:=blk_frozen BK227.out 1;have hfz45_2:=blk_frozen BK227.out 2;have hfz45_3:=blk_frozen BK227.out 3;have hfz45_4:=blk_frozen BK227.out 4;have hfz45_5:=blk_frozen BK227.out 5;have hfz45_6:=blk_frozen BK227.out 6))
         go_ret
         exact ⟨zmb13_8,zmb13_7⟩
       ·rw [if_neg c25] at H
        have c25b0:decide (0≤a0_2) = false:=decide_eq_false c25
        clear c25
        obtain rfl:=Option.some.inj H
        go_enter Try.func15,Try.ntmps15
        go_wp2_with (first|((with_reducible refine gate_dst (N:=1) rfl ?_);refine box_event ?hg (N:=1) ?hd (cs:=#[.int .i64 a0_0,.int .i64 a0_1,.int .i64 a0_2,.int .i64 a0_3,.int .i64 a0_4,.int .i64 a0_5,.int .i64 a0_6]) (t:=48) ?hr ?_;(case hd=>rfl);(case hg=>rfl);(case hr=>first|(go_simp;done)|(go_simp;rfl));intro gb227 hg w46 hbox hb;have n0_:=Aside0.mk (below_step zmb13_1 hb);have n1_:=Aside0.mk (hbox);have n2_:=Aside0.mk ((by rw [hg];exact (below_size zmb13_1):w.heap.size≤gb227));have n3_:=Aside0.mk ((by rw [hg];exact (below_size zmb13_1):w.heap.size≤gb227));clear HB;have HB:=n0_;have BK227:=n1_;have GW227:=n2_;have GE227:=n3_;clear n0_ n1_ n2_ n3_;clear hb hbox hg;have hcz47_0:w46.cell? ⟨gb227,0,none⟩ = some (.int .i64 a0_0):=(blk_cell BK227.out 0).trans rfl;have hcz47_1:w46.cell? ⟨gb227,1,none⟩ = some (.int .i64 a0_1):=(blk_cell BK227.out 1).trans rfl;have hcz47_2:w46.cell? ⟨gb227,2,none⟩ = some (.int .i64 a0_2):=(blk_cell BK227.out 2).trans rfl;have hcz47_3:w46.cell? ⟨gb227,3,none⟩ = some (.int .i64 a0_3):=(blk_cell BK227.out 3).trans rfl;have hcz47_4:w46.cell? ⟨gb227,4,none⟩ = some (.int .i64 a0_4):=(blk_cell BK227.out 4).trans rfl;have hcz47_5:w46.cell? ⟨gb227,5,none⟩ = some (.int .i64 a0_5):=(blk_cell BK227.out 5).trans rfl;have hcz47_6:w46.cell? ⟨gb227,6,none⟩ = some (.int .i64 a0_6):=(blk_cell BK227.out 6).trans rfl;have hfz47_0:=blk_frozen BK227.out 0;have hfz47_1:=blk_frozen BK227.out 1;have hfz47_2:=blk_frozen BK227.out 2;have hfz47_3:=blk_frozen BK227.out 3;have hfz47_4:=blk_frozen BK227.out 4;have hfz47_5:=blk_frozen BK227.out 5;have hfz47_6:=blk_frozen BK227.out 6)|((with_reducible refine gate_dst (N:=3) rfl ?_);refine box_event ?hg (N:=3) ?hd (cs:=#[.int .i64 0,.int .i64 0,.int .i64 0,.int .i64 0,.int .i64 0]) (t:=46) ?hr ?_;(case hd=>rfl);(case hg=>rfl);(case hr=>first|(go_simp;done)|(go_simp;rfl));intro gb228 hg w48 hbox hb;have n0_:=Aside0.mk (blk_below (g:=gb227) (o:=.cells #[.int .i64 a0_0,.int .i64 a0_1,.int .i64 a0_2,.int .i64 a0_3,.int .i64 a0_4,.int .i64 a0_5,.int .i64 a0_6] 48 (0,0)) zmb13_2 hb);have n1_:=Aside0.mk (below_step zmb13_3 hb);have n2_:=Aside0.mk (hbox);have n3_:=Aside0.mk ((by rw [hg];exact (below_size zmb13_3):w.heap.size≤gb228));have n4_:=Aside0.mk ((by rw [hg];exact (below_size zmb13_3):w.heap.size≤gb228));have n5_:=Aside0.mk ((by rw [hg];exact Nat.ne_of_lt (blk_lt (g:=gb227) (o:=.cells #[.int .i64 a0_0,.int .i64 a0_1,.int .i64 a0_2,.int .i64 a0_3,.int .i64 a0_4,.int .i64 a0_5,.int .i64 a0_6] 48 (0,0)) zmb13_2):gb227≠gb228));have n6_:=Aside0.mk ((by rw [hg];exact Nat.ne_of_gt (blk_lt (g:=gb227) (o:=.cells #[.int .i64 a0_0,.int .i64 a0_1,.int .i64 a0_2,.int .i64 a0_3,.int .i64 a0_4,.int .i64 a0_5,.int .i64 a0_6] 48 (0,0)) zmb13_2):gb228≠gb227));clear BK227 HB;have BK227:=n0_;have HB:=n1_;have BK228:=n2_;have GW228:=n3_;have GE228:=n4_;have NB227_228:=n5_;have NB228_227:=n6_;clear n0_ n1_ n2_ n3_ n4_ n5_ n6_;clear hb hbox hg;have hnb49:=NB228_227.out;have hnc49:=NB227_228.out;have hcz50_0:w48.cell? ⟨gb228,0,none⟩ = some (.int .i64 0):=(blk_cell BK228.out 0).trans rfl;have hcz50_1:w48.cell? ⟨gb228,1,none⟩ = some (.int .i64 0):=(blk_cell BK228.out 1).trans rfl;have hcz50_2:w48.cell? ⟨gb228,2,none⟩ = some (.int .i64 0):=(blk_cell BK228.out 2).trans rfl;have hcz50_3:w48.cell? ⟨gb228,3,none⟩ = some (.int .i64 0):=(blk_cell BK228.out 3).trans rfl;have hcz50_4:w48.cell? ⟨gb228,4,none⟩ = some (.int .i64 0):=(blk_cell BK228.out 4).trans rfl;have hfz50_0:=blk_frozen BK228.out 0;have hfz50_1:=blk_frozen BK228.out 1;have hfz50_2:=blk_frozen BK228.out 2;have hfz50_3:=blk_frozen BK228.out 3;have hfz50_4:=blk_frozen BK228.out 4;have hcz51_0:w48.cell? ⟨gb227,0,none⟩ = some (.int .i64 a0_0):=(blk_cell BK227.out 0).trans rfl;have hcz51_1:w48.cell? ⟨gb227,1,none⟩ = some (.int .i64 a0_1):=(blk_cell BK227.out 1).trans rfl;have hcz51_2:w48.cell? ⟨gb227,2,none⟩ = some (.int .i64 a0_2):=(blk_cell BK227.out 2).trans rfl;have hcz51_3:w48.cell? ⟨gb227,3,none⟩ = some (.int .i64 a0_3):=(blk_cell BK227.out 3).trans rfl;have hcz51_4:w48.cell? ⟨gb227,4,none⟩ = some (.int .i64 a0_4):=(blk_cell BK227.out 4).trans rfl;have hcz51_5:w48.cell? ⟨gb227,5,none⟩ = some (.int .i64 a0_5):=(blk_cell BK227.out 5).trans rfl;have hcz51_6:w48.cell? ⟨gb227,6,none⟩ = some (.int .i64 a0_6):=(blk_cell BK227.out 6).trans rfl;have hfz51_0:=blk_frozen BK227.out 0;have hfz51_1:=blk_frozen BK227.out 1;have hfz51_2:=blk_frozen BK227.out 2;have hfz51_3:=blk_frozen BK227.out 3;have hfz51_4:=blk_frozen BK227.out 4;have hfz51_5:=blk_frozen BK227.out 5;have hfz51_6:=blk_frozen BK227.out 6))
        go_ret
        exact ⟨zmb13_8,zmb13_7⟩
      ·rw [if_neg c24] at H
       have c24b0:(a0_4 == 0) = false:=beq_eq_false_iff_ne.mpr c24
       have c24b1:(a0_4 != 0) = true:=bne_iff_ne.mpr c24
       obtain rfl:=Option.some.inj H
       go_enter Try.func15,Try.ntmps15
       go_wp2_with (first|((with_reducible refine gate_dst (N:=1) rfl ?_);refine box_event ?hg (N:=1) ?hd (cs:=#[.int .i64 a0_0,.int .i64 a0_1,.int .i64 a0_2,.int .i64 a0_3,.int .i64 a0_4,.int .i64 a0_5,.int .i64 a0_6]) (t:=48) ?hr ?_;(case hd=>rfl);(case hg=>rfl);(case hr=>first|(go_simp;done)|(go_simp;rfl));intro gb227 hg w52 hbox hb;have n0_:=Aside0.mk (below_step zmb13_1 hb);have n1_:=Aside0.mk (hbox);have n2_:=Aside0.mk ((by rw [hg];exact (below_size zmb13_1):w.heap.size≤gb227));have n3_:=Aside0.mk ((by rw [hg];exact (below_size zmb13_1):w.heap.size≤gb227));clear HB;have HB:=n0_;have BK227:=n1_;have GW227:=n2_;have GE227:=n3_;clear n0_ n1_ n2_ n3_;clear hb hbox hg;have hcz53_0:w52.cell? ⟨gb227,0,none⟩ = some (.int .i64 a0_0):=(blk_cell BK227.out 0).trans rfl;have hcz53_1:w52.cell? ⟨gb227,1,none⟩ = some (.int .i64 a0_1):=(blk_cell BK227.out 1).trans rfl;have hcz53_2:w52.cell? ⟨gb227,2,none⟩ = some (.int .i64 a0_2):=(blk_cell BK227.out 2).trans rfl;have hcz53_3:w52.cell? ⟨gb227,3,none⟩ = some (.int .i64 a0_3):=(blk_cell BK227.out 3).trans rfl;have hcz53_4:w52.cell? ⟨gb227,4,none⟩ = some (.int .i64 a0_4):=(blk_cell BK227.out 4).trans rfl;have hcz53_5:w52.cell? ⟨gb227,5,none⟩ = some (.int .i64 a0_5):=(blk_cell BK227.out 5).trans rfl;have hcz53_6:w52.cell? ⟨gb227,6,none⟩ = some (.int .i64 a0_6):=(blk_cell BK227.out 6).trans rfl;have hfz53_0:=blk_frozen BK227.out 0;have hfz53_1:=blk_frozen BK227.out 1;have hfz53_2:=blk_frozen BK227.out 2;have hfz53_3:=blk_frozen BK227.out 3;have hfz53_4:=blk_frozen BK227.out 4;have hfz53_5:=blk_frozen BK227.out 5;have hfz53_6:=blk_frozen BK227.out 6)|((with_reducible refine gate_dst (N:=3) rfl ?_);refine box_event ?hg (N:=3) ?hd (cs:=#[.int .i64 0,.int .i64 0,.int .i64 0,.int .i64 0,.int .i64 0]) (t:=46) ?hr ?_;(case hd=>rfl);(case hg=>rfl);(case hr=>first|(go_simp;done)|(go_simp;rfl));intro gb228 hg w54 hbox hb;have n0_:=Aside0.mk (blk_below (g:=gb227) (o:=.cells #[.int .i64 a0_0,.int .i64 a0_1,.int .i64 a0_2,.int .i64 a0_3,.int .i64 a0_4,.int .i64 a0_5,.int .i64 a0_6] 48 (0,0)) zmb13_2 hb);have n1_:=Aside0.mk (below_step zmb13_3 hb);have n2_:=Aside0.mk (hbox);have n3_:=Aside0.mk ((by rw [hg];exact (below_size zmb13_3):w.heap.size≤gb228));have n4_:=Aside0.mk ((by rw [hg];exact (below_size zmb13_3):w.heap.size≤gb228));have n5_:=Aside0.mk ((by rw [hg];exact Nat.ne_of_lt (blk_lt (g:=gb227) (o:=.cells #[.int .i64 a0_0,.int .i64 a0_1,.int .i64 a0_2,.int .i64 a0_3,.int .i64 a0_4,.int .i64 a0_5,.int .i64 a0_6] 48 (0,0)) zmb13_2):gb227≠gb228));have n6_:=Aside0.mk ((by rw [hg];exact Nat.ne_of_gt (blk_lt (g:=gb227) (o:=.cells #[.int .i64 a0_0,.int .i64 a0_1,.int .i64 a0_2,.int .i64 a0_3,.int .i64 a0_4,.int .i64 a0_5,.int .i64 a0_6] 48 (0,0)) zmb13_2):gb228≠gb227));clear BK227 HB;have BK227:=n0_;have HB:=n1_;have BK228:=n2_;have GW228:=n3_;have GE228:=n4_;have NB227_228:=n5_;have NB228_227:=n6_;clear n0_ n1_ n2_ n3_ n4_ n5_ n6_;clear hb hbox hg;have hnb55:=NB228_227.out;have hnc55:=NB227_228.out;have hcz56_0:w54.cell? ⟨gb228,0,none⟩ = some (.int .i64 0):=(blk_cell BK228.out 0).trans rfl;have hcz56_1:w54.cell? ⟨gb228,1,none⟩ = some (.int .i64 0):=(blk_cell BK228.out 1).trans rfl;have hcz56_2:w54.cell? ⟨gb228,2,none⟩ = some (.int .i64 0):=(blk_cell BK228.out 2).trans rfl;have hcz56_3:w54.cell? ⟨gb228,3,none⟩ = some (.int .i64 0):=(blk_cell BK228.out 3).trans rfl;have hcz56_4:w54.cell? ⟨gb228,4,none⟩ = some (.int .i64 0):=(blk_cell BK228.out 4).trans rfl;have hfz56_0:=blk_frozen BK228.out 0;have hfz56_1:=blk_frozen BK228.out 1;have hfz56_2:=blk_frozen BK228.out 2;have hfz56_3:=blk_frozen BK228.out 3;have hfz56_4:=blk_frozen BK228.out 4;have hcz57_0:w54.cell? ⟨gb227,0,none⟩ = some (.int .i64 a0_0):=(blk_cell BK227.out 0).trans rfl;have hcz57_1:w54.cell? ⟨gb227,1,none⟩ = some (.int .i64 a0_1):=(blk_cell BK227.out 1).trans rfl;have hcz57_2:w54.cell? ⟨gb227,2,none⟩ = some (.int .i64 a0_2):=(blk_cell BK227.out 2).trans rfl;have hcz57_3:w54.cell? ⟨gb227,3,none⟩ = some (.int .i64 a0_3):=(blk_cell BK227.out 3).trans rfl;have hcz57_4:w54.cell? ⟨gb227,4,none⟩ = some (.int .i64 a0_4):=(blk_cell BK227.out 4).trans rfl;have hcz57_5:w54.cell? ⟨gb227,5,none⟩ = some (.int .i64 a0_5):=(blk_cell BK227.out 5).trans rfl;have hcz57_6:w54.cell? ⟨gb227,6,none⟩ = some (.int .i64 a0_6):=(blk_cell BK227.out 6).trans rfl;have hfz57_0:=blk_frozen BK227.out 0;have hfz57_1:=blk_frozen BK227.out 1;have hfz57_2:=blk_frozen BK227.out 2;have hfz57_3:=blk_frozen BK227.out 3;have hfz57_4:=blk_frozen BK227.out 4;have hfz57_5:=blk_frozen BK227.out 5;have hfz57_6:=blk_frozen BK227.out 6))
       go_ret
       exact ⟨zmb13_8,zmb13_7⟩
     ·rw [if_neg c23] at H
      have c23b0:(a0_3 == 0) = false:=beq_eq_false_iff_ne.mpr c23
      have c23b1:(a0_3 != 0) = true:=bne_iff_ne.mpr c23
      obtain rfl:=Option.some.inj H
      go_enter Try.func15,Try.ntmps15
      go_wp2_with (first|((with_reducible refine gate_dst (N:=1) rfl ?_);refine box_event ?hg (N:=1) ?hd (cs:=#[.int .i64 a0_0,.int .i64 a0_1,.int .i64 a0_2,.int .i64 a0_3,.int .i64 a0_4,.int .i64 a0_5,.int .i64 a0_6]) (t:=48) ?hr ?_;(case hd=>rfl);(case hg=>rfl);(case hr=>first|(go_simp;done)|(go_simp;rfl));intro gb227 hg w58 hbox hb;have n0_:=Aside0.mk (below_step zmb13_1 hb);have n1_:=Aside0.mk (hbox);have n2_:=Aside0.mk ((by rw [hg];exact (below_size zmb13_1):w.heap.size≤gb227));have n3_:=Aside0.mk ((by rw [hg];exact (below_size zmb13_1):w.heap.size≤gb227));clear HB;have HB:=n0_;have BK227:=n1_;have GW227:=n2_;have GE227:=n3_;clear n0_ n1_ n2_ n3_;clear hb hbox hg;have hcz59_0:w58.cell? ⟨gb227,0,none⟩ = some (.int .i64 a0_0):=(blk_cell BK227.out 0).trans rfl;have hcz59_1:w58.cell? ⟨gb227,1,none⟩ = some (.int .i64 a0_1):=(blk_cell BK227.out 1).trans rfl;have hcz59_2:w58.cell? ⟨gb227,2,none⟩ = some (.int .i64 a0_2):=(blk_cell BK227.out 2).trans rfl;have hcz59_3:w58.cell? ⟨gb227,3,none⟩ = some (.int .i64 a0_3):=(blk_cell BK227.out 3).trans rfl;have hcz59_4:w58.cell? ⟨gb227,4,none⟩ = some (.int .i64 a0_4):=(blk_cell BK227.out 4).trans rfl;have hcz59_5:w58.cell? ⟨gb227,5,none⟩ = some (.int .i64 a0_5):=(blk_cell BK227.out 5).trans rfl;have hcz59_6:w58.cell? ⟨gb227,6,none⟩ = some (.int .i64 a0_6):=(blk_cell BK227.out 6).trans rfl;have hfz59_0:=blk_frozen BK227.out 0;have hfz59_1:=blk_frozen BK227.out 1;have hfz59_2:=blk_frozen BK227.out 2;have hfz59_3:=blk_frozen BK227.out 3;have hfz59_4:=blk_frozen BK227.out 4;have hfz59_5:=blk_frozen BK227.out 5;have hfz59_6:=blk_frozen BK227.out 6)|((with_reducible refine gate_dst (N:=3) rfl ?_);refine box_event ?hg (N:=3) ?hd (cs:=#[.int .i64 0,.int .i64 0,.int .i64 0,.int .i64 0,.int .i64 0]) (t:=46) ?hr ?_;(case hd=>rfl);(case hg=>rfl);(case hr=>first|(go_simp;done)|(go_simp;rfl));intro gb228 hg w60 hbox hb;have n0_:=Aside0.mk (blk_below (g:=gb227) (o:=.cells #[.int .i64 a0_0,.int .i64 a0_1,.int .i64 a0_2,.int .i64 a0_3,.int .i64 a0_4,.int .i64 a0_5,.int .i64 a0_6] 48 (0,0)) zmb13_2 hb);have n1_:=Aside0.mk (below_step zmb13_3 hb);have n2_:=Aside0.mk (hbox);have n3_:=Aside0.mk ((by rw [hg];exact (below_size zmb13_3):w.heap.size≤gb228));have n4_:=Aside0.mk ((by rw [hg];exact (below_size zmb13_3):w.heap.size≤gb228));have n5_:=Aside0.mk ((by rw [hg];exact Nat.ne_of_lt (blk_lt (g:=gb227) (o:=.cells #[.int .i64 a0_0,.int .i64 a0_1,.int .i64 a0_2,.int .i64 a0_3,.int .i64 a0_4,.int .i64 a0_5,.int .i64 a0_6] 48 (0,0)) zmb13_2):gb227≠gb228));have n6_:=Aside0.mk ((by rw [hg];exact Nat.ne_of_gt (blk_lt (g:=gb227) (o:=.cells #[.int .i64 a0_0,.int .i64 a0_1,.int .i64 a0_2,.int .i64 a0_3,.int .i64 a0_4,.int .i64 a0_5,.int .i64 a0_6] 48 (0,0)) zmb13_2):gb228≠gb227));clear BK227 HB;have BK227:=n0_;have HB:=n1_;have BK228:=n2_;have GW228:=n3_;have GE228:=n4_;have NB227_228:=n5_;have NB228_227:=n6_;clear n0_ n1_ n2_ n3_ n4_ n5_ n6_;clear hb hbox hg;have hnb61:=NB228_227.out;have hnc61:=NB227_228.out;have hcz62_0:w60.cell? ⟨gb228,0,none⟩ = some (.int .i64 0):=(blk_cell BK228.out 0).trans rfl;have hcz62_1:w60.cell? ⟨gb228,1,none⟩ = some (.int .i64 0):=(blk_cell BK228.out 1).trans rfl;have hcz62_2:w60.cell? ⟨gb228,2,none⟩ = some (.int .i64 0):=(blk_cell BK228.out 2).trans rfl;have hcz62_3:w60.cell? ⟨gb228,3,none⟩ = some (.int .i64 0):=(blk_cell BK228.out 3).trans rfl;have hcz62_4:w60.cell? ⟨gb228,4,none⟩ = some (.int .i64 0):=(blk_cell BK228.out 4).trans rfl;have hfz62_0:=blk_frozen BK228.out 0;have hfz62_1:=blk_frozen BK228.out 1;have hfz62_2:=blk_frozen BK228.out 2;have hfz62_3:=blk_frozen BK228.out 3;have hfz62_4:=blk_frozen BK228.out 4;have hcz63_0:w60.cell? ⟨gb227,0,none⟩ = some (.int .i64 a0_0):=(blk_cell BK227.out 0).trans rfl;have hcz63_1:w60.cell? ⟨gb227,1,none⟩ = some (.int .i64 a0_1):=(blk_cell BK227.out 1).trans rfl;have hcz63_2:w60.cell? ⟨gb227,2,none⟩ = some (.int .i64 a0_2):=(blk_cell BK227.out 2).trans rfl;have hcz63_3:w60.cell? ⟨gb227,3,none⟩ = some (.int .i64 a0_3):=(blk_cell BK227.out 3).trans rfl;have hcz63_4:w60.cell? ⟨gb227,4,none⟩ = some (.int .i64 a0_4):=(blk_cell BK227.out 4).trans rfl;have hcz63_5:w60.cell? ⟨gb227,5,none⟩ = some (.int .i64 a0_5):=(blk_cell BK227.out 5).trans rfl;have hcz63_6:w60.cell? ⟨gb227,6,none⟩ = some (.int .i64 a0_6):=(blk_cell BK227.out 6).trans rfl;have hfz63_0:=blk_frozen BK227.out 0;have hfz63_1:=blk_frozen BK227.out 1;have hfz63_2:=blk_frozen BK227.out 2;have hfz63_3:=blk_frozen BK227.out 3;have hfz63_4:=blk_frozen BK227.out 4;have hfz63_5:=blk_frozen BK227.out 5;have hfz63_6:=blk_frozen BK227.out 6))
      go_ret
      exact ⟨zmb13_8,zmb13_7⟩
    ·rw [if_neg c22] at H
     have c22b0:(a0_1 == 0) = false:=beq_eq_false_iff_ne.mpr c22
     have c22b1:(a0_1 != 0) = true:=bne_iff_ne.mpr c22
     obtain rfl:=Option.some.inj H
     go_enter Try.func15,Try.ntmps15
     go_wp2_with (first|((with_reducible refine gate_dst (N:=1) rfl ?_);refine box_event ?hg (N:=1) ?hd (cs:=#[.int .i64 a0_0,.int .i64 a0_1,.int .i64 a0_2,.int .i64 a0_3,.int .i64 a0_4,.int .i64 a0_5,.int .i64 a0_6]) (t:=48) ?hr ?_;(case hd=>rfl);(case hg=>rfl);(case hr=>first|(go_simp;done)|(go_simp;rfl));intro gb227 hg w64 hbox hb;have n0_:=Aside0.mk (below_step zmb13_1 hb);have n1_:=Aside0.mk (hbox);have n2_:=Aside0.mk ((by rw [hg];exact (below_size zmb13_1):w.heap.size≤gb227));have n3_:=Aside0.mk ((by rw [hg];exact (below_size zmb13_1):w.heap.size≤gb227));clear HB;have HB:=n0_;have BK227:=n1_;have GW227:=n2_;have GE227:=n3_;clear n0_ n1_ n2_ n3_;clear hb hbox hg;have hcz65_0:w64.cell? ⟨gb227,0,none⟩ = some (.int .i64 a0_0):=(blk_cell BK227.out 0).trans rfl;have hcz65_1:w64.cell? ⟨gb227,1,none⟩ = some (.int .i64 a0_1):=(blk_cell BK227.out 1).trans rfl;have hcz65_2:w64.cell? ⟨gb227,2,none⟩ = some (.int .i64 a0_2):=(blk_cell BK227.out 2).trans rfl;have hcz65_3:w64.cell? ⟨gb227,3,none⟩ = some (.int .i64 a0_3):=(blk_cell BK227.out 3).trans rfl;have hcz65_4:w64.cell? ⟨gb227,4,none⟩ = some (.int .i64 a0_4):=(blk_cell BK227.out 4).trans rfl;have hcz65_5:w64.cell? ⟨gb227,5,none⟩ = some (.int .i64 a0_5):=(blk_cell BK227.out 5).trans rfl;have hcz65_6:w64.cell? ⟨gb227,6,none⟩ = some (.int .i64 a0_6):=(blk_cell BK227.out 6).trans rfl;have hfz65_0:=blk_frozen BK227.out 0;have hfz65_1:=blk_frozen BK227.out 1;have hfz65_2:=blk_frozen BK227.out 2;have hfz65_3:=blk_frozen BK227.out 3;have hfz65_4:=blk_frozen BK227.out 4;have hfz65_5:=blk_frozen BK227.out 5;have hfz65_6:=blk_frozen BK227.out 6)|((with_reducible refine gate_dst (N:=3) rfl ?_);refine box_event ?hg (N:=3) ?hd (cs:=#[.int .i64 0,.int .i64 0,.int .i64 0,.int .i64 0,.int .i64 0]) (t:=46) ?hr ?_;(case hd=>rfl);(case hg=>rfl);(case hr=>first|(go_simp;done)|(go_simp;rfl));intro gb228 hg w66 hbox hb;have n0_:=Aside0.mk (blk_below (g:=gb227) (o:=.cells #[.int .i64 a0_0,.int .i64 a0_1,.int .i64 a0_2,.int .i64 a0_3,.int .i64 a0_4,.int .i64 a0_5,.int .i64 a0_6] 48 (0,0)) zmb13_2 hb);have n1_:=Aside0.mk (below_step zmb13_3 hb);have n2_:=Aside0.mk (hbox);have n3_:=Aside0.mk ((by rw [hg];exact (below_size zmb13_3):w.heap.size≤gb228));have n4_:=Aside0.mk ((by rw [hg];exact (below_size zmb13_3):w.heap.size≤gb228));have n5_:=Aside0.mk ((by rw [hg];exact Nat.ne_of_lt (blk_lt (g:=gb227) (o:=.cells #[.int .i64 a0_0,.int .i64 a0_1,.int .i64 a0_2,.int .i64 a0_3,.int .i64 a0_4,.int .i64 a0_5,.int .i64 a0_6] 48 (0,0)) zmb13_2):gb227≠gb228));have n6_:=Aside0.mk ((by rw [hg];exact Nat.ne_of_gt (blk_lt (g:=gb227) (o:=.cells #[.int .i64 a0_0,.int .i64 a0_1,.int .i64 a0_2,.int .i64 a0_3,.int .i64 a0_4,.int .i64 a0_5,.int .i64 a0_6] 48 (0,0)) zmb13_2):gb228≠gb227));clear BK227 HB;have BK227:=n0_;have HB:=n1_;have BK228:=n2_;have GW228:=n3_;have GE228:=n4_;have NB227_228:=n5_;have NB228_227:=n6_;clear n0_ n1_ n2_ n3_ n4_ n5_ n6_;clear hb hbox hg;have hnb67:=NB228_227.out;have hnc67:=NB227_228.out;have hcz68_0:w66.cell? ⟨gb228,0,none⟩ = some (.int .i64 0):=(blk_cell BK228.out 0).trans rfl;have hcz68_1:w66.cell? ⟨gb228,1,none⟩ = some (.int .i64 0):=(blk_cell BK228.out 1).trans rfl;have hcz68_2:w66.cell? ⟨gb228,2,none⟩ = some (.int .i64 0):=(blk_cell BK228.out 2).trans rfl;have hcz68_3:w66.cell? ⟨gb228,3,none⟩ = some (.int .i64 0):=(blk_cell BK228.out 3).trans rfl;have hcz68_4:w66.cell? ⟨gb228,4,none⟩ = some (.int .i64 0):=(blk_cell BK228.out 4).trans rfl;have hfz68_0:=blk_frozen BK228.out 0;have hfz68_1:=blk_frozen BK228.out 1;have hfz68_2:=blk_frozen BK228.out 2;have hfz68_3:=blk_frozen BK228.out 3;have hfz68_4:=blk_frozen BK228.out 4;have hcz69_0:w66.cell? ⟨gb227,0,none⟩ = some (.int .i64 a0_0):=(blk_cell BK227.out 0).trans rfl;have hcz69_1:w66.cell? ⟨gb227,1,none⟩ = some (.int .i64 a0_1):=(blk_cell BK227.out 1).trans rfl;have hcz69_2:w66.cell? ⟨gb227,2,none⟩ = some (.int .i64 a0_2):=(blk_cell BK227.out 2).trans rfl;have hcz69_3:w66.cell? ⟨gb227,3,none⟩ = some (.int .i64 a0_3):=(blk_cell BK227.out 3).trans rfl;have hcz69_4:w66.cell? ⟨gb227,4,none⟩ = some (.int .i64 a0_4):=(blk_cell BK227.out 4).trans rfl;have hcz69_5:w66.cell? ⟨gb227,5,none⟩ = some (.int .i64 a0_5):=(blk_cell BK227.out 5).trans rfl;have hcz69_6:w66.cell? ⟨gb227,6,none⟩ = some (.int .i64 a0_6):=(blk_cell BK227.out 6).trans rfl;have hfz69_0:=blk_frozen BK227.out 0;have hfz69_1:=blk_frozen BK227.out 1;have hfz69_2:=blk_frozen BK227.out 2;have hfz69_3:=blk_frozen BK227.out 3;have hfz69_4:=blk_frozen BK227.out 4;have hfz69_5:=blk_frozen BK227.out 5;have hfz69_6:=blk_frozen BK227.out 6))
     go_ret
     exact ⟨zmb13_8,zmb13_7⟩
   ·rw [if_neg c21] at H
    have c21b0:(a0_6 == 0) = false:=beq_eq_false_iff_ne.mpr c21
    have c21b1:(a0_6 != 0) = true:=bne_iff_ne.mpr c21
    obtain rfl:=Option.some.inj H
    go_enter Try.func15,Try.ntmps15
    go_wp2_with (first|((with_reducible refine gate_dst (N:=1) rfl ?_);refine box_event ?hg (N:=1) ?hd (cs:=#[.int .i64 a0_0,.int .i64 a0_1,.int .i64 a0_2,.int .i64 a0_3,.int .i64 a0_4,.int .i64 a0_5,.int .i64 a0_6]) (t:=48) ?hr ?_;(case hd=>rfl);(case hg=>rfl);(case hr=>first|(go_simp;done)|(go_simp;rfl));intro gb227 hg w70 hbox hb;have n0_:=Aside0.mk (below_step zmb13_1 hb);have n1_:=Aside0.mk (hbox);have n2_:=Aside0.mk ((by rw [hg];exact (below_size zmb13_1):w.heap.size≤gb227));have n3_:=Aside0.mk ((by rw [hg];exact (below_size zmb13_1):w.heap.size≤gb227));clear HB;have HB:=n0_;have BK227:=n1_;have GW227:=n2_;have GE227:=n3_;clear n0_ n1_ n2_ n3_;clear hb hbox hg;have hcz71_0:w70.cell? ⟨gb227,0,none⟩ = some (.int .i64 a0_0):=(blk_cell BK227.out 0).trans rfl;have hcz71_1:w70.cell? ⟨gb227,1,none⟩ = some (.int .i64 a0_1):=(blk_cell BK227.out 1).trans rfl;have hcz71_2:w70.cell? ⟨gb227,2,none⟩ = some (.int .i64 a0_2):=(blk_cell BK227.out 2).trans rfl;have hcz71_3:w70.cell? ⟨gb227,3,none⟩ = some (.int .i64 a0_3):=(blk_cell BK227.out 3).trans rfl;have hcz71_4:w70.cell? ⟨gb227,4,none⟩ = some (.int .i64 a0_4):=(blk_cell BK227.out 4).trans rfl;have hcz71_5:w70.cell? ⟨gb227,5,none⟩ = some (.int .i64 a0_5):=(blk_cell BK227.out 5).trans rfl;have hcz71_6:w70.cell? ⟨gb227,6,none⟩ = some (.int .i64 a0_6):=(blk_cell BK227.out 6).trans rfl;have hfz71_0:=blk_frozen BK227.out 0;have hfz71_1:=blk_frozen BK227.out 1;have hfz71_2:=blk_frozen BK227.out 2;have hfz71_3:=blk_frozen BK227.out 3;have hfz71_4:=blk_frozen BK227.out 4;have hfz71_5:=blk_frozen BK227.out 5;have hfz71_6:=blk_frozen BK227.out 6)|((with_reducible refine gate_dst (N:=3) rfl ?_);refine box_event ?hg (N:=3) ?hd (cs:=#[.int .i64 0,.int .i64 0,.int .i64 0,.int .i64 0,.int .i64 0]) (t:=46) ?hr ?_;(case hd=>rfl);(case hg=>rfl);(case hr=>first|(go_simp;done)|(go_simp;rfl));intro gb228 hg w72 hbox hb;have n0_:=Aside0.mk (blk_below (g:=gb227) (o:=.cells #[.int .i64 a0_0,.int .i64 a0_1,.int .i64 a0_2,.int .i64 a0_3,.int .i64 a0_4,.int .i64 a0_5,.int .i64 a0_6] 48 (0,0)) zmb13_2 hb);have n1_:=Aside0.mk (below_step zmb13_3 hb);have n2_:=Aside0.mk (hbox);have n3_:=Aside0.mk ((by rw [hg];exact (below_size zmb13_3):w.heap.size≤gb228));have n4_:=Aside0.mk ((by rw [hg];exact (below_size zmb13_3):w.heap.size≤gb228));have n5_:=Aside0.mk ((by rw [hg];exact Nat.ne_of_lt (blk_lt (g:=gb227) (o:=.cells #[.int .i64 a0_0,.int .i64 a0_1,.int .i64 a0_2,.int .i64 a0_3,.int .i64 a0_4,.int .i64 a0_5,.int .i64 a0_6] 48 (0,0)) zmb13_2):gb227≠gb228));have n6_:=Aside0.mk ((by rw [hg];exact Nat.ne_of_gt (blk_lt (g:=gb227) (o:=.cells #[.int .i64 a0_0,.int .i64 a0_1,.int .i64 a0_2,.int .i64 a0_3,.int .i64 a0_4,.int .i64 a0_5,.int .i64 a0_6] 48 (0,0)) zmb13_2):gb228≠gb227));clear BK227 HB;have BK227:=n0_;have HB:=n1_;have BK228:=n2_;have GW228:=n3_;have GE228:=n4_;have NB227_228:=n5_;have NB228_227:=n6_;clear n0_ n1_ n2_ n3_ n4_ n5_ n6_;clear hb hbox hg;have hnb73:=NB228_227.out;have hnc73:=NB227_228.out;have hcz74_0:w72.cell? ⟨gb228,0,none⟩ = some (.int .i64 0):=(blk_cell BK228.out 0).trans rfl;have hcz74_1:w72.cell? ⟨gb228,1,none⟩ = some (.int .i64 0):=(blk_cell BK228.out 1).trans rfl;have hcz74_2:w72.cell? ⟨gb228,2,none⟩ = some (.int .i64 0):=(blk_cell BK228.out 2).trans rfl;have hcz74_3:w72.cell? ⟨gb228,3,none⟩ = some (.int .i64 0):=(blk_cell BK228.out 3).trans rfl;have hcz74_4:w72.cell? ⟨gb228,4,none⟩ = some (.int .i64 0):=(blk_cell BK228.out 4).trans rfl;have hfz74_0:=blk_frozen BK228.out 0;have hfz74_1:=blk_frozen BK228.out 1;have hfz74_2:=blk_frozen BK228.out 2;have hfz74_3:=blk_frozen BK228.out 3;have hfz74_4:=blk_frozen BK228.out 4;have hcz75_0:w72.cell? ⟨gb227,0,none⟩ = some (.int .i64 a0_0):=(blk_cell BK227.out 0).trans rfl;have hcz75_1:w72.cell? ⟨gb227,1,none⟩ = some (.int .i64 a0_1):=(blk_cell BK227.out 1).trans rfl;have hcz75_2:w72.cell? ⟨gb227,2,none⟩ = some (.int .i64 a0_2):=(blk_cell BK227.out 2).trans rfl;have hcz75_3:w72.cell? ⟨gb227,3,none⟩ = some (.int .i64 a0_3):=(blk_cell BK227.out 3).trans rfl;have hcz75_4:w72.cell? ⟨gb227,4,none⟩ = some (.int .i64 a0_4):=(blk_cell BK227.out 4).trans rfl;have hcz75_5:w72.cell? ⟨gb227,5,none⟩ = some (.int .i64 a0_5):=(blk_cell BK227.out 5).trans rfl;have hcz75_6:w72.cell? ⟨gb227,6,none⟩ = some (.int .i64 a0_6):=(blk_cell BK227.out 6).trans rfl;have hfz75_0:=blk_frozen BK227.out 0;have hfz75_1:=blk_frozen BK227.out 1;have hfz75_2:=blk_frozen BK227.out 2;have hfz75_3:=blk_frozen BK227.out 3;have hfz75_4:=blk_frozen BK227.out 4;have hfz75_5:=blk_frozen BK227.out 5;have hfz75_6:=blk_frozen BK227.out 6))
    go_ret
    exact ⟨zmb13_8,zmb13_7⟩
  ·rw [if_neg c20] at H
   have c20b0:(a0_0 == 5) = false:=beq_eq_false_iff_ne.mpr c20
   have c20b1:(a0_0 != 5) = true:=bne_iff_ne.mpr c20
   have HC76:=Aside0.mk H
   clear H
   go_enter Try.func15,Try.ntmps15
   go_upto_region 6 with (first|((with_reducible refine gate_dst (N:=1) rfl ?_);refine box_event ?hg (N:=1) ?hd (cs:=#[.int .i64 a0_0,.int .i64 a0_1,.int .i64 a0_2,.int .i64 a0_3,.int .i64 a0_4,.int .i64 a0_5,.int .i64 a0_6]) (t:=48) ?hr ?_;(case hd=>rfl);(case hg=>rfl);(case hr=>first|(go_simp;done)|(go_simp;rfl));intro gb227 hg w77 hbox hb;have n0_:=Aside0.mk (below_step zmb13_1 hb);have n1_:=Aside0.mk (hbox);have n2_:=Aside0.mk ((by rw [hg];exact (below_size zmb13_1):w.heap.size≤gb227));have n3_:=Aside0.mk ((by rw [hg];exact (below_size zmb13_1):w.heap.size≤gb227));clear HB;have HB:=n0_;have BK227:=n1_;have GW227:=n2_;have GE227:=n3_;clear n0_ n1_ n2_ n3_;clear hb hbox hg;have hcz78_0:w77.cell? ⟨gb227,0,none⟩ = some (.int .i64 a0_0):=(blk_cell BK227.out 0).trans rfl;have hcz78_1:w77.cell? ⟨gb227,1,none⟩ = some (.int .i64 a0_1):=(blk_cell BK227.out 1).trans rfl;have hcz78_2:w77.cell? ⟨gb227,2,none⟩ = some (.int .i64 a0_2):=(blk_cell BK227.out 2).trans rfl;have hcz78_3:w77.cell? ⟨gb227,3,none⟩ = some (.int .i64 a0_3):=(blk_cell BK227.out 3).trans rfl;have hcz78_4:w77.cell? ⟨gb227,4,none⟩ = some (.int .i64 a0_4):=(blk_cell BK227.out 4).trans rfl;have hcz78_5:w77.cell? ⟨gb227,5,none⟩ = some (.int .i64 a0_5):=(blk_cell BK227.out 5).trans rfl;have hcz78_6:w77.cell? ⟨gb227,6,none⟩ = some (.int .i64 a0_6):=(blk_cell BK227.out 6).trans rfl;have hfz78_0:=blk_frozen BK227.out 0;have hfz78_1:=blk_frozen BK227.out 1;have hfz78_2:=blk_frozen BK227.out 2;have hfz78_3:=blk_frozen BK227.out 3;have hfz78_4:=blk_frozen BK227.out 4;have hfz78_5:=blk_frozen BK227.out 5;have hfz78_6:=blk_frozen BK227.out 6)|((with_reducible refine gate_dst (N:=3) rfl ?_);refine box_event ?hg (N:=3) ?hd (cs:=#[.int .i64 0,.int .i64 0,.int .i64 0,.int .i64 0,.int .i64 0]) (t:=46) ?hr ?_;(case hd=>rfl);(case hg=>rfl);(case hr=>first|(go_simp;done)|(go_simp;rfl));intro gb228 hg w79 hbox hb;have n0_:=Aside0.mk (blk_below (g:=gb227) (o:=.cells #[.int .i64 a0_0,.int .i64 a0_1,.int .i64 a0_2,.int .i64 a0_3,.int .i64 a0_4,.int .i64 a0_5,.int .i64 a0_6] 48 (0,0)) zmb13_2 hb);have n1_:=Aside0.mk (below_step zmb13_3 hb);have n2_:=Aside0.mk (hbox);have n3_:=Aside0.mk ((by rw [hg];exact (below_size zmb13_3):w.heap.size≤gb228));have n4_:=Aside0.mk ((by rw [hg];exact (below_size zmb13_3):w.heap.size≤gb228));have n5_:=Aside0.mk ((by rw [hg];exact Nat.ne_of_lt (blk_lt (g:=gb227) (o:=.cells #[.int .i64 a0_0,.int .i64 a0_1,.int .i64 a0_2,.int .i64 a0_3,.int .i64 a0_4,.int .i64 a0_5,.int .i64 a0_6] 48 (0,0)) zmb13_2):gb227≠gb228));have n6_:=Aside0.mk ((by rw [hg];exact Nat.ne_of_gt (blk_lt (g:=gb227) (o:=.cells #[.int .i64 a0_0,.int .i64 a0_1,.int .i64 a0_2,.int .i64 a0_3,.int .i64 a0_4,.int .i64 a0_5,.int .i64 a0_6] 48 (0,0)) zmb13_2):gb228≠gb227));clear BK227 HB;have BK227:=n0_;have HB:=n1_;have BK228:=n2_;have GW228:=n3_;have GE228:=n4_;have NB227_228:=n5_;have NB228_227:=n6_;clear n0_ n1_ n2_ n3_ n4_ n5_ n6_;clear hb hbox hg;have hnb80:=NB228_227.out;have hnc80:=NB227_228.out;have hcz81_0:w79.cell? ⟨gb228,0,none⟩ = some (.int .i64 0):=(blk_cell BK228.out 0).trans rfl;have hcz81_1:w79.cell? ⟨gb228,1,none⟩ = some (.int .i64 0):=(blk_cell BK228.out 1).trans rfl;have hcz81_2:w79.cell? ⟨gb228,2,none⟩ = some (.int .i64 0):=(blk_cell BK228.out 2).trans rfl;have hcz81_3:w79.cell? ⟨gb228,3,none⟩ = some (.int .i64 0):=(blk_cell BK228.out 3).trans rfl;have hcz81_4:w79.cell? ⟨gb228,4,none⟩ = some (.int .i64 0):=(blk_cell BK228.out 4).trans rfl;have hfz81_0:=blk_frozen BK228.out 0;have hfz81_1:=blk_frozen BK228.out 1;have hfz81_2:=blk_frozen BK228.out 2;have hfz81_3:=blk_frozen BK228.out 3;have hfz81_4:=blk_frozen BK228.out 4;have hcz82_0:w79.cell? ⟨gb227,0,none⟩ = some (.int .i64 a0_0):=(blk_cell BK227.out 0).trans rfl;have hcz82_1:w79.cell? ⟨gb227,1,none⟩ = some (.int .i64 a0_1):=(blk_cell BK227.out 1).trans rfl;have hcz82_2:w79.cell? ⟨gb227,2,none⟩ = some (.int .i64 a0_2):=(blk_cell BK227.out 2).trans rfl;have hcz82_3:w79.cell? ⟨gb227,3,none⟩ = some (.int .i64 a0_3):=(blk_cell BK227.out 3).trans rfl;have hcz82_4:w79.cell? ⟨gb227,4,none⟩ = some (.int .i64 a0_4):=(blk_cell BK227.out 4).trans rfl;have hcz82_5:w79.cell? ⟨gb227,5,none⟩ = some (.int .i64 a0_5):=(blk_cell BK227.out 5).trans rfl;have hcz82_6:w79.cell? ⟨gb227,6,none⟩ = some (.int .i64 a0_6):=(blk_cell BK227.out 6).trans rfl;have hfz82_0:=blk_frozen BK227.out 0;have hfz82_1:=blk_frozen BK227.out 1;have hfz82_2:=blk_frozen BK227.out 2;have hfz82_3:=blk_frozen BK227.out 3;have hfz82_4:=blk_frozen BK227.out 4;have hfz82_5:=blk_frozen BK227.out 5;have hfz82_6:=blk_frozen BK227.out 6))
   (try simp only [Act.put,List.setIfInBounds_toArray,List.set_cons_zero,List.set_cons_succ])
   go_cut [65] (fun v65 wc=>∃ (kq:Nat) (x65_75:Bool),v65 = .bool x65_75∧Aside0 (rushlightref05_Right.j0 kq x65_75 a0_0 a0_1 a0_2 a0_3 a0_4 a0_5 a0_6 a0_1 a0_2 a0_3 a0_4 a0_5 = some r)∧Aside0 (kq≤k)∧Aside0 (wc.heap[gb227]? = some (.cells #[.int .i64 a0_0,.int .i64 a0_1,.int .i64 a0_2,.int .i64 a0_3,.int .i64 a0_4,.int .i64 a0_5,.int .i64 a0_6] 48 (0,0)))∧Aside0 (wc.heap[gb228]? = some (.cells #[.int .i64 a0_1,.int .i64 a0_2,.int .i64 a0_3,.int .i64 a0_4,.int .i64 a0_5] 46 (0,0)))∧Aside0 (Below w.heap.size w wc))
   case first =>
    have H:=HC76.out
    clear HC76
    by_cases c83:a0_6 < 0
    ·rw [if_pos c83] at H
     have c83b0:decide (a0_6 < 0) = true:=decide_eq_true c83
     clear c83
     (first|rw [c83b0]|(simp only [i64_w,i32_w];rw [c83b0])|skip)
     have H':=Aside0.mk H
     clear H
     have hnb84:=NB227_228.out
     have hnc84:=NB228_227.out
     have hcz85_0:w79.cell? ⟨gb227,0,none⟩ = some (.int .i64 a0_0):=(blk_cell BK227.out 0).trans rfl
     have hcz85_1:w79.cell? ⟨gb227,1,none⟩ = some (.int .i64 a0_1):=(blk_cell BK227.out 1).trans rfl
     have hcz85_2:w79.cell? ⟨gb227,2,none⟩ = some (.int .i64 a0_2):=(blk_cell BK227.out 2).trans rfl
     have hcz85_3:w79.cell? ⟨gb227,3,none⟩ = some (.int .i64 a0_3):=(blk_cell BK227.out 3).trans rfl
     have hcz85_4:w79.cell? ⟨gb227,4,none⟩ = some (.int .i64 a0_4):=(blk_cell BK227.out 4).trans rfl
     have hcz85_5:w79.cell? ⟨gb227,5,none⟩ = some (.int .i64 a0_5):=(blk_cell BK227.out 5).trans rfl
     have hcz85_6:w79.cell? ⟨gb227,6,none⟩ = some (.int .i64 a0_6):=(blk_cell BK227.out 6).trans rfl
     have hfz85_0:=blk_frozen BK227.out 0
     have hfz85_1:=blk_frozen BK227.out 1
     have hfz85_2:=blk_frozen BK227.out 2
     have hfz85_3:=blk_frozen BK227.out 3
     have hfz85_4:=blk_frozen BK227.out 4
     have hfz85_5:=blk_frozen BK227.out 5
     have hfz85_6:=blk_frozen BK227.out 6
     go_wp2
     go_meet
     case rel=>exact ⟨_,(true),zmb13_9,H',⟨by first|omega|exact Nat.le_refl _⟩,⟨zmb13_5⟩,⟨zmb13_6⟩,⟨zmb13_7⟩⟩
    ·rw [if_neg c83] at H
     have c83b0:decide (a0_6 < 0) = false:=decide_eq_false c83
     clear c83
     (first|rw [c83b0]|(simp only [i64_w,i32_w];rw [c83b0])|skip)
     have H':=Aside0.mk H
     clear H
     have hnb86:=NB227_228.out
     have hnc86:=NB228_227.out
     have hcz87_0:w79.cell? ⟨gb227,0,none⟩ = some (.int .i64 a0_0):=(blk_cell BK227.out 0).trans rfl
     have hcz87_1:w79.cell? ⟨gb227,1,none⟩ = some (.int .i64 a0_1):=(blk_cell BK227.out 1).trans rfl
     have hcz87_2:w79.cell? ⟨gb227,2,none⟩ = some (.int .i64 a0_2):=(blk_cell BK227.out 2).trans rfl
     have hcz87_3:w79.cell? ⟨gb227,3,none⟩ = some (.int .i64 a0_3):=(blk_cell BK227.out 3).trans rfl
     have hcz87_4:w79.cell? ⟨gb227,4,none⟩ = some (.int .i64 a0_4):=(blk_cell BK227.out 4).trans rfl
     have hcz87_5:w79.cell? ⟨gb227,5,none⟩ = some (.int .i64 a0_5):=(blk_cell BK227.out 5).trans rfl
     have hcz87_6:w79.cell? ⟨gb227,6,none⟩ = some (.int .i64 a0_6):=(blk_cell BK227.out 6).trans rfl
     have hfz87_0:=blk_frozen BK227.out 0
     have hfz87_1:=blk_frozen BK227.out 1
     have hfz87_2:=blk_frozen BK227.out 2
     have hfz87_3:=blk_frozen BK227.out 3
     have hfz87_4:=blk_frozen BK227.out 4
     have hfz87_5:=blk_frozen BK227.out 5
     have hfz87_6:=blk_frozen BK227.out 6
     go_wp2
     go_meet
     case rel=>exact ⟨_,(decide (a0_6 > 4095)),zmb13_9,H',⟨by first|omega|exact Nat.le_refl _⟩,⟨zmb13_5⟩,⟨zmb13_6⟩,⟨zmb13_7⟩⟩
   case rest =>
    clear HC76
    try clear c1
    try clear c2
    try clear c2b0
    try clear c2b1
    try clear p2
    try clear c3
    try clear c4
    try clear c5
    try clear c6
    try clear c7
    try clear c8
    try clear c15
    try clear c16
    try clear c20
    try clear c20b0
    try clear c20b1
    try clear c21
    try clear c21b0
    try clear c21b1
    try clear c22
    try clear c22b0
    try clear c22b1
    try clear c23
    try clear c23b0
    try clear c23b1
    try clear c24
    try clear c24b0
    try clear c24b1
    try clear c25
    try clear c25b0
    try clear c26
    try clear c26b0
    try clear c27
    try clear c27b0
    try clear c31
    try clear c36
    try clear c37
    try clear c43
    try clear c49
    try clear c55
    try clear c61
    try clear c67
    try clear c73
    try clear c80
    try clear c83
    try clear c83b0
    try clear c84
    try clear c86
    try clear hcz10_0
    try clear hcz10_1
    try clear hcz10_2
    try clear hcz10_3
    try clear hcz10_4
    try clear hcz10_5
    try clear hcz10_6
    try clear hcz12_0
    try clear hcz12_1
    try clear hcz12_2
    try clear hcz12_3
    try clear hcz12_4
    try clear hcz12_5
    try clear hcz12_6
    try clear hcz14_0
    try clear hcz14_1
    try clear hcz14_2
    try clear hcz14_3
    try clear hcz14_4
    try clear hcz14_5
    try clear hcz14_6
    try clear hcz17_0
    try clear hcz17_1
    try clear hcz17_2
    try clear hcz17_3
    try clear hcz17_4
    try clear hcz18_0
    try clear hcz18_1
    try clear hcz18_2
    try clear hcz18_3
    try clear hcz18_4
    try clear hcz18_5
    try clear hcz18_6
    try clear hcz29_0
    try clear hcz29_1
    try clear hcz29_2
    try clear hcz29_3
    try clear hcz29_4
    try clear hcz29_5
    try clear hcz29_6
    try clear hcz32_0
    try clear hcz32_1
    try clear hcz32_2
    try clear hcz32_3
    try clear hcz32_4
    try clear hcz33_0
    try clear hcz33_1
    try clear hcz33_2
    try clear hcz33_3
    try clear hcz33_4
    try clear hcz33_5
    try clear hcz33_6
    try clear hcz35_0
    try clear hcz35_1
    try clear hcz35_2
    try clear hcz35_3
    try clear hcz35_4
    try clear hcz35_5
    try clear hcz35_6
    try clear hcz38_0
    try clear hcz38_1
    try clear hcz38_2
    try clear hcz38_3
    try clear hcz38_4
    try clear hcz39_0
    try clear hcz39_1
    try clear hcz39_2
    try clear hcz39_3
    try clear hcz39_4
    try clear hcz39_5
    try clear hcz39_6
    try clear hcz41_0
    try clear hcz41_1
    try clear hcz41_2
    try clear hcz41_3
    try clear hcz41_4
    try clear hcz41_5
    try clear hcz41_6
    try clear hcz44_0
    try clear hcz44_1
    try clear hcz44_2
    try clear hcz44_3
    try clear hcz44_4
    try clear hcz45_0
    try clear hcz45_1
    try clear hcz45_2
    try clear hcz45_3
    try clear hcz45_4
    try clear hcz45_5
    try clear hcz45_6
    try clear hcz47_0
    try clear hcz47_1
    try clear hcz47_2
    try clear hcz47_3
    try clear hcz47_4
    try clear hcz47_5
    try clear hcz47_6
    try clear hcz50_0
    try clear hcz50_1
    try clear hcz50_2
    try clear hcz50_3
    try clear hcz50_4
    try clear hcz51_0
    try clear hcz51_1
    try clear hcz51_2
    try clear hcz51_3
    try clear hcz51_4
    try clear hcz51_5
    try clear hcz51_6
    try clear hcz53_0
    try clear hcz53_1
    try clear hcz53_2
    try clear hcz53_3
    try clear hcz53_4
    try clear hcz53_5
    try clear hcz53_6
    try clear hcz56_0
    try clear hcz56_1
    try clear hcz56_2
    try clear hcz56_3
    try clear hcz56_4
    try clear hcz57_0
    try clear hcz57_1
    try clear hcz57_2
    try clear hcz57_3
    try clear hcz57_4
    try clear hcz57_5
    try clear hcz57_6
    try clear hcz59_0
    try clear hcz59_1
    try clear hcz59_2
    try clear hcz59_3
    try clear hcz59_4
    try clear hcz59_5
    try clear hcz59_6
    try clear hcz62_0
    try clear hcz62_1
    try clear hcz62_2
    try clear hcz62_3
    try clear hcz62_4
    try clear hcz63_0
    try clear hcz63_1
    try clear hcz63_2
    try clear hcz63_3
    try clear hcz63_4
    try clear hcz63_5
    try clear hcz63_6
    try clear hcz65_0
    try clear hcz65_1
    try clear hcz65_2
    try clear hcz65_3
    try clear hcz65_4
    try clear hcz65_5
    try clear hcz65_6
    try clear hcz68_0
    try clear hcz68_1
    try clear hcz68_2
    try clear hcz68_3
    try clear hcz68_4
    try clear hcz69_0
    try clear hcz69_1
    try clear hcz69_2
    try clear hcz69_3
    try clear hcz69_4
    try clear hcz69_5
    try clear hcz69_6
    try clear hcz6_0
    try clear hcz6_1
    try clear hcz6_2
    try clear hcz6_3
    try clear hcz6_4
    try clear hcz6_5
    try clear hcz6_6
    try clear hcz71_0
    try clear hcz71_1
    try clear hcz71_2
    try clear hcz71_3
    try clear hcz71_4
    try clear hcz71_5
    try clear hcz71_6
    try clear hcz74_0
    try clear hcz74_1
    try clear hcz74_2
    try clear hcz74_3
    try clear hcz74_4
    try clear hcz75_0
    try clear hcz75_1
    try clear hcz75_2
    try clear hcz75_3
    try clear hcz75_4
    try clear hcz75_5
    try clear hcz75_6
    try clear hcz78_0
    try clear hcz78_1
    try clear hcz78_2
    try clear hcz78_3
    try clear hcz78_4
    try clear hcz78_5
    try clear hcz78_6
    try clear hcz81_0
    try clear hcz81_1
    try clear hcz81_2
    try clear hcz81_3
    try clear hcz81_4
    try clear hcz82_0
    try clear hcz82_1
    try clear hcz82_2
    try clear hcz82_3
    try clear hcz82_4
    try clear hcz82_5
    try clear hcz82_6
    try clear hcz85_0
    try clear hcz85_1
    try clear hcz85_2
    try clear hcz85_3
    try clear hcz85_4
    try clear hcz85_5
    try clear hcz85_6
    try clear hcz87_0
    try clear hcz87_1
    try clear hcz87_2
    try clear hcz87_3
    try clear hcz87_4
    try clear hcz87_5
    try clear hcz87_6
    try clear hcz9_0
    try clear hcz9_1
    try clear hcz9_2
    try clear hcz9_3
    try clear hcz9_4
    try clear hfz10_0
    try clear hfz10_1
    try clear hfz10_2
    try clear hfz10_3
    try clear hfz10_4
    try clear hfz10_5
    try clear hfz10_6
    try clear hfz12_0
    try clear hfz12_1
    try clear hfz12_2
    try clear hfz12_3
    try clear hfz12_4
    try clear hfz12_5
    try clear hfz12_6
    try clear hfz14_0
    try clear hfz14_1
    try clear hfz14_2
    try clear hfz14_3
    try clear hfz14_4
    try clear hfz14_5
    try clear hfz14_6
    try clear hfz17_0
    try clear hfz17_1
    try clear hfz17_2
    try clear hfz17_3
    try clear hfz17_4
    try clear hfz18_0
    try clear hfz18_1
    try clear hfz18_2
    try clear hfz18_3
    try clear hfz18_4
    try clear hfz18_5
    try clear hfz18_6
    try clear hfz29_0
    try clear hfz29_1
    try clear hfz29_2
    try clear hfz29_3
    try clear hfz29_4
    try clear hfz29_5
    try clear hfz29_6
    try clear hfz32_0
    try clear hfz32_1
    try clear hfz32_2
    try clear hfz32_3
    try clear hfz32_4
    try clear hfz33_0
    try clear hfz33_1
    try clear hfz33_2
    try clear hfz33_3
    try clear hfz33_4
    try clear hfz33_5
    try clear hfz33_6
    try clear hfz35_0
    try clear hfz35_1
    try clear hfz35_2
    try clear hfz35_3
    try clear hfz35_4
    try clear hfz35_5
    try clear hfz35_6
    try clear hfz38_0
    try clear hfz38_1
    try clear hfz38_2
    try clear hfz38_3
    try clear hfz38_4
    try clear hfz39_0
    try clear hfz39_1
    try clear hfz39_2
    try clear hfz39_3
    try clear hfz39_4
    try clear hfz39_5
    try clear hfz39_6
    try clear hfz41_0
    try clear hfz41_1
    try clear hfz41_2
    try clear hfz41_3
    try clear hfz41_4
    try clear hfz41_5
    try clear hfz41_6
    try clear hfz44_0
    try clear hfz44_1
    try clear hfz44_2
    try clear hfz44_3
    try clear hfz44_4
    try clear hfz45_0
    try clear hfz45_1
    try clear hfz45_2
    try clear hfz45_3
    try clear hfz45_4
    try clear hfz45_5
    try clear hfz45_6
    try clear hfz47_0
    try clear hfz47_1
    try clear hfz47_2
    try clear hfz47_3
    try clear hfz47_4
    try clear hfz47_5
    try clear hfz47_6
    try clear hfz50_0
    try clear hfz50_1
    try clear hfz50_2
    try clear hfz50_3
    try clear hfz50_4
    try clear hfz51_0
    try clear hfz51_1
    try clear hfz51_2
    try clear hfz51_3
    try clear hfz51_4
    try clear hfz51_5
    try clear hfz51_6
    try clear hfz53_0
    try clear hfz53_1
    try clear hfz53_2
    try clear hfz53_3
    try clear hfz53_4
    try clear hfz53_5
    try clear hfz53_6
    try clear hfz56_0
    try clear hfz56_1
    try clear hfz56_2
    try clear hfz56_3
    try clear hfz56_4
    try clear hfz57_0
    try clear hfz57_1
    try clear hfz57_2
    try clear hfz57_3
    try clear hfz57_4
    try clear hfz57_5
    try clear hfz57_6
    try clear hfz59_0
    try clear hfz59_1
    try clear hfz59_2
    try clear hfz59_3
    try clear hfz59_4
    try clear hfz59_5
    try clear hfz59_6
    try clear hfz62_0
    try clear hfz62_1
    try clear hfz62_2
    try clear hfz62_3
    try clear hfz62_4
    try clear hfz63_0
    try clear hfz63_1
    try clear hfz63_2
    try clear hfz63_3
    try clear hfz63_4
    try clear hfz63_5
    try clear hfz63_6
    try clear hfz65_0
    try clear hfz65_1
    try clear hfz65_2
    try clear hfz65_3
    try clear hfz65_4
    try clear hfz65_5
    try clear hfz65_6
    try clear hfz68_0
    try clear hfz68_1
    try clear hfz68_2
    try clear hfz68_3
    try clear hfz68_4
    try clear hfz69_0
    try clear hfz69_1
    try clear hfz69_2
    try clear hfz69_3
    try clear hfz69_4
    try clear hfz69_5
    try clear hfz69_6
    try clear hfz6_0
    try clear hfz6_1
    try clear hfz6_2
    try clear hfz6_3
    try clear hfz6_4
    try clear hfz6_5
    try clear hfz6_6
    try clear hfz71_0
    try clear hfz71_1
    try clear hfz71_2
    try clear hfz71_3
    try clear hfz71_4
    try clear hfz71_5
    try clear hfz71_6
    try clear hfz74_0
    try clear hfz74_1
    try clear hfz74_2
    try clear hfz74_3
    try clear hfz74_4
    try clear hfz75_0
    try clear hfz75_1
    try clear hfz75_2
    try clear hfz75_3
    try clear hfz75_4
    try clear hfz75_5
    try clear hfz75_6
    try clear hfz78_0
    try clear hfz78_1
    try clear hfz78_2
    try clear hfz78_3
    try clear hfz78_4
    try clear hfz78_5
    try clear hfz78_6
    try clear hfz81_0
    try clear hfz81_1
    try clear hfz81_2
    try clear hfz81_3
    try clear hfz81_4
    try clear hfz82_0
    try clear hfz82_1
    try clear hfz82_2
    try clear hfz82_3
    try clear hfz82_4
    try clear hfz82_5
    try clear hfz82_6
    try clear hfz85_0
    try clear hfz85_1
    try clear hfz85_2
    try clear hfz85_3
    try clear hfz85_4
    try clear hfz85_5
    try clear hfz85_6
    try clear hfz87_0
    try clear hfz87_1
    try clear hfz87_2
    try clear hfz87_3
    try clear hfz87_4
    try clear hfz87_5
    try clear hfz87_6
    try clear hfz9_0
    try clear hfz9_1
    try clear hfz9_2
    try clear hfz9_3
    try clear hfz9_4
    obtain ⟨kq,x65_75,rfl,HA,HJ75,BK227,BK228,HB⟩:=hcut
    cases kq with
    | zero=>exact absurd HA.out (by simp [rushlightref05_Right.j0])
    | succ kj75 =>
     have H:=HA.out
     clear HA
     simp only [rushlightref05_Right.j0] at H
     by_cases c88:x65_75 = true
     ·subst c88
      have H1:(some false) = some r:=by rw [if_pos rfl] at H;exact H
      clear H
      have H:=H1
      clear H1
      obtain rfl:=Option.some.inj H
      go_wp2
      go_ret
      exact ⟨zmb13_8,zmb13_7⟩
     ·replace c88:=Bool.eq_false_iff.mpr c88
      subst c88
      have H1:(if a0_0 = 2 then (some (a0_1 == 0 && (a0_2 == 0 && (a0_3 == 0 && (a0_4 == 0 && (a0_5 == 0)))))) else (if a0_0 = 3 then ((rushlightref05_branch.f a0_1).bind fun t231=>(if t231 = true then ((rushlightref02_Right.f kj75 a0_1 a0_2 a0_3 a0_4 a0_5).bind fun t232=>(if t232 = true then (some (a0_5 == 0)) else (some false))) else (some false))) else (if a0_0 = 4 then (if a0_1 = 3 then ((rushlightref02_Right.f kj75 a0_1 a0_2 a0_3 a0_4 a0_5).bind fun t233=>(if t233 = true then (some (a0_5 == 0)) else (some false))) else (some false)) else (some false)))) = some r:=by rw [if_neg (show ¬ (false = true) by decide)] at H;exact H
      clear H
      have H:=H1
      clear H1
      by_cases c89:a0_0 = 2
      ·rw [if_pos c89] at H
       have c89b0:(a0_0 == 2) = true:=beq_iff_eq.mpr c89
       have c89b1:(a0_0 != 2) = false:=bne_eq_false_iff_eq.mpr c89
       clear c89
       obtain rfl:=Option.some.inj H
       have hnb90:=NB227_228.out
       have hnc90:=NB228_227.out
       have hcz91_0:wc.cell? ⟨gb227,0,none⟩ = some (.int .i64 a0_0):=(blk_cell BK227.out 0).trans rfl
       have hcz91_1:wc.cell? ⟨gb227,1,none⟩ = some (.int .i64 a0_1):=(blk_cell BK227.out 1).trans rfl
       have hcz91_2:wc.cell? ⟨gb227,2,none⟩ = some (.int .i64 a0_2):=(blk_cell BK227.out 2).trans rfl
       have hcz91_3:wc.cell? ⟨gb227,3,none⟩ = some (.int .i64 a0_3):=(blk_cell BK227.out 3).trans rfl
       have hcz91_4:wc.cell? ⟨gb227,4,none⟩ = some (.int .i64 a0_4):=(blk_cell BK227.out 4).trans rfl
       have hcz91_5:wc.cell? ⟨gb227,5,none⟩ = some (.int .i64 a0_5):=(blk_cell BK227.out 5).trans rfl
       have hcz91_6:wc.cell? ⟨gb227,6,none⟩ = some (.int .i64 a0_6):=(blk_cell BK227.out 6).trans rfl
       have hfz91_0:=blk_frozen BK227.out 0
       have hfz91_1:=blk_frozen BK227.out 1
       have hfz91_2:=blk_frozen BK227.out 2
       have hfz91_3:=blk_frozen BK227.out 3
       have hfz91_4:=blk_frozen BK227.out 4
       have hfz91_5:=blk_frozen BK227.out 5
       have hfz91_6:=blk_frozen BK227.out 6
       go_wp2_with (first|((with_reducible refine gate_dst (N:=4) rfl ?_);refine box_event ?hg (N:=4) ?hd (cs:=#[.int .i64 0,.int .i64 0,.int .i64 0,.int .i64 0,.int .i64 0]) (t:=46) ?hr ?_;(case hd=>rfl);(case hg=>rfl);(case hr=>first|(go_simp;done)|(go_simp;rfl));intro gb230 hg w92 hbox hb;have n0_:=Aside0.mk (blk_below (g:=gb227) (o:=.cells #[.int .i64 a0_0,.int .i64 a0_1,.int .i64 a0_2,.int .i64 a0_3,.int .i64 a0_4,.int .i64 a0_5,.int .i64 a0_6] 48 (0,0)) zmb13_2 hb);have n1_:=Aside0.mk (blk_below (g:=gb228) (o:=.cells #[.int .i64 a0_1,.int .i64 a0_2,.int .i64 a0_3,.int .i64 a0_4,.int .i64 a0_5] 46 (0,0)) zmb13_10 hb);have n2_:=Aside0.mk (below_step zmb13_7 hb);have n3_:=Aside0.mk (hbox);have n4_:=Aside0.mk ((by rw [hg];exact (below_size zmb13_7):w.heap.size≤gb230));have n5_:=Aside0.mk ((by rw [hg];exact (below_size zmb13_7):w.heap.size≤gb230));have n6_:=Aside0.mk ((by rw [hg];exact Nat.ne_of_lt (blk_lt (g:=gb227) (o:=.cells #[.int .i64 a0_0,.int .i64 a0_1,.int .i64 a0_2,.int .i64 a0_3,.int .i64 a0_4,.int .i64 a0_5,.int .i64 a0_6] 48 (0,0)) zmb13_2):gb227≠gb230));have n7_:=Aside0.mk ((by rw [hg];exact Nat.ne_of_gt (blk_lt (g:=gb227) (o:=.cells #[.int .i64 a0_0,.int .i64 a0_1,.int .i64 a0_2,.int .i64 a0_3,.int .i64 a0_4,.int .i64 a0_5,.int .i64 a0_6] 48 (0,0)) zmb13_2):gb230≠gb227));have n8_:=Aside0.mk ((by rw [hg];exact Nat.ne_of_lt (blk_lt (g:=gb228) (o:=.cells #[.int .i64 a0_1,.int .i64 a0_2,.int .i64 a0_3,.int .i64 a0_4,.int .i64 a0_5] 46 (0,0)) zmb13_10):gb228≠gb230));have n9_:=Aside0.mk ((by rw [hg];exact Nat.ne_of_gt (blk_lt (g:=gb228) (o:=.cells #[.int .i64 a0_1,.int .i64 a0_2,.int .i64 a0_3,.int .i64 a0_4,.int .i64 a0_5] 46 (0,0)) zmb13_10):gb230≠gb228));clear BK227 BK228 HB;have BK227:=n0_;have BK228:=n1_;have HB:=n2_;have BK230:=n3_;have GW230:=n4_;have GE230:=n5_;have NB227_230:=n6_;have NB230_227:=n7_;have NB228_230:=n8_;have NB230_228:=n9_;clear n0_ n1_ n2_ n3_ n4_ n5_ n6_ n7_ n8_ n9_;clear hb hbox hg;have hnb93:=NB228_230.out;have hnc93:=NB230_228.out;have hcz94_0:w92.cell? ⟨gb228,0,none⟩ = some (.int .i64 a0_1):=(blk_cell BK228.out 0).trans rfl;have hcz94_1:w92.cell? ⟨gb228,1,none⟩ = some (.int .i64 a0_2):=(blk_cell BK228.out 1).trans rfl;have hcz94_2:w92.cell? ⟨gb228,2,none⟩ = some (.int .i64 a0_3):=(blk_cell BK228.out 2).trans rfl;have hcz94_3:w92.cell? ⟨gb228,3,none⟩ = some (.int .i64 a0_4):=(blk_cell BK228.out 3).trans rfl;have hcz94_4:w92.cell? ⟨gb228,4,none⟩ = some (.int .i64 a0_5):=(blk_cell BK228.out 4).trans rfl;have hfz94_0:=blk_frozen BK228.out 0;have hfz94_1:=blk_frozen BK228.out 1;have hfz94_2:=blk_frozen BK228.out 2;have hfz94_3:=blk_frozen BK228.out 3;have hfz94_4:=blk_frozen BK228.out 4;have hnb95:=NB230_227.out;have hnc95:=NB227_230.out;have hcz96_0:w92.cell? ⟨gb230,0,none⟩ = some (.int .i64 0):=(blk_cell BK230.out 0).trans rfl;have hcz96_1:w92.cell? ⟨gb230,1,none⟩ = some (.int .i64 0):=(blk_cell BK230.out 1).trans rfl;have hcz96_2:w92.cell? ⟨gb230,2,none⟩ = some (.int .i64 0):=(blk_cell BK230.out 2).trans rfl;have hcz96_3:w92.cell? ⟨gb230,3,none⟩ = some (.int .i64 0):=(blk_cell BK230.out 3).trans rfl;have hcz96_4:w92.cell? ⟨gb230,4,none⟩ = some (.int .i64 0):=(blk_cell BK230.out 4).trans rfl;have hfz96_0:=blk_frozen BK230.out 0;have hfz96_1:=blk_frozen BK230.out 1;have hfz96_2:=blk_frozen BK230.out 2;have hfz96_3:=blk_frozen BK230.out 3;have hfz96_4:=blk_frozen BK230.out 4))
       go_ret
       exact ⟨zmb13_8,by repeat (first|(with_reducible first|exact HB.out|apply below_alloc|apply pw_below_drewN|apply below_drew1|refine below_set ?_ GE227.out|refine below_set ?_ GE228.out|refine below_set ?_ GE230.out)|exact HB.out)⟩
      ·rw [if_neg c89] at H
       have c89b0:(a0_0 == 2) = false:=beq_eq_false_iff_ne.mpr c89
       have c89b1:(a0_0 != 2) = true:=bne_iff_ne.mpr c89
       by_cases c97:a0_0 = 3
       ·rw [if_pos c97] at H
        have c97b0:(a0_0 == 3) = true:=beq_iff_eq.mpr c97
        have c97b1:(a0_0 != 3) = false:=bne_eq_false_iff_eq.mpr c97
        clear c97
        replace H:=Option.bind_eq_some_iff.mp H
        obtain ⟨t231,A980,H⟩:=H
        replace H:(if t231 = true then ((rushlightref02_Right.f kj75 a0_1 a0_2 a0_3 a0_4 a0_5).bind fun t232=>(if t232 = true then (some (a0_5 == 0)) else (some false))) else (some false)) = some r:=H
        have A98:=Aside0.mk A980
        clear A980
        by_cases c99:t231 = true
        ·subst c99
         have H1:((rushlightref02_Right.f kj75 a0_1 a0_2 a0_3 a0_4 a0_5).bind fun t232=>(if t232 = true then (some (a0_5 == 0)) else (some false))) = some r:=by rw [if_pos rfl] at H;exact H
         clear H
         have H:=H1
         clear H1
         replace H:=Option.bind_eq_some_iff.mp H
         obtain ⟨t232,A1000,H⟩:=H
         replace H:(if t232 = true then (some (a0_5 == 0)) else (some false)) = some r:=H
         have A100:=Aside0.mk A1000
         clear A1000
         by_cases c101:t232 = true
         ·subst c101
          have H1:(some (a0_5 == 0)) = some r:=by rw [if_pos rfl] at H;exact H
          clear H
          have H:=H1
          clear H1
          obtain rfl:=Option.some.inj H
          have hnb102:=NB227_228.out
          have hnc102:=NB228_227.out
          have hcz103_0:wc.cell? ⟨gb227,0,none⟩ = some (.int .i64 a0_0):=(blk_cell BK227.out 0).trans rfl
          have hcz103_1:wc.cell? ⟨gb227,1,none⟩ = some (.int .i64 a0_1):=(blk_cell BK227.out 1).trans rfl
          have hcz103_2:wc.cell? ⟨gb227,2,none⟩ = some (.int .i64 a0_2):=(blk_cell BK227.out 2).trans rfl
          have hcz103_3:wc.cell? ⟨gb227,3,none⟩ = some (.int .i64 a0_3):=(blk_cell BK227.out 3).trans rfl
          have hcz103_4:wc.cell? ⟨gb227,4,none⟩ = some (.int .i64 a0_4):=(blk_cell BK227.out 4).trans rfl
          have hcz103_5:wc.cell? ⟨gb227,5,none⟩ = some (.int .i64 a0_5):=(blk_cell BK227.out 5).trans rfl
          have hcz103_6:wc.cell? ⟨gb227,6,none⟩ = some (.int .i64 a0_6):=(blk_cell BK227.out 6).trans rfl
          have hfz103_0:=blk_frozen BK227.out 0
          have hfz103_1:=blk_frozen BK227.out 1
          have hfz103_2:=blk_frozen BK227.out 2
          have hfz103_3:=blk_frozen BK227.out 3
          have hfz103_4:=blk_frozen BK227.out 4
          have hfz103_5:=blk_frozen BK227.out 5
          have hfz103_6:=blk_frozen BK227.out 6
          have hcz104_0:wc.cell? ⟨gb228,0,none⟩ = some (.int .i64 a0_1):=(blk_cell BK228.out 0).trans rfl
          have hcz104_1:wc.cell? ⟨gb228,1,none⟩ = some (.int .i64 a0_2):=(blk_cell BK228.out 1).trans rfl
          have hcz104_2:wc.cell? ⟨gb228,2,none⟩ = some (.int .i64 a0_3):=(blk_cell BK228.out 2).trans rfl
          have hcz104_3:wc.cell? ⟨gb228,3,none⟩ = some (.int .i64 a0_4):=(blk_cell BK228.out 3).trans rfl
          have hcz104_4:wc.cell? ⟨gb228,4,none⟩ = some (.int .i64 a0_5):=(blk_cell BK228.out 4).trans rfl
          have hfz104_0:=blk_frozen BK228.out 0
          have hfz104_1:=blk_frozen BK228.out 1
          have hfz104_2:=blk_frozen BK228.out 2
          have hfz104_3:=blk_frozen BK228.out 3
          have hfz104_4:=blk_frozen BK228.out 4
          go_wp2_with (first|((with_reducible refine gate_callee (f:=37) rfl ?_);refine goesL_ (some 77) rfl rfl Try.func37 (by kernel_rfl) rfl #[.int .i64 a0_1] rfl zmb13_4 ?_;(with_reducible refine (rushlightref05_branch.calls a0_1 true _ A98.out).mono ?_);rintro e w' ⟨rfl,⟨nd,rfl⟩⟩;refine ⟨_,rfl,?_⟩)|(go_at_call 36;(with_reducible refine (rushlightref02_Right.calls kj75 a0_1 a0_2 a0_3 a0_4 a0_5 true _ A100.out).mono ?_);rintro e w105 ⟨rfl,hb⟩;have n0_:=Aside0.mk (blk_below (g:=gb227) (o:=.cells #[.int .i64 a0_0,.int .i64 a0_1,.int .i64 a0_2,.int .i64 a0_3,.int .i64 a0_4,.int .i64 a0_5,.int .i64 a0_6] 48 (0,0)) zmb13_2 hb);have n1_:=Aside0.mk (blk_below (g:=gb228) (o:=.cells #[.int .i64 a0_1,.int .i64 a0_2,.int .i64 a0_3,.int .i64 a0_4,.int .i64 a0_5] 46 (0,0)) zmb13_10 hb);have n2_:=Aside0.mk (below_step zmb13_7 hb);clear BK227 BK228 HB;have BK227:=n0_;have BK228:=n1_;have HB:=n2_;clear n0_ n1_ n2_;(try clear hb);(try clear hb2);(try clear hk);(try clear hi);have hcz106_0:w105.cell? ⟨gb228,0,none⟩ = some (.int .i64 a0_1):=(blk_cell BK228.out 0).trans rfl;have hcz106_1:w105.cell? ⟨gb228,1,none⟩ = some (.int .i64 a0_2):=(blk_cell BK228.out 1).trans rfl;have hcz106_2:w105.cell? ⟨gb228,2,none⟩ = some (.int .i64 a0_3):=(blk_cell BK228.out 2).trans rfl;have hcz106_3:w105.cell? ⟨gb228,3,none⟩ = some (.int .i64 a0_4):=(blk_cell BK228.out 3).trans rfl;have hcz106_4:w105.cell? ⟨gb228,4,none⟩ = some (.int .i64 a0_5):=(blk_cell BK228.out 4).trans rfl;have hfz106_0:=blk_frozen BK228.out 0;have hfz106_1:=blk_frozen BK228.out 1;have hfz106_2:=blk_frozen BK228.out 2;have hfz106_3:=blk_frozen BK228.out 3;have hfz106_4:=blk_frozen BK228.out 4))
          go_ret
          exact ⟨zmb13_8,zmb13_7⟩
         ·replace c101:=Bool.eq_false_iff.mpr c101
          subst c101
          have H1:(some false) = some r:=by rw [if_neg (show ¬ (false = true) by decide)] at H;exact H
          clear H
          have H:=H1
          clear H1
          obtain rfl:=Option.some.inj H
          have hnb107:=NB227_228.out
          have hnc107:=NB228_227.out
          have hcz108_0:wc.cell? ⟨gb227,0,none⟩ = some (.int .i64 a0_0):=(blk_cell BK227.out 0).trans rfl
          have hcz108_1:wc.cell? ⟨gb227,1,none⟩ = some (.int .i64 a0_1):=(blk_cell BK227.out 1).trans rfl
          have hcz108_2:wc.cell? ⟨gb227,2,none⟩ = some (.int .i64 a0_2):=(blk_cell BK227.out 2).trans rfl
          have hcz108_3:wc.cell? ⟨gb227,3,none⟩ = some (.int .i64 a0_3):=(blk_cell BK227.out 3).trans rfl
          have hcz108_4:wc.cell? ⟨gb227,4,none⟩ = some (.int .i64 a0_4):=(blk_cell BK227.out 4).trans rfl
          have hcz108_5:wc.cell? ⟨gb227,5,none⟩ = some (.int .i64 a0_5):=(blk_cell BK227.out 5).trans rfl
          have hcz108_6:wc.cell? ⟨gb227,6,none⟩ = some (.int .i64 a0_6):=(blk_cell BK227.out 6).trans rfl
          have hfz108_0:=blk_frozen BK227.out 0
          have hfz108_1:=blk_frozen BK227.out 1
          have hfz108_2:=blk_frozen BK227.out 2
          have hfz108_3:=blk_frozen BK227.out 3
          have hfz108_4:=blk_frozen BK227.out 4
          have hfz108_5:=blk_frozen BK227.out 5
          have hfz108_6:=blk_frozen BK227.out 6
          have hcz109_0:wc.cell? ⟨gb228,0,none⟩ = some (.int .i64 a0_1):=(blk_cell BK228.out 0).trans rfl
          have hcz109_1:wc.cell? ⟨gb228,1,none⟩ = some (.int .i64 a0_2):=(blk_cell BK228.out 1).trans rfl
          have hcz109_2:wc.cell? ⟨gb228,2,none⟩ = some (.int .i64 a0_3):=(blk_cell BK228.out 2).trans rfl
          have hcz109_3:wc.cell? ⟨gb228,3,none⟩ = some (.int .i64 a0_4):=(blk_cell BK228.out 3).trans rfl
          have hcz109_4:wc.cell? ⟨gb228,4,none⟩ = some (.int .i64 a0_5):=(blk_cell BK228.out 4).trans rfl
          have hfz109_0:=blk_frozen BK228.out 0
          have hfz109_1:=blk_frozen BK228.out 1
          have hfz109_2:=blk_frozen BK228.out 2
          have hfz109_3:=blk_frozen BK228.out 3
          have hfz109_4:=blk_frozen BK228.out 4
          go_wp2_with (first|((with_reducible refine gate_callee (f:=37) rfl ?_);refine goesL_ (some 77) rfl rfl Try.func37 (by kernel_rfl) rfl #[.int .i64 a0_1] rfl zmb13_4 ?_;(with_reducible refine (rushlightref05_branch.calls a0_1 true _ A98.out).mono ?_);rintro e w' ⟨rfl,⟨nd,rfl⟩⟩;refine ⟨_,rfl,?_⟩)|(go_at_call 36;(with_reducible refine (rushlightref02_Right.calls kj75 a0_1 a0_2 a0_3 a0_4 a0_5 false _ A100.out).mono ?_);rintro e w110 ⟨rfl,hb⟩;have n0_:=Aside0.mk (blk_below (g:=gb227) (o:=.cells #[.int .i64 a0_0,.int .i64 a0_1,.int .i64 a0_2,.int .i64 a0_3,.int .i64 a0_4,.int .i64 a0_5,.int .i64 a0_6] 48 (0,0)) zmb13_2 hb);have n1_:=Aside0.mk (blk_below (g:=gb228) (o:=.cells #[.int .i64 a0_1,.int .i64 a0_2,.int .i64 a0_3,.int .i64 a0_4,.int .i64 a0_5] 46 (0,0)) zmb13_10 hb);have n2_:=Aside0.mk (below_step zmb13_7 hb);clear BK227 BK228 HB;have BK227:=n0_;have BK228:=n1_;have HB:=n2_;clear n0_ n1_ n2_;(try clear hb);(try clear hb2);(try clear hk);(try clear hi)))
          go_ret
          exact ⟨zmb13_8,zmb13_7⟩
        ·replace c99:=Bool.eq_false_iff.mpr c99
         subst c99
         have H1:(some false) = some r:=by rw [if_neg (show ¬ (false = true) by decide)] at H;exact H
         clear H
         have H:=H1
         clear H1
         obtain rfl:=Option.some.inj H
         have hnb111:=NB227_228.out
         have hnc111:=NB228_227.out
         have hcz112_0:wc.cell? ⟨gb227,0,none⟩ = some (.int .i64 a0_0):=(blk_cell BK227.out 0).trans rfl
         have hcz112_1:wc.cell? ⟨gb227,1,none⟩ = some (.int .i64 a0_1):=(blk_cell BK227.out 1).trans rfl
         have hcz112_2:wc.cell? ⟨gb227,2,none⟩ = some (.int .i64 a0_2):=(blk_cell BK227.out 2).trans rfl
         have hcz112_3:wc.cell? ⟨gb227,3,none⟩ = some (.int .i64 a0_3):=(blk_cell BK227.out 3).trans rfl
         have hcz112_4:wc.cell? ⟨gb227,4,none⟩ = some (.int .i64 a0_4):=(blk_cell BK227.out 4).trans rfl
         have hcz112_5:wc.cell? ⟨gb227,5,none⟩ = some (.int .i64 a0_5):=(blk_cell BK227.out 5).trans rfl
         have hcz112_6:wc.cell? ⟨gb227,6,none⟩ = some (.int .i64 a0_6):=(blk_cell BK227.out 6).trans rfl
         have hfz112_0:=blk_frozen BK227.out 0
         have hfz112_1:=blk_frozen BK227.out 1
         have hfz112_2:=blk_frozen BK227.out 2
         have hfz112_3:=blk_frozen BK227.out 3
         have hfz112_4:=blk_frozen BK227.out 4
         have hfz112_5:=blk_frozen BK227.out 5
         have hfz112_6:=blk_frozen BK227.out 6
         have hcz113_0:wc.cell? ⟨gb228,0,none⟩ = some (.int .i64 a0_1):=(blk_cell BK228.out 0).trans rfl
         have hcz113_1:wc.cell? ⟨gb228,1,none⟩ = some (.int .i64 a0_2):=(blk_cell BK228.out 1).trans rfl
         have hcz113_2:wc.cell? ⟨gb228,2,none⟩ = some (.int .i64 a0_3):=(blk_cell BK228.out 2).trans rfl
         have hcz113_3:wc.cell? ⟨gb228,3,none⟩ = some (.int .i64 a0_4):=(blk_cell BK228.out 3).trans rfl
         have hcz113_4:wc.cell? ⟨gb228,4,none⟩ = some (.int .i64 a0_5):=(blk_cell BK228.out 4).trans rfl
         have hfz113_0:=blk_frozen BK228.out 0
         have hfz113_1:=blk_frozen BK228.out 1
         have hfz113_2:=blk_frozen BK228.out 2
         have hfz113_3:=blk_frozen BK228.out 3
         have hfz113_4:=blk_frozen BK228.out 4
         go_wp2_with (first|((with_reducible refine gate_callee (f:=37) rfl ?_);refine goesL_ (some 77) rfl rfl Try.func37 (by kernel_rfl) rfl #[.int .i64 a0_1] rfl zmb13_4 ?_;(with_reducible refine (rushlightref05_branch.calls a0_1 false _ A98.out).mono ?_);rintro e w' ⟨rfl,⟨nd,rfl⟩⟩;refine ⟨_,rfl,?_⟩))
         go_ret
         exact ⟨zmb13_8,zmb13_7⟩
       ·rw [if_neg c97] at H
        have c97b0:(a0_0 == 3) = false:=beq_eq_false_iff_ne.mpr c97
        have c97b1:(a0_0 != 3) = true:=bne_iff_ne.mpr c97
        by_cases c114:a0_0 = 4
        ·rw [if_pos c114] at H
         have c114b0:(a0_0 == 4) = true:=beq_iff_eq.mpr c114
         have c114b1:(a0_0 != 4) = false:=bne_eq_false_iff_eq.mpr c114
         clear c114
         by_cases c115:a0_1 = 3
         ·rw [if_pos c115] at H
          have c115b0:(a0_1 == 3) = true:=beq_iff_eq.mpr c115
          have c115b1:(a0_1 != 3) = false:=bne_eq_false_iff_eq.mpr c115
          clear c115
          replace H:=Option.bind_eq_some_iff.mp H
          obtain ⟨t233,A1160,H⟩:=H
          replace H:(if t233 = true then (some (a0_5 == 0)) else (some false)) = some r:=H
          have A116:=Aside0.mk A1160
          clear A1160
          by_cases c117:t233 = true
          ·subst c117
           have H1:(some (a0_5 == 0)) = some r:=by rw [if_pos rfl] at H;exact H
           clear H
           have H:=H1
           clear H1
           obtain rfl:=Option.some.inj H
           have hnb118:=NB227_228.out
           have hnc118:=NB228_227.out
           have hcz119_0:wc.cell? ⟨gb227,0,none⟩ = some (.int .i64 a0_0):=(blk_cell BK227.out 0).trans rfl
           have hcz119_1:wc.cell? ⟨gb227,1,none⟩ = some (.int .i64 a0_1):=(blk_cell BK227.out 1).trans rfl
           have hcz119_2:wc.cell? ⟨gb227,2,none⟩ = some (.int .i64 a0_2):=(blk_cell BK227.out 2).trans rfl
           have hcz119_3:wc.cell? ⟨gb227,3,none⟩ = some (.int .i64 a0_3):=(blk_cell BK227.out 3).trans rfl
           have hcz119_4:wc.cell? ⟨gb227,4,none⟩ = some (.int .i64 a0_4):=(blk_cell BK227.out 4).trans rfl
           have hcz119_5:wc.cell? ⟨gb227,5,none⟩ = some (.int .i64 a0_5):=(blk_cell BK227.out 5).trans rfl
           have hcz119_6:wc.cell? ⟨gb227,6,none⟩ = some (.int .i64 a0_6):=(blk_cell BK227.out 6).trans rfl
           have hfz119_0:=blk_frozen BK227.out 0
           have hfz119_1:=blk_frozen BK227.out 1
           have hfz119_2:=blk_frozen BK227.out 2
           have hfz119_3:=blk_frozen BK227.out 3
           have hfz119_4:=blk_frozen BK227.out 4
           have hfz119_5:=blk_frozen BK227.out 5
           have hfz119_6:=blk_frozen BK227.out 6
           have hcz120_0:wc.cell? ⟨gb228,0,none⟩ = some (.int .i64 a0_1):=(blk_cell BK228.out 0).trans rfl
           have hcz120_1:wc.cell? ⟨gb228,1,none⟩ = some (.int .i64 a0_2):=(blk_cell BK228.out 1).trans rfl
           have hcz120_2:wc.cell? ⟨gb228,2,none⟩ = some (.int .i64 a0_3):=(blk_cell BK228.out 2).trans rfl
           have hcz120_3:wc.cell? ⟨gb228,3,none⟩ = some (.int .i64 a0_4):=(blk_cell BK228.out 3).trans rfl
           have hcz120_4:wc.cell? ⟨gb228,4,none⟩ = some (.int .i64 a0_5):=(blk_cell BK228.out 4).trans rfl
           have hfz120_0:=blk_frozen BK228.out 0
           have hfz120_1:=blk_frozen BK228.out 1
           have hfz120_2:=blk_frozen BK228.out 2
           have hfz120_3:=blk_frozen BK228.out 3
           have hfz120_4:=blk_frozen BK228.out 4
           go_wp2_with (first|(go_at_call 36;(with_reducible refine (rushlightref02_Right.calls kj75 a0_1 a0_2 a0_3 a0_4 a0_5 true _ A116.out).mono ?_);rintro e w121 ⟨rfl,hb⟩;have n0_:=Aside0.mk (blk_below (g:=gb227) (o:=.cells #[.int .i64 a0_0,.int .i64 a0_1,.int .i64 a0_2,.int .i64 a0_3,.int .i64 a0_4,.int .i64 a0_5,.int .i64 a0_6] 48 (0,0)) zmb13_2 hb);have n1_:=Aside0.mk (blk_below (g:=gb228) (o:=.cells #[.int .i64 a0_1,.int .i64 a0_2,.int .i64 a0_3,.int .i64 a0_4,.int .i64 a0_5] 46 (0,0)) zmb13_10 hb);have n2_:=Aside0.mk (below_step zmb13_7 hb);clear BK227 BK228 HB;have BK227:=n0_;have BK228:=n1_;have HB:=n2_;clear n0_ n1_ n2_;(try clear hb);(try clear hb2);(try clear hk);(try clear hi);have hcz122_0:w121.cell? ⟨gb228,0,none⟩ = some (.int .i64 a0_1):=(blk_cell BK228.out 0).trans rfl;have hcz122_1:w121.cell? ⟨gb228,1,none⟩ = some (.int .i64 a0_2):=(blk_cell BK228.out 1).trans rfl;have hcz122_2:w121.cell? ⟨gb228,2,none⟩ = some (.int .i64 a0_3):=(blk_cell BK228.out 2).trans rfl;have hcz122_3:w121.cell? ⟨gb228,3,none⟩ = some (.int .i64 a0_4):=(blk_cell BK228.out 3).trans rfl;have hcz122_4:w121.cell? ⟨gb228,4,none⟩ = some (.int .i64 a0_5):=(blk_cell BK228.out 4).trans rfl;have hfz122_0:=blk_frozen BK228.out 0;have hfz122_1:=blk_frozen BK228.out 1;have hfz122_2:=blk_frozen BK228.out 2;have hfz122_3:=blk_frozen BK228.out 3;have hfz122_4:=blk_frozen BK228.out 4))
           go_ret
           exact ⟨zmb13_8,zmb13_7⟩
          ·replace c117:=Bool.eq_false_iff.mpr c117
           subst c117
           have H1:(some false) = some r:=by rw [if_neg (show ¬ (false = true) by decide)] at H;exact H
           clear H
           have H:=H1
           clear H1
           obtain rfl:=Option.some.inj H
           have hnb123:=NB227_228.out
           have hnc123:=NB228_227.out
           have hcz124_0:wc.cell? ⟨gb227,0,none⟩ = some (.int .i64 a0_0):=(blk_cell BK227.out 0).trans rfl
           have hcz124_1:wc.cell? ⟨gb227,1,none⟩ = some (.int .i64 a0_1):=(blk_cell BK227.out 1).trans rfl
           have hcz124_2:wc.cell? ⟨gb227,2,none⟩ = some (.int .i64 a0_2):=(blk_cell BK227.out 2).trans rfl
           have hcz124_3:wc.cell? ⟨gb227,3,none⟩ = some (.int .i64 a0_3):=(blk_cell BK227.out 3).trans rfl
           have hcz124_4:wc.cell? ⟨gb227,4,none⟩ = some (.int .i64 a0_4):=(blk_cell BK227.out 4).trans rfl
           have hcz124_5:wc.cell? ⟨gb227,5,none⟩ = some (.int .i64 a0_5):=(blk_cell BK227.out 5).trans rfl
           have hcz124_6:wc.cell? ⟨gb227,6,none⟩ = some (.int .i64 a0_6):=(blk_cell BK227.out 6).trans rfl
           have hfz124_0:=blk_frozen BK227.out 0
           have hfz124_1:=blk_frozen BK227.out 1
           have hfz124_2:=blk_frozen BK227.out 2
           have hfz124_3:=blk_frozen BK227.out 3
           have hfz124_4:=blk_frozen BK227.out 4
           have hfz124_5:=blk_frozen BK227.out 5
           have hfz124_6:=blk_frozen BK227.out 6
           have hcz125_0:wc.cell? ⟨gb228,0,none⟩ = some (.int .i64 a0_1):=(blk_cell BK228.out 0).trans rfl
           have hcz125_1:wc.cell? ⟨gb228,1,none⟩ = some (.int .i64 a0_2):=(blk_cell BK228.out 1).trans rfl
           have hcz125_2:wc.cell? ⟨gb228,2,none⟩ = some (.int .i64 a0_3):=(blk_cell BK228.out 2).trans rfl
           have hcz125_3:wc.cell? ⟨gb228,3,none⟩ = some (.int .i64 a0_4):=(blk_cell BK228.out 3).trans rfl
           have hcz125_4:wc.cell? ⟨gb228,4,none⟩ = some (.int .i64 a0_5):=(blk_cell BK228.out 4).trans rfl
           have hfz125_0:=blk_frozen BK228.out 0
           have hfz125_1:=blk_frozen BK228.out 1
           have hfz125_2:=blk_frozen BK228.out 2
           have hfz125_3:=blk_frozen BK228.out 3
           have hfz125_4:=blk_frozen BK228.out 4
           go_wp2_with (first|(go_at_call 36;(with_reducible refine (rushlightref02_Right.calls kj75 a0_1 a0_2 a0_3 a0_4 a0_5 false _ A116.out).mono ?_);rintro e w126 ⟨rfl,hb⟩;have n0_:=Aside0.mk (blk_below (g:=gb227) (o:=.cells #[.int .i64 a0_0,.int .i64 a0_1,.int .i64 a0_2,.int .i64 a0_3,.int .i64 a0_4,.int .i64 a0_5,.int .i64 a0_6] 48 (0,0)) zmb13_2 hb);have n1_:=Aside0.mk (blk_below (g:=gb228) (o:=.cells #[.int .i64 a0_1,.int .i64 a0_2,.int .i64 a0_3,.int .i64 a0_4,.int .i64 a0_5] 46 (0,0)) zmb13_10 hb);have n2_:=Aside0.mk (below_step zmb13_7 hb);clear BK227 BK228 HB;have BK227:=n0_;have BK228:=n1_;have HB:=n2_;clear n0_ n1_ n2_;(try clear hb);(try clear hb2);(try clear hk);(try clear hi)))
           go_ret
           exact ⟨zmb13_8,zmb13_7⟩
         ·rw [if_neg c115] at H
          have c115b0:(a0_1 == 3) = false:=beq_eq_false_iff_ne.mpr c115
          have c115b1:(a0_1 != 3) = true:=bne_iff_ne.mpr c115
          obtain rfl:=Option.some.inj H
          have hnb127:=NB227_228.out
          have hnc127:=NB228_227.out
          have hcz128_0:wc.cell? ⟨gb227,0,none⟩ = some (.int .i64 a0_0):=(blk_cell BK227.out 0).trans rfl
          have hcz128_1:wc.cell? ⟨gb227,1,none⟩ = some (.int .i64 a0_1):=(blk_cell BK227.out 1).trans rfl
          have hcz128_2:wc.cell? ⟨gb227,2,none⟩ = some (.int .i64 a0_2):=(blk_cell BK227.out 2).trans rfl
          have hcz128_3:wc.cell? ⟨gb227,3,none⟩ = some (.int .i64 a0_3):=(blk_cell BK227.out 3).trans rfl
          have hcz128_4:wc.cell? ⟨gb227,4,none⟩ = some (.int .i64 a0_4):=(blk_cell BK227.out 4).trans rfl
          have hcz128_5:wc.cell? ⟨gb227,5,none⟩ = some (.int .i64 a0_5):=(blk_cell BK227.out 5).trans rfl
          have hcz128_6:wc.cell? ⟨gb227,6,none⟩ = some (.int .i64 a0_6):=(blk_cell BK227.out 6).trans rfl
          have hfz128_0:=blk_frozen BK227.out 0
          have hfz128_1:=blk_frozen BK227.out 1
          have hfz128_2:=blk_frozen BK227.out 2
          have hfz128_3:=blk_frozen BK227.out 3
          have hfz128_4:=blk_frozen BK227.out 4
          have hfz128_5:=blk_frozen BK227.out 5
          have hfz128_6:=blk_frozen BK227.out 6
          have hcz129_0:wc.cell? ⟨gb228,0,none⟩ = some (.int .i64 a0_1):=(blk_cell BK228.out 0).trans rfl
          have hcz129_1:wc.cell? ⟨gb228,1,none⟩ = some (.int .i64 a0_2):=(blk_cell BK228.out 1).trans rfl
          have hcz129_2:wc.cell? ⟨gb228,2,none⟩ = some (.int .i64 a0_3):=(blk_cell BK228.out 2).trans rfl
          have hcz129_3:wc.cell? ⟨gb228,3,none⟩ = some (.int .i64 a0_4):=(blk_cell BK228.out 3).trans rfl
          have hcz129_4:wc.cell? ⟨gb228,4,none⟩ = some (.int .i64 a0_5):=(blk_cell BK228.out 4).trans rfl
          have hfz129_0:=blk_frozen BK228.out 0
          have hfz129_1:=blk_frozen BK228.out 1
          have hfz129_2:=blk_frozen BK228.out 2
          have hfz129_3:=blk_frozen BK228.out 3
          have hfz129_4:=blk_frozen BK228.out 4
          go_wp2
          go_ret
          exact ⟨zmb13_8,zmb13_7⟩
        ·rw [if_neg c114] at H
         have c114b0:(a0_0 == 4) = false:=beq_eq_false_iff_ne.mpr c114
         have c114b1:(a0_0 != 4) = true:=bne_iff_ne.mpr c114
         obtain rfl:=Option.some.inj H
         have hnb130:=NB227_228.out
         have hnc130:=NB228_227.out
         have hcz131_0:wc.cell? ⟨gb227,0,none⟩ = some (.int .i64 a0_0):=(blk_cell BK227.out 0).trans rfl
         have hcz131_1:wc.cell? ⟨gb227,1,none⟩ = some (.int .i64 a0_1):=(blk_cell BK227.out 1).trans rfl
         have hcz131_2:wc.cell? ⟨gb227,2,none⟩ = some (.int .i64 a0_2):=(blk_cell BK227.out 2).trans rfl
         have hcz131_3:wc.cell? ⟨gb227,3,none⟩ = some (.int .i64 a0_3):=(blk_cell BK227.out 3).trans rfl
         have hcz131_4:wc.cell? ⟨gb227,4,none⟩ = some (.int .i64 a0_4):=(blk_cell BK227.out 4).trans rfl
         have hcz131_5:wc.cell? ⟨gb227,5,none⟩ = some (.int .i64 a0_5):=(blk_cell BK227.out 5).trans rfl
         have hcz131_6:wc.cell? ⟨gb227,6,none⟩ = some (.int .i64 a0_6):=(blk_cell BK227.out 6).trans rfl
         have hfz131_0:=blk_frozen BK227.out 0
         have hfz131_1:=blk_frozen BK227.out 1
         have hfz131_2:=blk_frozen BK227.out 2
         have hfz131_3:=blk_frozen BK227.out 3
         have hfz131_4:=blk_frozen BK227.out 4
         have hfz131_5:=blk_frozen BK227.out 5
         have hfz131_6:=blk_frozen BK227.out 6
         go_wp2
         go_ret
         exact ⟨zmb13_8,zmb13_7⟩
end Go.Proofs.Ytecbponmpinnoaa.P
end
section
namespace Go.Proofs.Ytecbponmpinnoaa.P
open Go.RowKit Go.Proofs.YtecbponmpinnoaaW.PrintWords Go.Proofs.YtecbponmpinnoaaW.PrintLast Go.Proofs.YtecbponmpinnoaaW.PrintMore
attribute [local go_sem] max2_int min2_int max_two min_two max_three min_three max_four min_four   
set_option linter.unusedVariables false
set_option linter.unusedSimpArgs false
def rushlightlaw05_Ref.l0:Nat→List (S41)→List (S48)→Int→Option ((List (S48)))
 | 0,_,_,_=>none
 | k + 1,x0,x3,x4=>if x4 < (x0.length:Int) then (if 0≤x4 then (if x3.length < 2513169434916 then (rushlightlaw05_Ref.l0 k x0 (x3 ++ [(⟨(rd_T41 x0 x4).f0,(⟨(rd_T41 x0 x4).f1.f0,(rd_T41 x0 x4).f1.f1,(rd_T41 x0 x4).f1.f2,(rd_T41 x0 x4).f1.f3,(rd_T41 x0 x4).f1.f4⟩:S46),(rd_T41 x0 x4).f2⟩:S48)]) (wrap64 (x4 + 1))) else (none)) else (none)) else (some x3)
def rushlightlaw05_Ref.f (k:Nat) (l0:List (S41)):Option ((List (S48))):=rushlightlaw05_Ref.l0 k l0 ([]:List (S48)) 0
def rushlightlaw05_Ref.T5:Bool × List (List Nat × List Nat):=(true,[([],[]),([],[]),([],[]),([1,2],[1,2]),([3],[3]),([4],[4]),([],[]),([],[]),([6,7],[6,7]),([8],[8]),([9],[9]),([],[]),([],[]),([11,12],[11,12]),([13],[13]),([14],[14]),([5,10,15],[5,10,15]),([16],[16]),([0,17],[0,17]),([18,18,0,1,2,3,4,5,6,7,8,9,10,11,12,13,14,15,16,17,18],[0,18])])
def rushlightlaw05_Ref.B5:List Nat:=[0,0,0,6,14,30,0,0,192,448,960,0,0,6144,14336,30720,65534,131070,262143,524287]
theorem rushlightlaw05_Ref.tab5:rtab .any (opsOf Try.f12 5) = rushlightlaw05_Ref.T5:=by kernel_rfl
theorem rushlightlaw05_Ref.bits5:waitsOk rushlightlaw05_Ref.T5.2 rushlightlaw05_Ref.B5 = true:=by kernel_rfl
set_option maxHeartbeats 8000000 in
set_option maxRecDepth 100000 in
theorem rushlightlaw05_Ref.calls (k:Nat) (A0:Option Addr) (c0:Nat) (l0:List (S41)) (r:List (S48)) (w:World) (hr0:Kd.C k41 w A0 l0.length l0) (hc0:l0.length≤c0) (h:rushlightlaw05_Ref.f k l0 = some r) :
  Calls Try.prog 12 #[.slice A0 l0.length c0] w fun e w'=>∃ v0_:Value,e = .returned (v0_)∧Kd.R k48 48 w' w.heap.size (fun _=>True) v0_ r∧Below w.heap.size w w':=by
 have hu39:=Try.underlying39
 have hu48:=Try.underlying48
 have HR0:=Aside0.mk hr0
 have HC0:=Aside0.mk hc0
 clear hr0 hc0
 have HB:=Aside0.mk (Below.refl w.heap.size w)
 have H:(rushlightlaw05_Ref.l0 k l0 ([]:List (S48)) 0) = some r:=h
 clear h
 have H':=Aside0.mk H
 clear H
 go_enter Try.func12,Try.ntmps12
 go_wp2
 go_loopg [3,4] k (fun kq v3 v4 w'=>∃ (x3_1:List (S48)) (x4_1:Int),v4 = .int .i64 x4_1∧Aside0 (rushlightlaw05_Ref.l0 kq l0 x3_1 x4_1 = some r)∧Aside0 (kq≤k)∧Aside0 (Kd.R k48 48 w' w.heap.size (fun _=>True) v3 x3_1)∧Aside0 (Below w.heap.size w w'))
 case atStart=>exact ⟨(([]:List (S48))),(0),zmb13_9,H',⟨Nat.le_refl _⟩,⟨by first|exact Kd.R_nil _ _ _ _ _|exact Kd.N_nil _ _ _ _ _|exact Kd.V_nil _ _ _ _ _|exact Kd.Q_nil _ _ _ _ _|exact Kd.S_nil _ _ _ _ _⟩,⟨zmb13_1⟩⟩
 case round =>
  clear H'
  try clear c1
  obtain ⟨x3_1,x4_1,rfl,HA,HK1,HO_3,HB⟩:=hrel
  cases gk with
  | zero=>exact absurd HA.out (by simp [rushlightlaw05_Ref.l0])
  | succ k1 =>
   have H:=HA.out
   clear HA
   simp only [rushlightlaw05_Ref.l0] at H
   by_cases c2:x4_1 < (l0.length:Int)
   ·rw [if_pos c2] at H
    have c2b0:decide (x4_1 < (l0.length:Int)) = true:=decide_eq_true c2
    clear c2
    by_cases c3:0≤x4_1
    ·rw [if_pos c3] at H
     have c3b0:decide (0≤x4_1) = true:=decide_eq_true c3
     clear c3
     by_cases c4:x3_1.length < 2513169434916
     ·rw [if_pos c4] at H
      have LMc4:=Aside0.mk c4
      clear c4
      obtain ⟨y377,hy377⟩:∃ y_:List (S48),y_ = (x3_1 ++ [(⟨(rd_T41 l0 x4_1).f0,(⟨(rd_T41 l0 x4_1).f1.f0,(rd_T41 l0 x4_1).f1.f1,(rd_T41 l0 x4_1).f1.f2,(rd_T41 l0 x4_1).f1.f3,(rd_T41 l0 x4_1).f1.f4⟩:S46),(rd_T41 l0 x4_1).f2⟩:S48)]):=⟨_,rfl⟩
      replace H:(rushlightlaw05_Ref.l0 k1 l0 y377 (wrap64 (x4_1 + 1))) = some r:=by first|(rw [hy377];with_reducible exact H)|(have H2_:=(Option.bind_some _ _).symm.trans H;rw [hy377];with_reducible exact H2_)|(have H2_:=(Option.bind_some _ _).symm.trans H;with_reducible exact H2_)|with_reducible exact H|(rw [hy377];exact H)|exact H
      have Ny377:=Aside0.mk hy377
      clear hy377
      have H':=Aside0.mk H
      clear H
      try go_wp2
      have n0_:=Aside0.mk (Kd.R_drew HO_3.out)
      have n1_:=Aside0.mk (below_drew1 HB.out)
      clear HO_3
      clear HB
      have HO_3:=n0_
      have HB:=n1_
      clear n0_ n1_
      have p374:0≤(x4_1:Int):=of_decide_eq_true zmb13_11
      have q374:x4_1 < (l0.length:Int):=of_decide_eq_true zmb13_11
      obtain ⟨ad374,e374,hx374_0,hx374_1,hx374_2,hx374_3,hx374_4,hx374_5,hx374_6⟩:=at_T41 HR0.out x4_1 p374 q374
      have hw374_6:=hx374_6
      have hw374_5:=hx374_5
      have hw374_4:=hx374_4
      have hw374_3:=hx374_3
      have hw374_2:=hx374_2
      have hw374_1:=hx374_1
      have hw374_0:=hx374_0
      cases e374
      replace hx374_0:=(HB.out.cell (World.block_lt_of_cell? w _ hx374_0)).trans hx374_0
      replace hx374_1:=(HB.out.cell (World.block_lt_of_cell? w _ hx374_1)).trans hx374_1
      replace hx374_2:=(HB.out.cell (World.block_lt_of_cell? w _ hx374_2)).trans hx374_2
      replace hx374_3:=(HB.out.cell (World.block_lt_of_cell? w _ hx374_3)).trans hx374_3
      replace hx374_4:=(HB.out.cell (World.block_lt_of_cell? w _ hx374_4)).trans hx374_4
      replace hx374_5:=(HB.out.cell (World.block_lt_of_cell? w _ hx374_5)).trans hx374_5
      replace hx374_6:=(HB.out.cell (World.block_lt_of_cell? w _ hx374_6)).trans hx374_6
      replace p374:=eq_true p374
      replace q374:=eq_true q374
      have p375:0≤(x4_1:Int):=of_decide_eq_true zmb13_11
      have q375:x4_1 < (l0.length:Int):=of_decide_eq_true zmb13_11
      obtain ⟨ad375,e375,hx375_0,hx375_1,hx375_2,hx375_3,hx375_4,hx375_5,hx375_6⟩:=at_T41 HR0.out x4_1 p375 q375
      have hw375_6:=hx375_6
      have hw375_5:=hx375_5
      have hw375_4:=hx375_4
      have hw375_3:=hx375_3
      have hw375_2:=hx375_2
      have hw375_1:=hx375_1
      have hw375_0:=hx375_0
      obtain rfl:ad374 = ad375:=(by injection e375)
      replace hx375_0:=(HB.out.cell (World.block_lt_of_cell? w _ hx375_0)).trans hx375_0
      replace hx375_1:=(HB.out.cell (World.block_lt_of_cell? w _ hx375_1)).trans hx375_1
      replace hx375_2:=(HB.out.cell (World.block_lt_of_cell? w _ hx375_2)).trans hx375_2
      replace hx375_3:=(HB.out.cell (World.block_lt_of_cell? w _ hx375_3)).trans hx375_3
      replace hx375_4:=(HB.out.cell (World.block_lt_of_cell? w _ hx375_4)).trans hx375_4
      replace hx375_5:=(HB.out.cell (World.block_lt_of_cell? w _ hx375_5)).trans hx375_5
      replace hx375_6:=(HB.out.cell (World.block_lt_of_cell? w _ hx375_6)).trans hx375_6
      replace p375:=eq_true p375
      replace q375:=eq_true q375
      have p376:0≤(x4_1:Int):=of_decide_eq_true zmb13_11
      have q376:x4_1 < (l0.length:Int):=of_decide_eq_true zmb13_11
      obtain ⟨ad376,e376,hx376_0,hx376_1,hx376_2,hx376_3,hx376_4,hx376_5,hx376_6⟩:=at_T41 HR0.out x4_1 p376 q376
      have hw376_6:=hx376_6
      have hw376_5:=hx376_5
      have hw376_4:=hx376_4
      have hw376_3:=hx376_3
      have hw376_2:=hx376_2
      have hw376_1:=hx376_1
      have hw376_0:=hx376_0
      obtain rfl:ad374 = ad376:=(by injection e376)
      replace hx376_0:=(HB.out.cell (World.block_lt_of_cell? w _ hx376_0)).trans hx376_0
      replace hx376_1:=(HB.out.cell (World.block_lt_of_cell? w _ hx376_1)).trans hx376_1
      replace hx376_2:=(HB.out.cell (World.block_lt_of_cell? w _ hx376_2)).trans hx376_2
      replace hx376_3:=(HB.out.cell (World.block_lt_of_cell? w _ hx376_3)).trans hx376_3
      replace hx376_4:=(HB.out.cell (World.block_lt_of_cell? w _ hx376_4)).trans hx376_4
      replace hx376_5:=(HB.out.cell (World.block_lt_of_cell? w _ hx376_5)).trans hx376_5
      replace hx376_6:=(HB.out.cell (World.block_lt_of_cell? w _ hx376_6)).trans hx376_6
      replace p376:=eq_true p376
      replace q376:=eq_true q376
      refine start_ (n:=20) (S:=fun w'=>w'.cell? (ad374.add ((x4_1).toNat * 7)) = some (.int .i64 ((rd_T41 l0 x4_1).f0))∧w'.cell? ⟨(ad374.add ((x4_1).toNat * 7)).block,(ad374.add ((x4_1).toNat * 7)).off + 1,none⟩ = some (.int .i64 ((rd_T41 l0 x4_1).f1.f0))∧w'.cell? ⟨(ad374.add ((x4_1).toNat * 7)).block,(ad374.add ((x4_1).toNat * 7)).off + 2,none⟩ = some (.int .i64 ((rd_T41 l0 x4_1).f1.f1))∧w'.cell? ⟨(ad374.add ((x4_1).toNat * 7)).block,(ad374.add ((x4_1).toNat * 7)).off + 3,none⟩ = some (.int .i64 ((rd_T41 l0 x4_1).f1.f2))∧w'.cell? ⟨(ad374.add ((x4_1).toNat * 7)).block,(ad374.add ((x4_1).toNat * 7)).off + 4,none⟩ = some (.int .i64 ((rd_T41 l0 x4_1).f1.f3))∧w'.cell? ⟨(ad374.add ((x4_1).toNat * 7)).block,(ad374.add ((x4_1).toNat * 7)).off + 5,none⟩ = some (.int .i64 ((rd_T41 l0 x4_1).f1.f4))∧w'.cell? ⟨(ad374.add ((x4_1).toNat * 7)).block,(ad374.add ((x4_1).toNat * 7)).off + 6,none⟩ = some (.int .i64 ((rd_T41 l0 x4_1).f2))∧w'.cell? (ad374.add ((x4_1).toNat * 7)) = some (.int .i64 ((rd_T41 l0 x4_1).f0))∧w'.cell? ⟨(ad374.add ((x4_1).toNat * 7)).block,(ad374.add ((x4_1).toNat * 7)).off + 1,none⟩ = some (.int .i64 ((rd_T41 l0 x4_1).f1.f0))∧w'.cell? ⟨(ad374.add ((x4_1).toNat * 7)).block,(ad374.add ((x4_1).toNat * 7)).off + 2,none⟩ = some (.int .i64 ((rd_T41 l0 x4_1).f1.f1))∧w'.cell? ⟨(ad374.add ((x4_1).toNat * 7)).block,(ad374.add ((x4_1).toNat * 7)).off + 3,none⟩ = some (.int .i64 ((rd_T41 l0 x4_1).f1.f2))∧w'.cell? ⟨(ad374.add ((x4_1).toNat * 7)).block,(ad374.add ((x4_1).toNat * 7)).off + 4,none⟩ = some (.int .i64 ((rd_T41 l0 x4_1).f1.f3))∧w'.cell? ⟨(ad374.add ((x4_1).toNat * 7)).block,(ad374.add ((x4_1).toNat * 7)).off + 5,none⟩ = some (.int .i64 ((rd_T41 l0 x4_1).f1.f4))∧w'.cell? ⟨(ad374.add ((x4_1).toNat * 7)).block,(ad374.add ((x4_1).toNat * 7)).off + 6,none⟩ = some (.int .i64 ((rd_T41 l0 x4_1).f2))∧w'.cell? (ad374.add ((x4_1).toNat * 7)) = some (.int .i64 ((rd_T41 l0 x4_1).f0))∧w'.cell? ⟨(ad374.add ((x4_1).toNat * 7)).block,(ad374.add ((x4_1).toNat * 7)).off + 1,none⟩ = some (.int .i64 ((rd_T41 l0 x4_1).f1.f0))∧w'.cell? ⟨(ad374.add ((x4_1).toNat * 7)).block,(ad374.add ((x4_1).toNat * 7)).off + 2,none⟩ = some (.int .i64 ((rd_T41 l0 x4_1).f1.f1))∧w'.cell? ⟨(ad374.add ((x4_1).toNat * 7)).block,(ad374.add ((x4_1).toNat * 7)).off + 3,none⟩ = some (.int .i64 ((rd_T41 l0 x4_1).f1.f2))∧w'.cell? ⟨(ad374.add ((x4_1).toNat * 7)).block,(ad374.add ((x4_1).toNat * 7)).off + 4,none⟩ = some (.int .i64 ((rd_T41 l0 x4_1).f1.f3))∧w'.cell? ⟨(ad374.add ((x4_1).toNat * 7)).block,(ad374.add ((x4_1).toNat * 7)).off + 5,none⟩ = some (.int .i64 ((rd_T41 l0 x4_1).f1.f4))∧w'.cell? ⟨(ad374.add ((x4_1).toNat * 7)).block,(ad374.add ((x4_1).toNat * 7)).off + 6,none⟩ = some (.int .i64 ((rd_T41 l0 x4_1).f2))) (ds:=[]) #[false,false,false,false,false,false,false,false,false,false,false,false,false,false,false,false,false,false,false,false] (by kernel_rfl) rfl rfl ⟨((HB.out.cell (World.block_lt_of_cell? w _ hw374_0)).trans hw374_0),((HB.out.cell (World.block_lt_of_cell? w _ hw374_1)).trans hw374_1),((HB.out.cell (World.block_lt_of_cell? w _ hw374_2)).trans hw374_2),((HB.out.cell (World.block_lt_of_cell? w _ hw374_3)).trans hw374_3),((HB.out.cell (World.block_lt_of_cell? w _ hw374_4)).trans hw374_4),((HB.out.cell (World.block_lt_of_cell? w _ hw374_5)).trans hw374_5),((HB.out.cell (World.block_lt_of_cell? w _ hw374_6)).trans hw374_6),((HB.out.cell (World.block_lt_of_cell? w _ hw375_0)).trans hw375_0),((HB.out.cell (World.block_lt_of_cell? w _ hw375_1)).trans hw375_1),((HB.out.cell (World.block_lt_of_cell? w _ hw375_2)).trans hw375_2),((HB.out.cell (World.block_lt_of_cell? w _ hw375_3)).trans hw375_3),((HB.out.cell (World.block_lt_of_cell? w _ hw375_4)).trans hw375_4),((HB.out.cell (World.block_lt_of_cell? w _ hw375_5)).trans hw375_5),((HB.out.cell (World.block_lt_of_cell? w _ hw375_6)).trans hw375_6),((HB.out.cell (World.block_lt_of_cell? w _ hw376_0)).trans hw376_0),((HB.out.cell (World.block_lt_of_cell? w _ hw376_1)).trans hw376_1),((HB.out.cell (World.block_lt_of_cell? w _ hw376_2)).trans hw376_2),((HB.out.cell (World.block_lt_of_cell? w _ hw376_3)).trans hw376_3),((HB.out.cell (World.block_lt_of_cell? w _ hw376_4)).trans hw376_4),((HB.out.cell (World.block_lt_of_cell? w _ hw376_5)).trans hw376_5),((HB.out.cell (World.block_lt_of_cell? w _ hw376_6)).trans hw376_6)⟩ (fun hHeld=>?_);refine with_tabW rushlightlaw05_Ref.tab5 rushlightlaw05_Ref.bits5 (fun HT_ HW_=>?_)
      generalize wr.drew = w5 at HO_3 HB hx374_0 hx374_1 hx374_2 hx374_3 hx374_4 hx374_5 hx374_6 hx375_0 hx375_1 hx375_2 hx375_3 hx375_4 hx375_5 hx375_6 hx376_0 hx376_1 hx376_2 hx376_3 hx376_4 hx376_5 hx376_6 hHeld ⊢
      refine pure_ (i:=0) (N:=some 11) (v:=?_) (a':=?_) #[true,false,false,false,false,false,false,false,false,false,false,false,false,false,false,false,false,false,false,false] rfl rfl (any_of HT_.out (by kernel_rfl)) (fun _ _ _ h=>h) (Or.inl ⟨by rfl,?_⟩) ?_ ?_
      rotate_left
      ·intro w'
       go_simp
       with_reducible rfl
      rotate_left
      ·simp only [Act.put,List.setIfInBounds_toArray,List.set_cons_zero,List.set_cons_succ,i64_w,i32_w]
       rfl
      refine pure_ (i:=1) (N:=some 12) (v:=?_) (a':=?_) #[true,true,false,false,false,false,false,false,false,false,false,false,false,false,false,false,false,false,false,false] rfl rfl (any_of HT_.out (by kernel_rfl)) (fun _ _ _ h=>h) (Or.inl ⟨by rfl,?_⟩) ?_ ?_
      rotate_left
      ·intro w'
       go_simp
       with_reducible rfl
      rotate_left
      ·simp only [Act.put,List.setIfInBounds_toArray,List.set_cons_zero,List.set_cons_succ,i64_w,i32_w]
       rfl
      refine pure_ (i:=2) (N:=some 13) (v:=?_) (a':=?_) #[true,true,true,false,false,false,false,false,false,false,false,false,false,false,false,false,false,false,false,false] rfl rfl (any_of HT_.out (by kernel_rfl)) (fun _ _ _ h=>h) (Or.inl ⟨by rfl,?_⟩) ?_ ?_
      rotate_left
      ·intro w'
       go_simp
       with_reducible rfl
      rotate_left
      ·simp only [Act.put,List.setIfInBounds_toArray,List.set_cons_zero,List.set_cons_succ,i64_w,i32_w]
       rfl
      refine pure_ (i:=3) (N:=some 14) (v:=?_) (a':=?_) #[true,true,true,true,false,false,false,false,false,false,false,false,false,false,false,false,false,false,false,false] rfl rfl (any_of HT_.out (by kernel_rfl)) (fun _ _ _ h=>h) (Or.inl ⟨by rfl,?_⟩) ?_ ?_
      rotate_left
      ·intro w'
       go_simp
       with_reducible rfl
      rotate_left
      ·simp only [Act.put,List.setIfInBounds_toArray,List.set_cons_zero,List.set_cons_succ,i64_w,i32_w]
       rfl
      refine pure_ (i:=4) (N:=some 15) (v:=?_) (a':=?_) #[true,true,true,true,true,false,false,false,false,false,false,false,false,false,false,false,false,false,false,false] rfl rfl (any_of HT_.out (by kernel_rfl)) (fun _ _ _ h=>h) (Or.inl ⟨by rfl,?_⟩) ?_ ?_
      rotate_left
      ·intro w'
       go_simp
       with_reducible rfl
      rotate_left
      ·simp only [Act.put,List.setIfInBounds_toArray,List.set_cons_zero,List.set_cons_succ,i64_w,i32_w]
       rfl
      refine pure_ (i:=6) (N:=some 17) (v:=?_) (a':=?_) #[true,true,true,true,true,false,true,false,false,false,false,false,false,false,false,false,false,false,false,false] rfl rfl (any_of HT_.out (by kernel_rfl)) (fun _ _ _ h=>h) (Or.inl ⟨by rfl,?_⟩) ?_ ?_
      rotate_left
      ·intro w'
       go_simp
       with_reducible rfl
      rotate_left
      ·simp only [Act.put,List.setIfInBounds_toArray,List.set_cons_zero,List.set_cons_succ,i64_w,i32_w]
       rfl
      refine pure_ (i:=7) (N:=some 18) (v:=?_) (a':=?_) #[true,true,true,true,true,false,true,true,false,false,false,false,false,false,false,false,false,false,false,false] rfl rfl (any_of HT_.out (by kernel_rfl)) (fun _ _ _ h=>h) (Or.inl ⟨by rfl,?_⟩) ?_ ?_
      rotate_left
      ·intro w'
       go_simp
       with_reducible rfl
      rotate_left
      ·simp only [Act.put,List.setIfInBounds_toArray,List.set_cons_zero,List.set_cons_succ,i64_w,i32_w]
       rfl
      refine pure_ (i:=8) (N:=some 19) (v:=?_) (a':=?_) #[true,true,true,true,true,false,true,true,true,false,false,false,false,false,false,false,false,false,false,false] rfl rfl (any_of HT_.out (by kernel_rfl)) (fun _ _ _ h=>h) (Or.inl ⟨by rfl,?_⟩) ?_ ?_
      rotate_left
      ·intro w'
       go_simp
       with_reducible rfl
      rotate_left
      ·simp only [Act.put,List.setIfInBounds_toArray,List.set_cons_zero,List.set_cons_succ,i64_w,i32_w]
       rfl
      refine pure_ (i:=9) (N:=some 20) (v:=?_) (a':=?_) #[true,true,true,true,true,false,true,true,true,true,false,false,false,false,false,false,false,false,false,false] rfl rfl (any_of HT_.out (by kernel_rfl)) (fun _ _ _ h=>h) (Or.inl ⟨by rfl,?_⟩) ?_ ?_
      rotate_left
      ·intro w'
       go_simp
       with_reducible rfl
      rotate_left
      ·simp only [Act.put,List.setIfInBounds_toArray,List.set_cons_zero,List.set_cons_succ,i64_w,i32_w]
       rfl
      refine pure_ (i:=11) (N:=some 22) (v:=?_) (a':=?_) #[true,true,true,true,true,false,true,true,true,true,false,true,false,false,false,false,false,false,false,false] rfl rfl (any_of HT_.out (by kernel_rfl)) (fun _ _ _ h=>h) (Or.inl ⟨by rfl,?_⟩) ?_ ?_
      rotate_left
      ·intro w'
       go_simp
       with_reducible rfl
      rotate_left
      ·simp only [Act.put,List.setIfInBounds_toArray,List.set_cons_zero,List.set_cons_succ,i64_w,i32_w]
       rfl
      refine pure_ (i:=12) (N:=some 23) (v:=?_) (a':=?_) #[true,true,true,true,true,false,true,true,true,true,false,true,true,false,false,false,false,false,false,false] rfl rfl (any_of HT_.out (by kernel_rfl)) (fun _ _ _ h=>h) (Or.inl ⟨by rfl,?_⟩) ?_ ?_
      rotate_left
      ·intro w'
       go_simp
       with_reducible rfl
      rotate_left
      ·simp only [Act.put,List.setIfInBounds_toArray,List.set_cons_zero,List.set_cons_succ,i64_w,i32_w]
       rfl
      refine pure_ (i:=13) (N:=some 24) (v:=?_) (a':=?_) #[true,true,true,true,true,false,true,true,true,true,false,true,true,true,false,false,false,false,false,false] rfl rfl (any_of HT_.out (by kernel_rfl)) (fun _ _ _ h=>h) (Or.inl ⟨by rfl,?_⟩) ?_ ?_
      rotate_left
      ·intro w'
       go_simp
       with_reducible rfl
      rotate_left
      ·simp only [Act.put,List.setIfInBounds_toArray,List.set_cons_zero,List.set_cons_succ,i64_w,i32_w]
       rfl
      refine pure_ (i:=14) (N:=some 25) (v:=?_) (a':=?_) #[true,true,true,true,true,false,true,true,true,true,false,true,true,true,true,false,false,false,false,false] rfl rfl (any_of HT_.out (by kernel_rfl)) (fun _ _ _ h=>h) (Or.inl ⟨by rfl,?_⟩) ?_ ?_
      rotate_left
      ·intro w'
       go_simp
       with_reducible rfl
      rotate_left
      ·simp only [Act.put,List.setIfInBounds_toArray,List.set_cons_zero,List.set_cons_succ,i64_w,i32_w]
       rfl
      refine take_ (i:=5) (N:=some 16) (v:=?_) (a':=?_) #[true,true,true,true,true,true,true,true,true,true,false,true,true,true,true,false,false,false,false,false] rfl rfl (take_ofW HT_.out HW_.out (by kernel_rfl)) (fun _ _ _ h=>h) (Or.inl ⟨by rfl,?_⟩) hHeld ?_ ?_
      rotate_left
      ·rintro w' ⟨s0,s1,s2,s3,s4,s5,s6,s7,s8,s9,s10,s11,s12,s13,s14,s15,s16,s17,s18,s19,s20⟩
       go_simp
       with_reducible rfl
      rotate_left
      ·simp only [Act.put,List.setIfInBounds_toArray,List.set_cons_zero,List.set_cons_succ,i64_w,i32_w]
       rfl
      refine take_ (i:=10) (N:=some 21) (v:=?_) (a':=?_) #[true,true,true,true,true,true,true,true,true,true,true,true,true,true,true,false,false,false,false,false] rfl rfl (take_ofW HT_.out HW_.out (by kernel_rfl)) (fun _ _ _ h=>h) (Or.inl ⟨by rfl,?_⟩) hHeld ?_ ?_
      rotate_left
      ·rintro w' ⟨s0,s1,s2,s3,s4,s5,s6,s7,s8,s9,s10,s11,s12,s13,s14,s15,s16,s17,s18,s19,s20⟩
       go_simp
       with_reducible rfl
      rotate_left
      ·simp only [Act.put,List.setIfInBounds_toArray,List.set_cons_zero,List.set_cons_succ,i64_w,i32_w]
       rfl
      refine take_ (i:=15) (N:=some 26) (v:=?_) (a':=?_) #[true,true,true,true,true,true,true,true,true,true,true,true,true,true,true,true,false,false,false,false] rfl rfl (take_ofW HT_.out HW_.out (by kernel_rfl)) (fun _ _ _ h=>h) (Or.inl ⟨by rfl,?_⟩) hHeld ?_ ?_
      rotate_left
      ·rintro w' ⟨s0,s1,s2,s3,s4,s5,s6,s7,s8,s9,s10,s11,s12,s13,s14,s15,s16,s17,s18,s19,s20⟩
       go_simp
       with_reducible rfl
      rotate_left
      ·simp only [Act.put,List.setIfInBounds_toArray,List.set_cons_zero,List.set_cons_succ,i64_w,i32_w]
       rfl
      refine pure_ (i:=16) (N:=some 27) (v:=?_) (a':=?_) #[true,true,true,true,true,true,true,true,true,true,true,true,true,true,true,true,true,false,false,false] rfl rfl (any_of HT_.out (by kernel_rfl)) (fun _ _ _ h=>h) (Or.inl ⟨by rfl,?_⟩) ?_ ?_
      rotate_left
      ·intro w'
       go_simp
       with_reducible rfl
      rotate_left
      ·simp only [Act.put,List.setIfInBounds_toArray,List.set_cons_zero,List.set_cons_succ,i64_w,i32_w]
       rfl
      refine one_ (i:=17) (N:=some 28) #[true,true,true,true,true,true,true,true,true,true,true,true,true,true,true,true,true,true,false,false] rfl rfl (one_of HT_.out (by kernel_rfl)) (by decide) (fun K hK=>?_)
      refine value_ (w1:=?_) (v:=?_) (by rfl) rfl ?_ ?_
      rotate_left 2
      ·go_simp
       constructor
       ·rfl
       ·rfl
      refine hK.out _ _ ⟨(World.cell?_alloc_lt _ _ _ (World.block_lt_of_cell? _ _ (((HB.out.cell (World.block_lt_of_cell? w _ hw374_0)).trans hw374_0)))).trans (((HB.out.cell (World.block_lt_of_cell? w _ hw374_0)).trans hw374_0)),(World.cell?_alloc_lt _ _ _ (World.block_lt_of_cell? _ _ (((HB.out.cell (World.block_lt_of_cell? w _ hw374_1)).trans hw374_1)))).trans (((HB.out.cell (World.block_lt_of_cell? w _ hw374_1)).trans hw374_1)),(World.cell?_alloc_lt _ _ _ (World.block_lt_of_cell? _ _ (((HB.out.cell (World.block_lt_of_cell? w _ hw374_2)).trans hw374_2)))).trans (((HB.out.cell (World.block_lt_of_cell? w _ hw374_2)).trans hw374_2)),(World.cell?_alloc_lt _ _ _ (World.block_lt_of_cell? _ _ (((HB.out.cell (World.block_lt_of_cell? w _ hw374_3)).trans hw374_3)))).trans (((HB.out.cell (World.block_lt_of_cell? w _ hw374_3)).trans hw374_3)),(World.cell?_alloc_lt _ _ _ (World.block_lt_of_cell? _ _ (((HB.out.cell (World.block_lt_of_cell? w _ hw374_4)).trans hw374_4)))).trans (((HB.out.cell (World.block_lt_of_cell? w _ hw374_4)).trans hw374_4)),(World.cell?_alloc_lt _ _ _ (World.block_lt_of_cell? _ _ (((HB.out.cell (World.block_lt_of_cell? w _ hw374_5)).trans hw374_5)))).trans (((HB.out.cell (World.block_lt_of_cell? w _ hw374_5)).trans hw374_5)),(World.cell?_alloc_lt _ _ _ (World.block_lt_of_cell? _ _ (((HB.out.cell (World.block_lt_of_cell? w _ hw374_6)).trans hw374_6)))).trans (((HB.out.cell (World.block_lt_of_cell? w _ hw374_6)).trans hw374_6)),(World.cell?_alloc_lt _ _ _ (World.block_lt_of_cell? _ _ (((HB.out.cell (World.block_lt_of_cell? w _ hw375_0)).trans hw375_0)))).trans (((HB.out.cell (World.block_lt_of_cell? w _ hw375_0)).trans hw375_0)),(World.cell?_alloc_lt _ _ _ (World.block_lt_of_cell? _ _ (((HB.out.cell (World.block_lt_of_cell? w _ hw375_1)).trans hw375_1)))).trans (((HB.out.cell (World.block_lt_of_cell? w _ hw375_1)).trans hw375_1)),(World.cell?_alloc_lt _ _ _ (World.block_lt_of_cell? _ _ (((HB.out.cell (World.block_lt_of_cell? w _ hw375_2)).trans hw375_2)))).trans (((HB.out.cell (World.block_lt_of_cell? w _ hw375_2)).trans hw375_2)),(World.cell?_alloc_lt _ _ _ (World.block_lt_of_cell? _ _ (((HB.out.cell (World.block_lt_of_cell? w _ hw375_3)).trans hw375_3)))).trans (((HB.out.cell (World.block_lt_of_cell? w _ hw375_3)).trans hw375_3)),(World.cell?_alloc_lt _ _ _ (World.block_lt_of_cell? _ _ (((HB.out.cell (World.block_lt_of_cell? w _ hw375_4)).trans hw375_4)))).trans (((HB.out.cell (World.block_lt_of_cell? w _ hw375_4)).trans hw375_4)),(World.cell?_alloc_lt _ _ _ (World.block_lt_of_cell? _ _ (((HB.out.cell (World.block_lt_of_cell? w _ hw375_5)).trans hw375_5)))).trans (((HB.out.cell (World.block_lt_of_cell? w _ hw375_5)).trans hw375_5)),(World.cell?_alloc_lt _ _ _ (World.block_lt_of_cell? _ _ (((HB.out.cell (World.block_lt_of_cell? w _ hw375_6)).trans hw375_6)))).trans (((HB.out.cell (World.block_lt_of_cell? w _ hw375_6)).trans hw375_6)),(World.cell?_alloc_lt _ _ _ (World.block_lt_of_cell? _ _ (((HB.out.cell (World.block_lt_of_cell? w _ hw376_0)).trans hw376_0)))).trans (((HB.out.cell (World.block_lt_of_cell? w _ hw376_0)).trans hw376_0)),(World.cell?_alloc_lt _ _ _ (World.block_lt_of_cell? _ _ (((HB.out.cell (World.block_lt_of_cell? w _ hw376_1)).trans hw376_1)))).trans (((HB.out.cell (World.block_lt_of_cell? w _ hw376_1)).trans hw376_1)),(World.cell?_alloc_lt _ _ _ (World.block_lt_of_cell? _ _ (((HB.out.cell (World.block_lt_of_cell? w _ hw376_2)).trans hw376_2)))).trans (((HB.out.cell (World.block_lt_of_cell? w _ hw376_2)).trans hw376_2)),(World.cell?_alloc_lt _ _ _ (World.block_lt_of_cell? _ _ (((HB.out.cell (World.block_lt_of_cell? w _ hw376_3)).trans hw376_3)))).trans (((HB.out.cell (World.block_lt_of_cell? w _ hw376_3)).trans hw376_3)),(World.cell?_alloc_lt _ _ _ (World.block_lt_of_cell? _ _ (((HB.out.cell (World.block_lt_of_cell? w _ hw376_4)).trans hw376_4)))).trans (((HB.out.cell (World.block_lt_of_cell? w _ hw376_4)).trans hw376_4)),(World.cell?_alloc_lt _ _ _ (World.block_lt_of_cell? _ _ (((HB.out.cell (World.block_lt_of_cell? w _ hw376_5)).trans hw376_5)))).trans (((HB.out.cell (World.block_lt_of_cell? w _ hw376_5)).trans hw376_5)),(World.cell?_alloc_lt _ _ _ (World.block_lt_of_cell? _ _ (((HB.out.cell (World.block_lt_of_cell? w _ hw376_6)).trans hw376_6)))).trans (((HB.out.cell (World.block_lt_of_cell? w _ hw376_6)).trans hw376_6))⟩ (fun hHeld=>?_)
      clear hK K
      refine norm_ (a':=?_) ?_ ?_
      rotate_left
      ·show Act.put _ (some 28) _ = _
       simp only [Act.put,List.setIfInBounds_toArray,List.set_cons_zero,List.set_cons_succ,i64_w,i32_w]
       rfl
      refine one_ (i:=18) (N:=some 29) #[true,true,true,true,true,true,true,true,true,true,true,true,true,true,true,true,true,true,true,false] rfl rfl (one_of HT_.out (by kernel_rfl)) (by decide) (fun K hK=>?_)
      refine Kd.R_append_step k48 (w0:=w) w.heap.size (by rfl) (.tmp 11) (.tmp 28) 33 48 (.agg #[(.int .i64 0),(.int .i64 0),(.int .i64 0),(.int .i64 0),(.int .i64 0),(.int .i64 0),(.int .i64 0)]) 56 rfl Try.underlying33 info48 rfl (by decide) (by omega) u3 x3_1 (⟨(rd_T41 l0 x4_1).f0,(⟨(rd_T41 l0 x4_1).f1.f0,(rd_T41 l0 x4_1).f1.f1,(rd_T41 l0 x4_1).f1.f2,(rd_T41 l0 x4_1).f1.f3,(rd_T41 l0 x4_1).f1.f4⟩:S46),(rd_T41 l0 x4_1).f2⟩:S48) [.int .i64 ((rd_T41 l0 x4_1).f0),.int .i64 ((rd_T41 l0 x4_1).f1.f0),.int .i64 ((rd_T41 l0 x4_1).f1.f1),.int .i64 ((rd_T41 l0 x4_1).f1.f2),.int .i64 ((rd_T41 l0 x4_1).f1.f3),.int .i64 ((rd_T41 l0 x4_1).f1.f4),.int .i64 ((rd_T41 l0 x4_1).f2)] (fun _=>True) (fun _=>False) rfl rfl ?aP (fun _ hk=>hk.elim) ?aF ?aO ?aB ?aS ?aL ?_
      (case aP=>exact k48_mkM _ _ _ (⟨(rd_T41 l0 x4_1).f0,(⟨(rd_T41 l0 x4_1).f1.f0,(rd_T41 l0 x4_1).f1.f1,(rd_T41 l0 x4_1).f1.f2,(rd_T41 l0 x4_1).f1.f3,(rd_T41 l0 x4_1).f1.f4⟩:S46),(rd_T41 l0 x4_1).f2⟩:S48))
      (case aB=>exact zmb13_1)
      (case aF=>exact (fun _ _=>trivial))
      (case aO=>exact zmb13_12)
      (case aS=>exact (below_size zmb13_1))
      (case aL=>have:=LMc4.out;omega)
      intro v378 w6 ho hb hg hat
      rw [← Ny377.out] at ho
      have n0_:=Aside0.mk (hb)
      have n1_:=Aside0.mk (ho)
      clear HB
      clear HO_3
      have HB:=n0_
      have HO379:=n1_
      clear n0_ n1_
      clear ho hb hg hat
      refine hK.out _ _ ⟨((HB.out.cell (World.block_lt_of_cell? w _ hw374_0)).trans hw374_0),((HB.out.cell (World.block_lt_of_cell? w _ hw374_1)).trans hw374_1),((HB.out.cell (World.block_lt_of_cell? w _ hw374_2)).trans hw374_2),((HB.out.cell (World.block_lt_of_cell? w _ hw374_3)).trans hw374_3),((HB.out.cell (World.block_lt_of_cell? w _ hw374_4)).trans hw374_4),((HB.out.cell (World.block_lt_of_cell? w _ hw374_5)).trans hw374_5),((HB.out.cell (World.block_lt_of_cell? w _ hw374_6)).trans hw374_6),((HB.out.cell (World.block_lt_of_cell? w _ hw375_0)).trans hw375_0),((HB.out.cell (World.block_lt_of_cell? w _ hw375_1)).trans hw375_1),((HB.out.cell (World.block_lt_of_cell? w _ hw375_2)).trans hw375_2),((HB.out.cell (World.block_lt_of_cell? w _ hw375_3)).trans hw375_3),((HB.out.cell (World.block_lt_of_cell? w _ hw375_4)).trans hw375_4),((HB.out.cell (World.block_lt_of_cell? w _ hw375_5)).trans hw375_5),((HB.out.cell (World.block_lt_of_cell? w _ hw375_6)).trans hw375_6),((HB.out.cell (World.block_lt_of_cell? w _ hw376_0)).trans hw376_0),((HB.out.cell (World.block_lt_of_cell? w _ hw376_1)).trans hw376_1),((HB.out.cell (World.block_lt_of_cell? w _ hw376_2)).trans hw376_2),((HB.out.cell (World.block_lt_of_cell? w _ hw376_3)).trans hw376_3),((HB.out.cell (World.block_lt_of_cell? w _ hw376_4)).trans hw376_4),((HB.out.cell (World.block_lt_of_cell? w _ hw376_5)).trans hw376_5),((HB.out.cell (World.block_lt_of_cell? w _ hw376_6)).trans hw376_6)⟩ (fun hHeld=>?_)
      clear hK K
      refine norm_ (a':=?_) ?_ ?_
      rotate_left
      ·show Act.put _ (some 29) _ = _
       simp only [Act.put,List.setIfInBounds_toArray,List.set_cons_zero,List.set_cons_succ,i64_w,i32_w]
       rfl
      refine pure_ (i:=19) (N:=some 3) (v:=?_) (a':=?_) #[true,true,true,true,true,true,true,true,true,true,true,true,true,true,true,true,true,true,true,true] rfl rfl (any_of HT_.out (by kernel_rfl)) (fun _ _ _ h=>h) (Or.inl ⟨by rfl,?_⟩) ?_ ?_
      rotate_left
      ·intro w'
       go_simp
       with_reducible rfl
      rotate_left
      ·simp only [Act.put,List.setIfInBounds_toArray,List.set_cons_zero,List.set_cons_succ,i64_w,i32_w]
       rfl
      refine done_ (done_of HT_.out (by kernel_rfl)) ?_
      try go_wp2
      go_roundg k1
      case measure=>have:=HK1.out;omega
      case rel=>exact ⟨(y377),(wrap64 (x4_1 + 1)),zmb13_9,H',⟨by have:=HK1.out;omega⟩,⟨by (with_reducible repeat (first|apply Kd.R_alloc|apply Kd.R_drewN|apply Kd.R_drew));exact HO379.out⟩,⟨zmb13_1⟩⟩
     ·rw [if_neg c4] at H
      exact absurd H (by simp)
    ·rw [if_neg c3] at H
     exact absurd H (by simp)
   ·rw [if_neg c2] at H
    have c2b0:decide (x4_1 < (l0.length:Int)) = false:=decide_eq_false c2
    clear c2
    obtain rfl:=Option.some.inj H
    go_wp2
    go_ret
    exact ⟨_,zmb13_8,zmb13_12,zmb13_1⟩
end Go.Proofs.Ytecbponmpinnoaa.P
end
