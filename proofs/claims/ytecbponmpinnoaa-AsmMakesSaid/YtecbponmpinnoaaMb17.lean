/- A claim's text, put together by a program of this session (wip/tools/shake.py): the declarations that the claim needs. -/
import Derived.Test.YtecbponmpinnoaaMb0
import Derived.Test.YtecbponmpinnoaaMb1
import Derived.Test.YtecbponmpinnoaaMb2
import Derived.Test.YtecbponmpinnoaaMb3
import Derived.Test.YtecbponmpinnoaaMb4
import Derived.Test.YtecbponmpinnoaaMb5
import Derived.Test.YtecbponmpinnoaaMb6
import Derived.Test.YtecbponmpinnoaaMb7
import Derived.Test.YtecbponmpinnoaaMb8
import Derived.Test.YtecbponmpinnoaaMb9
import Derived.Test.YtecbponmpinnoaaMb10
import Derived.Test.YtecbponmpinnoaaMb11
import Derived.Test.YtecbponmpinnoaaMb13
import Derived.Test.YtecbponmpinnoaaMb15
import Derived.Test.YtecbponmpinnoaaProg
import Derived.Below
import Derived.Deep.Draws
import Derived.Deep.AppendLies
import Derived.Maps.AppendAt
import Derived.OwnWalk
import Derived.Laws.BytesArg
import Derived.Laws.MakeOwn
import Derived.Laws.OwnMore
import Derived.Deep.OwnRows
import Derived.Tactics
import Derived.Lib.ConvBytes
import Derived.Laws.Slices
import Derived.WalkKit
import Derived.KernelRfl
import Derived.RowKit3
import Derived.Deep.LoopGhost
import Derived.Deep.QuietTactic
import Derived.BigQuiet
import Derived.WideLaws
import Derived.Deep.DeepCutAuto
import Derived.Deep.CutBlock
import Derived.Deep.RegionHeld3
import Derived.Laws.Rows
import Derived.Lib.AppendStr
import Derived.ArgAppend
import Derived.Laws.IdiomCopy
import Derived.OrdersHeld
import Derived.Laws.BitsLemmas
import Derived.RowKit
import Derived.Deep.WholeRow
import Derived.Outline
import Derived.WalkMore
import Derived.ScopeJumps
import Derived.Deep.DeepFit
import Derived.Maps.OwnOps
import Derived.Maps.Views
import Derived.Carry
import Derived.WalkArith
import Derived.Laws.StructEq
namespace Go
theorem zmb17_0 {p:Prop} (h:p:=by first|rfl|(simp [errW_none,errW_some] <;> rfl)|(simp [*,errW_none,errW_some] <;> rfl)):p:=h
theorem zmb17_1 {p:Prop} (h:p:=by repeat (first|(with_reducible first|exact HB.out|apply below_alloc|apply pw_below_drewN|apply below_drew1)|exact HB.out)):p:=h
theorem zmb17_2 {p:Prop} (h:p:=by first|rfl|(simp;done)|(simp [*];done)):p:=h
theorem zmb17_3 {p:Prop} (h:p:=by first|(with_reducible assumption)|assumption):p:=h
theorem zmb17_4 {p:Prop} (h:p:=by have:=HK1.out;have:=HK2.out;have:=HK3.out;omega):p:=h
theorem zmb17_5 {p:Prop} (h:p:=by (try simp only [List.map_toArray,List.map_cons,List.map_nil]);first|done|rfl|(simp only [List.length_drop,List.length_take];rfl)):p:=h
theorem zmb17_6 {p:Prop} (h:p:=by (with_reducible repeat (first|refine blk_drewN ?_ _|refine blk_drew ?_|refine blk_alloc ?_ _));exact BK334.out):p:=h
theorem zmb17_7 {p:Prop} (h:p:=by repeat (first|(with_reducible first|exact HB.out|apply below_alloc|apply pw_below_drewN|apply below_drew1|refine below_set ?_ GE334.out)|exact HB.out)):p:=h
theorem zmb17_8 {p:Prop} (h:p:=by (with_reducible repeat (first|apply Kd.R_alloc|apply Kd.R_drewN|apply Kd.R_drew));exact HO339.out):p:=h
theorem zmb17_9 {p:Prop} (h:p:=by first|exact Kd.R_nil _ _ _ _ _|exact Kd.N_nil _ _ _ _ _|exact Kd.V_nil _ _ _ _ _|exact Kd.Q_nil _ _ _ _ _|exact Kd.S_nil _ _ _ _ _):p:=h
theorem zmb17_10 {p:Prop} (h:p:=by (with_reducible repeat (first|refine blk_drewN ?_ _|refine blk_drew ?_|refine blk_alloc ?_ _));exact BK343.out):p:=h
theorem zmb17_11 {p:Prop} (h:p:=by repeat (first|(with_reducible first|exact HB.out|apply below_alloc|apply pw_below_drewN|apply below_drew1|refine below_set ?_ GE334.out|refine below_set ?_ GE343.out)|exact HB.out)):p:=h
theorem zmb17_12 {p:Prop} (h:p:=by (with_reducible repeat (first|apply Kd.R_alloc|apply Kd.R_drewN|apply Kd.R_drew));exact HO_3.out):p:=h
theorem zmb17_13 {p:Prop} (h:p:=by (with_reducible repeat (first|apply Kd.R_alloc|apply Kd.R_drewN|apply Kd.R_drew));exact HO_4.out):p:=h
theorem zmb17_14 {p:Prop} (h:p:=by (with_reducible repeat (first|apply Kd.R_alloc|apply Kd.R_drewN|apply Kd.R_drew));exact HO_344000.out):p:=h
theorem zmb17_15 {p:Prop} (h:p:=by (with_reducible repeat (first|apply Kd.R_alloc|apply Kd.R_drewN|apply Kd.R_drew));exact HO_344001.out):p:=h
theorem zmb17_16 {p:Prop} (h:p:=by (with_reducible repeat (first|apply Kd.R_alloc|apply Kd.R_drewN|apply Kd.R_drew));exact HO_7.out):p:=h
theorem zmb17_17 {p:Prop} (h:p:=by have:=HK1.out;have:=HK2.out;omega):p:=h
theorem zmb17_18 {p:Prop} (h:p:=by (with_reducible repeat (first|refine blk_drewN ?_ _|refine blk_drew ?_|refine blk_alloc ?_ _));refine blk_far ?_ NB334_343.out _;(with_reducible repeat (first|refine blk_drewN ?_ _|refine blk_drew ?_|refine blk_alloc ?_ _));exact BK334.out):p:=h
theorem zmb17_19 {p:Prop} (h:p:=by (with_reducible repeat (first|refine blk_drewN ?_ _|refine blk_drew ?_|refine blk_alloc ?_ _));refine blk_put (cs:=#[u344000,u344001,.int .i64 0]) ?_ 0 _ rfl;(with_reducible repeat (first|refine blk_drewN ?_ _|refine blk_drew ?_|refine blk_alloc ?_ _));exact BK343.out):p:=h
theorem zmb17_20 {p:Prop} (h:p:=by (with_reducible repeat (first|refine blk_drewN ?_ _|refine blk_drew ?_|refine blk_alloc ?_ _));refine blk_put (cs:=#[.slice none 0 0,.slice none 0 0,.int .i64 x335002_2]) ?_ 2 _ rfl;(with_reducible repeat (first|refine blk_drewN ?_ _|refine blk_drew ?_|refine blk_alloc ?_ _));refine blk_put (cs:=#[.slice none 0 0,.slice none 0 0,.int .i64 x335002_2]) ?_ 1 _ rfl;(with_reducible repeat (first|refine blk_drewN ?_ _|refine blk_drew ?_|refine blk_alloc ?_ _));refine blk_put (cs:=#[.slice none 0 0,.slice none 0 0,.int .i64 x335002_2]) ?_ 0 _ rfl;(with_reducible repeat (first|refine blk_drewN ?_ _|refine blk_drew ?_|refine blk_alloc ?_ _));exact BK334.out):p:=h
end Go
set_option linter.unusedVariables false
set_option linter.unusedSimpArgs false
section
namespace Go.Proofs.Ytecbponmpinnoaa.P
open Go.RowKit Go.Proofs.YtecbponmpinnoaaW.PrintWords Go.Proofs.YtecbponmpinnoaaW.PrintLast Go.Proofs.YtecbponmpinnoaaW.PrintMore
attribute [local go_sem] max2_int min2_int max_two min_two max_three min_three max_four min_four   
set_option linter.unusedVariables false
set_option linter.unusedSimpArgs false
mutual
def rushlightref05_May.l0:Nat→List (S48)→Int→Option (Int)
 | 0,_,_=>none
 | k + 1,x0,x3=>if x3 < (x0.length:Int) then (if 0≤x3 then ((rushlightref05_Right.f k ((rd_T48 x0 x3).f0) ((rd_T48 x0 x3).f1.f0) ((rd_T48 x0 x3).f1.f1) ((rd_T48 x0 x3).f1.f2) ((rd_T48 x0 x3).f1.f3) ((rd_T48 x0 x3).f1.f4) ((rd_T48 x0 x3).f2)).bind fun t237=>(if t237 = true then (rushlightref05_May.l0 k x0 (wrap64 (x3 + 1))) else (some 1))) else (none)) else (rushlightref05_May.l1 k x0 0)
def rushlightref05_May.l1:Nat→List (S48)→Int→Option (Int)
 | 0,_,_=>none
 | k + 1,x0,x4=>if x4 < (x0.length:Int) then (rushlightref05_May.l2 k x0 x4 0) else (rushlightref05_May.l3 k x0 0)
def rushlightref05_May.l2:Nat→List (S48)→Int→Int→Option (Int)
 | 0,_,_,_=>none
 | k + 1,x0,x4,x5=>if x5 < x4 then (if 0≤x4 then (if x4 < (x0.length:Int) then (if ((rd_T48 x0 x4).f0) = 2 then (if 0≤x5 then (if x5 < (x0.length:Int) then (if ((rd_T48 x0 x5).f0) = 2 then (if ((rd_T48 x0 x4).f2) = ((rd_T48 x0 x5).f2) then (some 6) else (rushlightref05_May.l2 k x0 x4 (wrap64 (x5 + 1)))) else (rushlightref05_May.l2 k x0 x4 (wrap64 (x5 + 1)))) else (none)) else (none)) else (rushlightref05_May.l2 k x0 x4 (wrap64 (x5 + 1)))) else (none)) else (none)) else (rushlightref05_May.l1 k x0 (wrap64 (x4 + 1)))
def rushlightref05_May.l3:Nat→List (S48)→Int→Option (Int)
 | 0,_,_=>none
 | k + 1,x0,x6=>if x6 < (x0.length:Int) then (if 0≤x6 then (if ((rd_T48 x0 x6).f0) = 3 then ((rushlightref05_stands.f k x0 ((rd_T48 x0 x6).f2)).bind fun t244=>(if t244 < 0 then (some 4) else (rushlightref05_May.l3 k x0 (wrap64 (x6 + 1))))) else (if ((rd_T48 x0 x6).f0) = 4 then ((rushlightref05_stands.f k x0 ((rd_T48 x0 x6).f2)).bind fun t247=>(if t247 < 0 then (some 4) else (rushlightref05_May.l3 k x0 (wrap64 (x6 + 1))))) else (rushlightref05_May.l3 k x0 (wrap64 (x6 + 1))))) else (none)) else (some 0)
end
def rushlightref05_May.f (k:Nat) (l0:List (S48)):Option (Int):=if (l0.length:Int) > 32768 then (some 2) else (rushlightref05_May.l0 k l0 0)
set_option maxHeartbeats 8000000 in
set_option maxRecDepth 100000 in
theorem rushlightref05_May.calls (k:Nat) (A0:Option Addr) (c0:Nat) (l0:List (S48)) (r:Int) (w:World) (hr0:Kd.C k48 w A0 l0.length l0) (hc0:l0.length≤c0) (h:rushlightref05_May.f k l0 = some r) :
  Calls Try.prog 30 #[.slice A0 l0.length c0] w fun e w'=>e = .returned (.int .i64 r)∧Below w.heap.size w w':=by
 have hu48:=Try.underlying48
 have HR0:=Aside0.mk hr0
 have HC0:=Aside0.mk hc0
 clear hr0 hc0
 have HB:=Aside0.mk (Below.refl w.heap.size w)
 have H:(if (l0.length:Int) > 32768 then (some 2) else (rushlightref05_May.l0 k l0 0)) = some r:=h
 clear h
 by_cases c2:(l0.length:Int) > 32768
 ·rw [if_pos c2] at H
  have c2b0:decide (32768 < (l0.length:Int)) = true:=decide_eq_true c2
  have c2b1:decide (32768 < l0.length) = true:=decide_eq_true (by omega)
  clear c2
  obtain rfl:=Option.some.inj H
  go_enter Try.func30,Try.ntmps30
  go_wp2
  repeat (go_quiet (fail);try go_wp2)
  go_ret
  exact ⟨zmb17_0,zmb17_1⟩
 ·rw [if_neg c2] at H
  have c2b0:decide (32768 < (l0.length:Int)) = false:=decide_eq_false c2
  have c2b1:decide (32768 < l0.length) = false:=decide_eq_false (by omega)
  clear c2
  have H':=Aside0.mk H
  clear H
  go_enter Try.func30,Try.ntmps30
  go_wp2
  repeat (go_quiet (fail);try go_wp2)
  go_loopg [3] k (fun kq v3 w'=>∃ (x3_1:Int),v3 = .int .i64 x3_1∧Aside0 (rushlightref05_May.l0 kq l0 x3_1 = some r)∧Aside0 (kq≤k)∧Aside0 (Below w.heap.size w w'))
  case atStart=>exact ⟨(0),zmb17_2,H',⟨Nat.le_refl _⟩,⟨zmb17_1⟩⟩
  case round =>
   clear H'
   try clear c2
   try clear c2b0
   try clear c2b1
   try clear p2
   obtain ⟨x3_1,rfl,HA,HK1,HB⟩:=hrel
   cases gk with
   | zero=>exact absurd HA.out (by simp [rushlightref05_May.l0])
   | succ k1 =>
    have H:=HA.out
    clear HA
    simp only [rushlightref05_May.l0] at H
    by_cases c3:x3_1 < (l0.length:Int)
    ·rw [if_pos c3] at H
     have c3b0:decide (x3_1 < (l0.length:Int)) = true:=decide_eq_true c3
     clear c3
     by_cases c4:0≤x3_1
     ·rw [if_pos c4] at H
      have c4b0:decide (0≤x3_1) = true:=decide_eq_true c4
      clear c4
      replace H:=Option.bind_eq_some_iff.mp H
      obtain ⟨t237,A50,H⟩:=H
      replace H:(if t237 = true then (rushlightref05_May.l0 k1 l0 (wrap64 (x3_1 + 1))) else (some 1)) = some r:=H
      have A5:=Aside0.mk A50
      clear A50
      by_cases c6:t237 = true
      ·subst c6
       have H1:(rushlightref05_May.l0 k1 l0 (wrap64 (x3_1 + 1))) = some r:=by rw [if_pos rfl] at H;exact H
       clear H
       have H:=H1
       clear H1
       have H':=Aside0.mk H
       clear H
       have p236:0≤(x3_1:Int):=of_decide_eq_true zmb17_3
       have q236:x3_1 < (l0.length:Int):=of_decide_eq_true zmb17_3
       obtain ⟨ad236,e236,hx236_0,hx236_1,hx236_2,hx236_3,hx236_4,hx236_5,hx236_6⟩:=at_T48 HR0.out x3_1 p236 q236
       cases e236
       replace hx236_0:=(HB.out.cell (World.block_lt_of_cell? w _ hx236_0)).trans hx236_0
       replace hx236_1:=(HB.out.cell (World.block_lt_of_cell? w _ hx236_1)).trans hx236_1
       replace hx236_2:=(HB.out.cell (World.block_lt_of_cell? w _ hx236_2)).trans hx236_2
       replace hx236_3:=(HB.out.cell (World.block_lt_of_cell? w _ hx236_3)).trans hx236_3
       replace hx236_4:=(HB.out.cell (World.block_lt_of_cell? w _ hx236_4)).trans hx236_4
       replace hx236_5:=(HB.out.cell (World.block_lt_of_cell? w _ hx236_5)).trans hx236_5
       replace hx236_6:=(HB.out.cell (World.block_lt_of_cell? w _ hx236_6)).trans hx236_6
       replace p236:=eq_true p236
       replace q236:=eq_true q236
       go_wp2_with (first|(go_at_call 15;(with_reducible refine (rushlightref05_Right.calls k1 ((rd_T48 l0 x3_1).f0) ((rd_T48 l0 x3_1).f1.f0) ((rd_T48 l0 x3_1).f1.f1) ((rd_T48 l0 x3_1).f1.f2) ((rd_T48 l0 x3_1).f1.f3) ((rd_T48 l0 x3_1).f1.f4) ((rd_T48 l0 x3_1).f2) true _ A5.out).mono ?_);rintro e w7 ⟨rfl,hb⟩;have n0_:=Aside0.mk (below_step zmb17_1 hb);clear HB;have HB:=n0_;clear n0_;(try clear hb);(try clear hb2);(try clear hk);(try clear hi)))
       repeat (go_quiet (first|(go_at_call 15;(with_reducible refine (rushlightref05_Right.calls k1 ((rd_T48 l0 x3_1).f0) ((rd_T48 l0 x3_1).f1.f0) ((rd_T48 l0 x3_1).f1.f1) ((rd_T48 l0 x3_1).f1.f2) ((rd_T48 l0 x3_1).f1.f3) ((rd_T48 l0 x3_1).f1.f4) ((rd_T48 l0 x3_1).f2) true _ A5.out).mono ?_);rintro e w7 ⟨rfl,hb⟩;have n0_:=Aside0.mk (below_step zmb17_1 hb);clear HB;have HB:=n0_;clear n0_;(try clear hb);(try clear hb2);(try clear hk);(try clear hi)));try go_wp2_with (first|(go_at_call 15;(with_reducible refine (rushlightref05_Right.calls k1 ((rd_T48 l0 x3_1).f0) ((rd_T48 l0 x3_1).f1.f0) ((rd_T48 l0 x3_1).f1.f1) ((rd_T48 l0 x3_1).f1.f2) ((rd_T48 l0 x3_1).f1.f3) ((rd_T48 l0 x3_1).f1.f4) ((rd_T48 l0 x3_1).f2) true _ A5.out).mono ?_);rintro e w7 ⟨rfl,hb⟩;have n0_:=Aside0.mk (below_step zmb17_1 hb);clear HB;have HB:=n0_;clear n0_;(try clear hb);(try clear hb2);(try clear hk);(try clear hi))))
       go_roundg k1
       case measure=>have:=HK1.out;omega
       case rel=>exact ⟨(wrap64 (x3_1 + 1)),zmb17_2,H',⟨by have:=HK1.out;omega⟩,⟨zmb17_1⟩⟩
      ·replace c6:=Bool.eq_false_iff.mpr c6
       subst c6
       have H1:(some 1) = some r:=by rw [if_neg (show ¬ (false = true) by decide)] at H;exact H
       clear H
       have H:=H1
       clear H1
       obtain rfl:=Option.some.inj H
       have p236:0≤(x3_1:Int):=of_decide_eq_true zmb17_3
       have q236:x3_1 < (l0.length:Int):=of_decide_eq_true zmb17_3
       obtain ⟨ad236,e236,hx236_0,hx236_1,hx236_2,hx236_3,hx236_4,hx236_5,hx236_6⟩:=at_T48 HR0.out x3_1 p236 q236
       cases e236
       replace hx236_0:=(HB.out.cell (World.block_lt_of_cell? w _ hx236_0)).trans hx236_0
       replace hx236_1:=(HB.out.cell (World.block_lt_of_cell? w _ hx236_1)).trans hx236_1
       replace hx236_2:=(HB.out.cell (World.block_lt_of_cell? w _ hx236_2)).trans hx236_2
       replace hx236_3:=(HB.out.cell (World.block_lt_of_cell? w _ hx236_3)).trans hx236_3
       replace hx236_4:=(HB.out.cell (World.block_lt_of_cell? w _ hx236_4)).trans hx236_4
       replace hx236_5:=(HB.out.cell (World.block_lt_of_cell? w _ hx236_5)).trans hx236_5
       replace hx236_6:=(HB.out.cell (World.block_lt_of_cell? w _ hx236_6)).trans hx236_6
       replace p236:=eq_true p236
       replace q236:=eq_true q236
       go_wp2_with (first|(go_at_call 15;(with_reducible refine (rushlightref05_Right.calls k1 ((rd_T48 l0 x3_1).f0) ((rd_T48 l0 x3_1).f1.f0) ((rd_T48 l0 x3_1).f1.f1) ((rd_T48 l0 x3_1).f1.f2) ((rd_T48 l0 x3_1).f1.f3) ((rd_T48 l0 x3_1).f1.f4) ((rd_T48 l0 x3_1).f2) false _ A5.out).mono ?_);rintro e w8 ⟨rfl,hb⟩;have n0_:=Aside0.mk (below_step zmb17_1 hb);clear HB;have HB:=n0_;clear n0_;(try clear hb);(try clear hb2);(try clear hk);(try clear hi)))
       repeat (go_quiet (first|(go_at_call 15;(with_reducible refine (rushlightref05_Right.calls k1 ((rd_T48 l0 x3_1).f0) ((rd_T48 l0 x3_1).f1.f0) ((rd_T48 l0 x3_1).f1.f1) ((rd_T48 l0 x3_1).f1.f2) ((rd_T48 l0 x3_1).f1.f3) ((rd_T48 l0 x3_1).f1.f4) ((rd_T48 l0 x3_1).f2) false _ A5.out).mono ?_);rintro e w8 ⟨rfl,hb⟩;have n0_:=Aside0.mk (below_step zmb17_1 hb);clear HB;have HB:=n0_;clear n0_;(try clear hb);(try clear hb2);(try clear hk);(try clear hi)));try go_wp2_with (first|(go_at_call 15;(with_reducible refine (rushlightref05_Right.calls k1 ((rd_T48 l0 x3_1).f0) ((rd_T48 l0 x3_1).f1.f0) ((rd_T48 l0 x3_1).f1.f1) ((rd_T48 l0 x3_1).f1.f2) ((rd_T48 l0 x3_1).f1.f3) ((rd_T48 l0 x3_1).f1.f4) ((rd_T48 l0 x3_1).f2) false _ A5.out).mono ?_);rintro e w8 ⟨rfl,hb⟩;have n0_:=Aside0.mk (below_step zmb17_1 hb);clear HB;have HB:=n0_;clear n0_;(try clear hb);(try clear hb2);(try clear hk);(try clear hi))))
       go_ret
       exact ⟨zmb17_0,zmb17_1⟩
     ·rw [if_neg c4] at H
      exact absurd H (by simp)
    ·rw [if_neg c3] at H
     have c3b0:decide (x3_1 < (l0.length:Int)) = false:=decide_eq_false c3
     clear c3
     have H':=Aside0.mk H
     clear H
     go_wp2
     repeat (go_quiet (fail);try go_wp2)
     go_loopg [4] k1 (fun kq v4 w'=>∃ (x4_2:Int),v4 = .int .i64 x4_2∧Aside0 (rushlightref05_May.l1 kq l0 x4_2 = some r)∧Aside0 (kq≤k1)∧Aside0 (Below w.heap.size w w'))
     case atStart=>exact ⟨(0),zmb17_2,H',⟨Nat.le_refl _⟩,⟨zmb17_1⟩⟩
     case round =>
      clear H'
      try clear c2
      try clear c2b0
      try clear c2b1
      try clear p2
      try clear q2
      try clear hx2
      try clear c3
      try clear c3b0
      try clear c4
      try clear c4b0
      try clear c6
      try clear p6
      try clear hx236_0
      try clear hx236_1
      try clear hx236_2
      try clear hx236_3
      try clear hx236_4
      try clear hx236_5
      try clear hx236_6
      try clear p2
      try clear p236
      try clear q236
      obtain ⟨x4_2,rfl,HA,HK2,HB⟩:=hrel
      cases gk with
      | zero=>exact absurd HA.out (by simp [rushlightref05_May.l1])
      | succ k2 =>
       have H:=HA.out
       clear HA
       simp only [rushlightref05_May.l1] at H
       by_cases c9:x4_2 < (l0.length:Int)
       ·rw [if_pos c9] at H
        have c9b0:decide (x4_2 < (l0.length:Int)) = true:=decide_eq_true c9
        clear c9
        have H':=Aside0.mk H
        clear H
        go_wp2
        repeat (go_quiet (fail);try go_wp2)
        go_loopg [5] k2 (fun kq v5 w'=>∃ (x5_3:Int),v5 = .int .i64 x5_3∧Aside0 (rushlightref05_May.l2 kq l0 x4_2 x5_3 = some r)∧Aside0 (kq≤k2)∧Aside0 (Below w.heap.size w w'))
        case atStart=>exact ⟨(0),zmb17_2,H',⟨Nat.le_refl _⟩,⟨zmb17_1⟩⟩
        case round =>
         clear H'
         try clear c2
         try clear c2b0
         try clear c2b1
         try clear p2
         try clear q2
         try clear hx2
         try clear c3
         try clear c3b0
         try clear c4
         try clear c4b0
         try clear c6
         try clear p6
         try clear c9
         try clear c9b0
         try clear hx236_0
         try clear hx236_1
         try clear hx236_2
         try clear hx236_3
         try clear hx236_4
         try clear hx236_5
         try clear hx236_6
         try clear p2
         try clear p236
         try clear p6
         try clear q2
         try clear q236
         obtain ⟨x5_3,rfl,HA,HK3,HB⟩:=hrel
         cases gk with
         | zero=>exact absurd HA.out (by simp [rushlightref05_May.l2])
         | succ k3 =>
          have H:=HA.out
          clear HA
          simp only [rushlightref05_May.l2] at H
          by_cases c10:x5_3 < x4_2
          ·rw [if_pos c10] at H
           have c10b0:decide (x5_3 < x4_2) = true:=decide_eq_true c10
           clear c10
           by_cases c11:0≤x4_2
           ·rw [if_pos c11] at H
            have c11b0:decide (0≤x4_2) = true:=decide_eq_true c11
            clear c11
            by_cases c12:x4_2 < (l0.length:Int)
            ·rw [if_pos c12] at H
             have c12b0:decide (x4_2 < (l0.length:Int)) = true:=decide_eq_true c12
             clear c12
             by_cases c13:((rd_T48 l0 x4_2).f0) = 2
             ·rw [if_pos c13] at H
              have c13b0:(((rd_T48 l0 x4_2).f0) == 2) = true:=beq_iff_eq.mpr c13
              have c13b1:(((rd_T48 l0 x4_2).f0) != 2) = false:=bne_eq_false_iff_eq.mpr c13
              clear c13
              by_cases c14:0≤x5_3
              ·rw [if_pos c14] at H
               have c14b0:decide (0≤x5_3) = true:=decide_eq_true c14
               clear c14
               by_cases c15:x5_3 < (l0.length:Int)
               ·rw [if_pos c15] at H
                have c15b0:decide (x5_3 < (l0.length:Int)) = true:=decide_eq_true c15
                clear c15
                by_cases c16:((rd_T48 l0 x5_3).f0) = 2
                ·rw [if_pos c16] at H
                 have c16b0:(((rd_T48 l0 x5_3).f0) == 2) = true:=beq_iff_eq.mpr c16
                 have c16b1:(((rd_T48 l0 x5_3).f0) != 2) = false:=bne_eq_false_iff_eq.mpr c16
                 clear c16
                 by_cases c17:((rd_T48 l0 x4_2).f2) = ((rd_T48 l0 x5_3).f2)
                 ·rw [if_pos c17] at H
                  have c17b0:(((rd_T48 l0 x4_2).f2) == ((rd_T48 l0 x5_3).f2)) = true:=beq_iff_eq.mpr c17
                  have c17b1:(((rd_T48 l0 x4_2).f2) != ((rd_T48 l0 x5_3).f2)) = false:=bne_eq_false_iff_eq.mpr c17
                  clear c17
                  obtain rfl:=Option.some.inj H
                  have p238:0≤(x4_2:Int):=of_decide_eq_true zmb17_3
                  have q238:x4_2 < (l0.length:Int):=of_decide_eq_true zmb17_3
                  obtain ⟨ad238,e238,hx238_0,hx238_1,hx238_2,hx238_3,hx238_4,hx238_5,hx238_6⟩:=at_T48 HR0.out x4_2 p238 q238
                  cases e238
                  replace hx238_0:=(HB.out.cell (World.block_lt_of_cell? w _ hx238_0)).trans hx238_0
                  replace hx238_1:=(HB.out.cell (World.block_lt_of_cell? w _ hx238_1)).trans hx238_1
                  replace hx238_2:=(HB.out.cell (World.block_lt_of_cell? w _ hx238_2)).trans hx238_2
                  replace hx238_3:=(HB.out.cell (World.block_lt_of_cell? w _ hx238_3)).trans hx238_3
                  replace hx238_4:=(HB.out.cell (World.block_lt_of_cell? w _ hx238_4)).trans hx238_4
                  replace hx238_5:=(HB.out.cell (World.block_lt_of_cell? w _ hx238_5)).trans hx238_5
                  replace hx238_6:=(HB.out.cell (World.block_lt_of_cell? w _ hx238_6)).trans hx238_6
                  replace p238:=eq_true p238
                  replace q238:=eq_true q238
                  have p239:0≤(x5_3:Int):=of_decide_eq_true zmb17_3
                  have q239:x5_3 < (l0.length:Int):=of_decide_eq_true zmb17_3
                  obtain ⟨ad239,e239,hx239_0,hx239_1,hx239_2,hx239_3,hx239_4,hx239_5,hx239_6⟩:=at_T48 HR0.out x5_3 p239 q239
                  obtain rfl:ad238 = ad239:=(by injection e239)
                  replace hx239_0:=(HB.out.cell (World.block_lt_of_cell? w _ hx239_0)).trans hx239_0
                  replace hx239_1:=(HB.out.cell (World.block_lt_of_cell? w _ hx239_1)).trans hx239_1
                  replace hx239_2:=(HB.out.cell (World.block_lt_of_cell? w _ hx239_2)).trans hx239_2
                  replace hx239_3:=(HB.out.cell (World.block_lt_of_cell? w _ hx239_3)).trans hx239_3
                  replace hx239_4:=(HB.out.cell (World.block_lt_of_cell? w _ hx239_4)).trans hx239_4
                  replace hx239_5:=(HB.out.cell (World.block_lt_of_cell? w _ hx239_5)).trans hx239_5
                  replace hx239_6:=(HB.out.cell (World.block_lt_of_cell? w _ hx239_6)).trans hx239_6
                  replace p239:=eq_true p239
                  replace q239:=eq_true q239
                  have p240:0≤(x4_2:Int):=of_decide_eq_true zmb17_3
                  have q240:x4_2 < (l0.length:Int):=of_decide_eq_true zmb17_3
                  obtain ⟨ad240,e240,hx240_0,hx240_1,hx240_2,hx240_3,hx240_4,hx240_5,hx240_6⟩:=at_T48 HR0.out x4_2 p240 q240
                  obtain rfl:ad238 = ad240:=(by injection e240)
                  replace hx240_0:=(HB.out.cell (World.block_lt_of_cell? w _ hx240_0)).trans hx240_0
                  replace hx240_1:=(HB.out.cell (World.block_lt_of_cell? w _ hx240_1)).trans hx240_1
                  replace hx240_2:=(HB.out.cell (World.block_lt_of_cell? w _ hx240_2)).trans hx240_2
                  replace hx240_3:=(HB.out.cell (World.block_lt_of_cell? w _ hx240_3)).trans hx240_3
                  replace hx240_4:=(HB.out.cell (World.block_lt_of_cell? w _ hx240_4)).trans hx240_4
                  replace hx240_5:=(HB.out.cell (World.block_lt_of_cell? w _ hx240_5)).trans hx240_5
                  replace hx240_6:=(HB.out.cell (World.block_lt_of_cell? w _ hx240_6)).trans hx240_6
                  replace p240:=eq_true p240
                  replace q240:=eq_true q240
                  have p241:0≤(x5_3:Int):=of_decide_eq_true zmb17_3
                  have q241:x5_3 < (l0.length:Int):=of_decide_eq_true zmb17_3
                  obtain ⟨ad241,e241,hx241_0,hx241_1,hx241_2,hx241_3,hx241_4,hx241_5,hx241_6⟩:=at_T48 HR0.out x5_3 p241 q241
                  obtain rfl:ad238 = ad241:=(by injection e241)
                  replace hx241_0:=(HB.out.cell (World.block_lt_of_cell? w _ hx241_0)).trans hx241_0
                  replace hx241_1:=(HB.out.cell (World.block_lt_of_cell? w _ hx241_1)).trans hx241_1
                  replace hx241_2:=(HB.out.cell (World.block_lt_of_cell? w _ hx241_2)).trans hx241_2
                  replace hx241_3:=(HB.out.cell (World.block_lt_of_cell? w _ hx241_3)).trans hx241_3
                  replace hx241_4:=(HB.out.cell (World.block_lt_of_cell? w _ hx241_4)).trans hx241_4
                  replace hx241_5:=(HB.out.cell (World.block_lt_of_cell? w _ hx241_5)).trans hx241_5
                  replace hx241_6:=(HB.out.cell (World.block_lt_of_cell? w _ hx241_6)).trans hx241_6
                  replace p241:=eq_true p241
                  replace q241:=eq_true q241
                  go_wp2
                  repeat (go_quiet (fail);try go_wp2)
                  go_ret
                  exact ⟨zmb17_0,zmb17_1⟩
                 ·rw [if_neg c17] at H
                  have c17b0:(((rd_T48 l0 x4_2).f2) == ((rd_T48 l0 x5_3).f2)) = false:=beq_eq_false_iff_ne.mpr c17
                  have c17b1:(((rd_T48 l0 x4_2).f2) != ((rd_T48 l0 x5_3).f2)) = true:=bne_iff_ne.mpr c17
                  have H':=Aside0.mk H
                  clear H
                  have p238:0≤(x4_2:Int):=of_decide_eq_true zmb17_3
                  have q238:x4_2 < (l0.length:Int):=of_decide_eq_true zmb17_3
                  obtain ⟨ad238,e238,hx238_0,hx238_1,hx238_2,hx238_3,hx238_4,hx238_5,hx238_6⟩:=at_T48 HR0.out x4_2 p238 q238
                  cases e238
                  replace hx238_0:=(HB.out.cell (World.block_lt_of_cell? w _ hx238_0)).trans hx238_0
                  replace hx238_1:=(HB.out.cell (World.block_lt_of_cell? w _ hx238_1)).trans hx238_1
                  replace hx238_2:=(HB.out.cell (World.block_lt_of_cell? w _ hx238_2)).trans hx238_2
                  replace hx238_3:=(HB.out.cell (World.block_lt_of_cell? w _ hx238_3)).trans hx238_3
                  replace hx238_4:=(HB.out.cell (World.block_lt_of_cell? w _ hx238_4)).trans hx238_4
                  replace hx238_5:=(HB.out.cell (World.block_lt_of_cell? w _ hx238_5)).trans hx238_5
                  replace hx238_6:=(HB.out.cell (World.block_lt_of_cell? w _ hx238_6)).trans hx238_6
                  replace p238:=eq_true p238
                  replace q238:=eq_true q238
                  have p239:0≤(x5_3:Int):=of_decide_eq_true zmb17_3
                  have q239:x5_3 < (l0.length:Int):=of_decide_eq_true zmb17_3
                  obtain ⟨ad239,e239,hx239_0,hx239_1,hx239_2,hx239_3,hx239_4,hx239_5,hx239_6⟩:=at_T48 HR0.out x5_3 p239 q239
                  obtain rfl:ad238 = ad239:=(by injection e239)
                  replace hx239_0:=(HB.out.cell (World.block_lt_of_cell? w _ hx239_0)).trans hx239_0
                  replace hx239_1:=(HB.out.cell (World.block_lt_of_cell? w _ hx239_1)).trans hx239_1
                  replace hx239_2:=(HB.out.cell (World.block_lt_of_cell? w _ hx239_2)).trans hx239_2
                  replace hx239_3:=(HB.out.cell (World.block_lt_of_cell? w _ hx239_3)).trans hx239_3
                  replace hx239_4:=(HB.out.cell (World.block_lt_of_cell? w _ hx239_4)).trans hx239_4
                  replace hx239_5:=(HB.out.cell (World.block_lt_of_cell? w _ hx239_5)).trans hx239_5
                  replace hx239_6:=(HB.out.cell (World.block_lt_of_cell? w _ hx239_6)).trans hx239_6
                  replace p239:=eq_true p239
                  replace q239:=eq_true q239
                  have p240:0≤(x4_2:Int):=of_decide_eq_true zmb17_3
                  have q240:x4_2 < (l0.length:Int):=of_decide_eq_true zmb17_3
                  obtain ⟨ad240,e240,hx240_0,hx240_1,hx240_2,hx240_3,hx240_4,hx240_5,hx240_6⟩:=at_T48 HR0.out x4_2 p240 q240
                  obtain rfl:ad238 = ad240:=(by injection e240)
                  replace hx240_0:=(HB.out.cell (World.block_lt_of_cell? w _ hx240_0)).trans hx240_0
                  replace hx240_1:=(HB.out.cell (World.block_lt_of_cell? w _ hx240_1)).trans hx240_1
                  replace hx240_2:=(HB.out.cell (World.block_lt_of_cell? w _ hx240_2)).trans hx240_2
                  replace hx240_3:=(HB.out.cell (World.block_lt_of_cell? w _ hx240_3)).trans hx240_3
                  replace hx240_4:=(HB.out.cell (World.block_lt_of_cell? w _ hx240_4)).trans hx240_4
                  replace hx240_5:=(HB.out.cell (World.block_lt_of_cell? w _ hx240_5)).trans hx240_5
                  replace hx240_6:=(HB.out.cell (World.block_lt_of_cell? w _ hx240_6)).trans hx240_6
                  replace p240:=eq_true p240
                  replace q240:=eq_true q240
                  have p241:0≤(x5_3:Int):=of_decide_eq_true zmb17_3
                  have q241:x5_3 < (l0.length:Int):=of_decide_eq_true zmb17_3
                  obtain ⟨ad241,e241,hx241_0,hx241_1,hx241_2,hx241_3,hx241_4,hx241_5,hx241_6⟩:=at_T48 HR0.out x5_3 p241 q241
                  obtain rfl:ad238 = ad241:=(by injection e241)
                  replace hx241_0:=(HB.out.cell (World.block_lt_of_cell? w _ hx241_0)).trans hx241_0
                  replace hx241_1:=(HB.out.cell (World.block_lt_of_cell? w _ hx241_1)).trans hx241_1
                  replace hx241_2:=(HB.out.cell (World.block_lt_of_cell? w _ hx241_2)).trans hx241_2
                  replace hx241_3:=(HB.out.cell (World.block_lt_of_cell? w _ hx241_3)).trans hx241_3
                  replace hx241_4:=(HB.out.cell (World.block_lt_of_cell? w _ hx241_4)).trans hx241_4
                  replace hx241_5:=(HB.out.cell (World.block_lt_of_cell? w _ hx241_5)).trans hx241_5
                  replace hx241_6:=(HB.out.cell (World.block_lt_of_cell? w _ hx241_6)).trans hx241_6
                  replace p241:=eq_true p241
                  replace q241:=eq_true q241
                  go_wp2
                  repeat (go_quiet (fail);try go_wp2)
                  go_roundg k3
                  case measure=>have:=HK1.out;have:=HK2.out;have:=HK3.out;omega
                  case rel=>exact ⟨(wrap64 (x5_3 + 1)),zmb17_2,H',⟨zmb17_4⟩,⟨zmb17_1⟩⟩
                ·rw [if_neg c16] at H
                 have c16b0:(((rd_T48 l0 x5_3).f0) == 2) = false:=beq_eq_false_iff_ne.mpr c16
                 have c16b1:(((rd_T48 l0 x5_3).f0) != 2) = true:=bne_iff_ne.mpr c16
                 have H':=Aside0.mk H
                 clear H
                 have p238:0≤(x4_2:Int):=of_decide_eq_true zmb17_3
                 have q238:x4_2 < (l0.length:Int):=of_decide_eq_true zmb17_3
                 obtain ⟨ad238,e238,hx238_0,hx238_1,hx238_2,hx238_3,hx238_4,hx238_5,hx238_6⟩:=at_T48 HR0.out x4_2 p238 q238
                 cases e238
                 replace hx238_0:=(HB.out.cell (World.block_lt_of_cell? w _ hx238_0)).trans hx238_0
                 replace hx238_1:=(HB.out.cell (World.block_lt_of_cell? w _ hx238_1)).trans hx238_1
                 replace hx238_2:=(HB.out.cell (World.block_lt_of_cell? w _ hx238_2)).trans hx238_2
                 replace hx238_3:=(HB.out.cell (World.block_lt_of_cell? w _ hx238_3)).trans hx238_3
                 replace hx238_4:=(HB.out.cell (World.block_lt_of_cell? w _ hx238_4)).trans hx238_4
                 replace hx238_5:=(HB.out.cell (World.block_lt_of_cell? w _ hx238_5)).trans hx238_5
                 replace hx238_6:=(HB.out.cell (World.block_lt_of_cell? w _ hx238_6)).trans hx238_6
                 replace p238:=eq_true p238
                 replace q238:=eq_true q238
                 have p239:0≤(x5_3:Int):=of_decide_eq_true zmb17_3
                 have q239:x5_3 < (l0.length:Int):=of_decide_eq_true zmb17_3
                 obtain ⟨ad239,e239,hx239_0,hx239_1,hx239_2,hx239_3,hx239_4,hx239_5,hx239_6⟩:=at_T48 HR0.out x5_3 p239 q239
                 obtain rfl:ad238 = ad239:=(by injection e239)
                 replace hx239_0:=(HB.out.cell (World.block_lt_of_cell? w _ hx239_0)).trans hx239_0
                 replace hx239_1:=(HB.out.cell (World.block_lt_of_cell? w _ hx239_1)).trans hx239_1
                 replace hx239_2:=(HB.out.cell (World.block_lt_of_cell? w _ hx239_2)).trans hx239_2
                 replace hx239_3:=(HB.out.cell (World.block_lt_of_cell? w _ hx239_3)).trans hx239_3
                 replace hx239_4:=(HB.out.cell (World.block_lt_of_cell? w _ hx239_4)).trans hx239_4
                 replace hx239_5:=(HB.out.cell (World.block_lt_of_cell? w _ hx239_5)).trans hx239_5
                 replace hx239_6:=(HB.out.cell (World.block_lt_of_cell? w _ hx239_6)).trans hx239_6
                 replace p239:=eq_true p239
                 replace q239:=eq_true q239
                 go_wp2
                 repeat (go_quiet (fail);try go_wp2)
                 go_roundg k3
                 case measure=>have:=HK1.out;have:=HK2.out;have:=HK3.out;omega
                 case rel=>exact ⟨(wrap64 (x5_3 + 1)),zmb17_2,H',⟨zmb17_4⟩,⟨zmb17_1⟩⟩
               ·rw [if_neg c15] at H
                exact absurd H (by simp)
              ·rw [if_neg c14] at H
               exact absurd H (by simp)
             ·rw [if_neg c13] at H
              have c13b0:(((rd_T48 l0 x4_2).f0) == 2) = false:=beq_eq_false_iff_ne.mpr c13
              have c13b1:(((rd_T48 l0 x4_2).f0) != 2) = true:=bne_iff_ne.mpr c13
              have H':=Aside0.mk H
              clear H
              have p238:0≤(x4_2:Int):=of_decide_eq_true zmb17_3
              have q238:x4_2 < (l0.length:Int):=of_decide_eq_true zmb17_3
              obtain ⟨ad238,e238,hx238_0,hx238_1,hx238_2,hx238_3,hx238_4,hx238_5,hx238_6⟩:=at_T48 HR0.out x4_2 p238 q238
              cases e238
              replace hx238_0:=(HB.out.cell (World.block_lt_of_cell? w _ hx238_0)).trans hx238_0
              replace hx238_1:=(HB.out.cell (World.block_lt_of_cell? w _ hx238_1)).trans hx238_1
              replace hx238_2:=(HB.out.cell (World.block_lt_of_cell? w _ hx238_2)).trans hx238_2
              replace hx238_3:=(HB.out.cell (World.block_lt_of_cell? w _ hx238_3)).trans hx238_3
              replace hx238_4:=(HB.out.cell (World.block_lt_of_cell? w _ hx238_4)).trans hx238_4
              replace hx238_5:=(HB.out.cell (World.block_lt_of_cell? w _ hx238_5)).trans hx238_5
              replace hx238_6:=(HB.out.cell (World.block_lt_of_cell? w _ hx238_6)).trans hx238_6
              replace p238:=eq_true p238
              replace q238:=eq_true q238
              go_wp2
              repeat (go_quiet (fail);try go_wp2)
              go_roundg k3
              case measure=>have:=HK1.out;have:=HK2.out;have:=HK3.out;omega
              case rel=>exact ⟨(wrap64 (x5_3 + 1)),zmb17_2,H',⟨zmb17_4⟩,⟨zmb17_1⟩⟩
            ·rw [if_neg c12] at H
             exact absurd H (by simp)
           ·rw [if_neg c11] at H
            exact absurd H (by simp)
          ·rw [if_neg c10] at H
           have c10b0:decide (x5_3 < x4_2) = false:=decide_eq_false c10
           clear c10
           have H':=Aside0.mk H
           clear H
           go_wp2
           repeat (go_quiet (fail);try go_wp2)
           go_roundg k3
           case measure=>have:=HK1.out;have:=HK2.out;have:=HK3.out;omega
           case rel=>exact ⟨(wrap64 (x4_2 + 1)),zmb17_2,H',⟨zmb17_4⟩,⟨zmb17_1⟩⟩
       ·rw [if_neg c9] at H
        have c9b0:decide (x4_2 < (l0.length:Int)) = false:=decide_eq_false c9
        clear c9
        have H':=Aside0.mk H
        clear H
        go_wp2
        repeat (go_quiet (fail);try go_wp2)
        go_loopg [6] k2 (fun kq v6 w'=>∃ (x6_3:Int),v6 = .int .i64 x6_3∧Aside0 (rushlightref05_May.l3 kq l0 x6_3 = some r)∧Aside0 (kq≤k2)∧Aside0 (Below w.heap.size w w'))
        case atStart=>exact ⟨(0),zmb17_2,H',⟨Nat.le_refl _⟩,⟨zmb17_1⟩⟩
        case round =>
         clear H'
         try clear c1
         try clear c2
         try clear c2b0
         try clear c2b1
         try clear p2
         try clear q2
         try clear hx2
         try clear c3
         try clear c3b0
         try clear c4
         try clear c4b0
         try clear c6
         try clear p6
         try clear c9
         try clear c9b0
         try clear c10
         try clear c10b0
         try clear c11
         try clear c11b0
         try clear c12
         try clear c12b0
         try clear c13
         try clear c13b0
         try clear c13b1
         try clear c14
         try clear c14b0
         try clear c15
         try clear c15b0
         try clear c16
         try clear c16b0
         try clear c16b1
         try clear c17
         try clear c17b0
         try clear c17b1
         try clear hx236_0
         try clear hx236_1
         try clear hx236_2
         try clear hx236_3
         try clear hx236_4
         try clear hx236_5
         try clear hx236_6
         try clear hx238_0
         try clear hx238_1
         try clear hx238_2
         try clear hx238_3
         try clear hx238_4
         try clear hx238_5
         try clear hx238_6
         try clear hx239_0
         try clear hx239_1
         try clear hx239_2
         try clear hx239_3
         try clear hx239_4
         try clear hx239_5
         try clear hx239_6
         try clear hx240_0
         try clear hx240_1
         try clear hx240_2
         try clear hx240_3
         try clear hx240_4
         try clear hx240_5
         try clear hx240_6
         try clear hx241_0
         try clear hx241_1
         try clear hx241_2
         try clear hx241_3
         try clear hx241_4
         try clear hx241_5
         try clear hx241_6
         try clear p2
         try clear p236
         try clear p238
         try clear p239
         try clear p240
         try clear p241
         try clear p6
         try clear q2
         try clear q236
         try clear q238
         try clear q239
         try clear q240
         try clear q241
         obtain ⟨x6_3,rfl,HA,HK3,HB⟩:=hrel
         cases gk with
         | zero=>exact absurd HA.out (by simp [rushlightref05_May.l3])
         | succ k3 =>
          have H:=HA.out
          clear HA
          simp only [rushlightref05_May.l3] at H
          by_cases c18:x6_3 < (l0.length:Int)
          ·rw [if_pos c18] at H
           have c18b0:decide (x6_3 < (l0.length:Int)) = true:=decide_eq_true c18
           clear c18
           by_cases c19:0≤x6_3
           ·rw [if_pos c19] at H
            have c19b0:decide (0≤x6_3) = true:=decide_eq_true c19
            clear c19
            by_cases c20:((rd_T48 l0 x6_3).f0) = 3
            ·rw [if_pos c20] at H
             have c20b0:(((rd_T48 l0 x6_3).f0) == 3) = true:=beq_iff_eq.mpr c20
             have c20b1:(((rd_T48 l0 x6_3).f0) != 3) = false:=bne_eq_false_iff_eq.mpr c20
             clear c20
             replace H:=Option.bind_eq_some_iff.mp H
             obtain ⟨t244,A210,H⟩:=H
             replace H:(if t244 < 0 then (some 4) else (rushlightref05_May.l3 k3 l0 (wrap64 (x6_3 + 1)))) = some r:=H
             have A21:=Aside0.mk A210
             clear A210
             by_cases c22:t244 < 0
             ·rw [if_pos c22] at H
              have c22b0:decide (t244 < 0) = true:=decide_eq_true c22
              clear c22
              obtain rfl:=Option.some.inj H
              have p242:0≤(x6_3:Int):=of_decide_eq_true zmb17_3
              have q242:x6_3 < (l0.length:Int):=of_decide_eq_true zmb17_3
              obtain ⟨ad242,e242,hx242_0,hx242_1,hx242_2,hx242_3,hx242_4,hx242_5,hx242_6⟩:=at_T48 HR0.out x6_3 p242 q242
              cases e242
              replace hx242_0:=(HB.out.cell (World.block_lt_of_cell? w _ hx242_0)).trans hx242_0
              replace hx242_1:=(HB.out.cell (World.block_lt_of_cell? w _ hx242_1)).trans hx242_1
              replace hx242_2:=(HB.out.cell (World.block_lt_of_cell? w _ hx242_2)).trans hx242_2
              replace hx242_3:=(HB.out.cell (World.block_lt_of_cell? w _ hx242_3)).trans hx242_3
              replace hx242_4:=(HB.out.cell (World.block_lt_of_cell? w _ hx242_4)).trans hx242_4
              replace hx242_5:=(HB.out.cell (World.block_lt_of_cell? w _ hx242_5)).trans hx242_5
              replace hx242_6:=(HB.out.cell (World.block_lt_of_cell? w _ hx242_6)).trans hx242_6
              replace p242:=eq_true p242
              replace q242:=eq_true q242
              have p243:0≤(x6_3:Int):=of_decide_eq_true zmb17_3
              have q243:x6_3 < (l0.length:Int):=of_decide_eq_true zmb17_3
              obtain ⟨ad243,e243,hx243_0,hx243_1,hx243_2,hx243_3,hx243_4,hx243_5,hx243_6⟩:=at_T48 HR0.out x6_3 p243 q243
              obtain rfl:ad242 = ad243:=(by injection e243)
              replace hx243_0:=(HB.out.cell (World.block_lt_of_cell? w _ hx243_0)).trans hx243_0
              replace hx243_1:=(HB.out.cell (World.block_lt_of_cell? w _ hx243_1)).trans hx243_1
              replace hx243_2:=(HB.out.cell (World.block_lt_of_cell? w _ hx243_2)).trans hx243_2
              replace hx243_3:=(HB.out.cell (World.block_lt_of_cell? w _ hx243_3)).trans hx243_3
              replace hx243_4:=(HB.out.cell (World.block_lt_of_cell? w _ hx243_4)).trans hx243_4
              replace hx243_5:=(HB.out.cell (World.block_lt_of_cell? w _ hx243_5)).trans hx243_5
              replace hx243_6:=(HB.out.cell (World.block_lt_of_cell? w _ hx243_6)).trans hx243_6
              replace p243:=eq_true p243
              replace q243:=eq_true q243
              go_wp2_with (first|(go_at_call 50;(with_reducible refine (rushlightref05_stands.calls k3 _ _ l0 ((rd_T48 l0 x6_3).f2) t244 _ ?side1 ?side2 A21.out).mono ?_);(case side1=>repeat (first|exact (Kd.C_below HR0.out HB.out)|(with_reducible refine Kd.C_alloc ?_ _)|(with_reducible refine Kd.C_drewN ?_ _)|(with_reducible refine Kd.C_drew ?_)));(case side2=>exact HC0.out);rintro e w' ⟨rfl,⟨nd,rfl⟩⟩;(try first|exact ⟨rfl,_,World.drewN_drewN _ _ _⟩|exact ⟨rfl,_,Eq.trans (World.drewN_drewN _ _ _) (congrArg (World.drewN _) (Nat.add_assoc _ _ _))⟩)))
              repeat (go_quiet (first|(go_at_call 50;(with_reducible refine (rushlightref05_stands.calls k3 _ _ l0 ((rd_T48 l0 x6_3).f2) t244 _ ?side1 ?side2 A21.out).mono ?_);(case side1=>repeat (first|exact (Kd.C_below HR0.out HB.out)|(with_reducible refine Kd.C_alloc ?_ _)|(with_reducible refine Kd.C_drewN ?_ _)|(with_reducible refine Kd.C_drew ?_)));(case side2=>exact HC0.out);rintro e w' ⟨rfl,⟨nd,rfl⟩⟩;(try first|exact ⟨rfl,_,World.drewN_drewN _ _ _⟩|exact ⟨rfl,_,Eq.trans (World.drewN_drewN _ _ _) (congrArg (World.drewN _) (Nat.add_assoc _ _ _))⟩)));try go_wp2_with (first|(go_at_call 50;(with_reducible refine (rushlightref05_stands.calls k3 _ _ l0 ((rd_T48 l0 x6_3).f2) t244 _ ?side1 ?side2 A21.out).mono ?_);(case side1=>repeat (first|exact (Kd.C_below HR0.out HB.out)|(with_reducible refine Kd.C_alloc ?_ _)|(with_reducible refine Kd.C_drewN ?_ _)|(with_reducible refine Kd.C_drew ?_)));(case side2=>exact HC0.out);rintro e w' ⟨rfl,⟨nd,rfl⟩⟩;(try first|exact ⟨rfl,_,World.drewN_drewN _ _ _⟩|exact ⟨rfl,_,Eq.trans (World.drewN_drewN _ _ _) (congrArg (World.drewN _) (Nat.add_assoc _ _ _))⟩))))
              go_ret
              exact ⟨zmb17_0,zmb17_1⟩
             ·rw [if_neg c22] at H
              have c22b0:decide (t244 < 0) = false:=decide_eq_false c22
              clear c22
              have H':=Aside0.mk H
              clear H
              have p242:0≤(x6_3:Int):=of_decide_eq_true zmb17_3
              have q242:x6_3 < (l0.length:Int):=of_decide_eq_true zmb17_3
              obtain ⟨ad242,e242,hx242_0,hx242_1,hx242_2,hx242_3,hx242_4,hx242_5,hx242_6⟩:=at_T48 HR0.out x6_3 p242 q242
              cases e242
              replace hx242_0:=(HB.out.cell (World.block_lt_of_cell? w _ hx242_0)).trans hx242_0
              replace hx242_1:=(HB.out.cell (World.block_lt_of_cell? w _ hx242_1)).trans hx242_1
              replace hx242_2:=(HB.out.cell (World.block_lt_of_cell? w _ hx242_2)).trans hx242_2
              replace hx242_3:=(HB.out.cell (World.block_lt_of_cell? w _ hx242_3)).trans hx242_3
              replace hx242_4:=(HB.out.cell (World.block_lt_of_cell? w _ hx242_4)).trans hx242_4
              replace hx242_5:=(HB.out.cell (World.block_lt_of_cell? w _ hx242_5)).trans hx242_5
              replace hx242_6:=(HB.out.cell (World.block_lt_of_cell? w _ hx242_6)).trans hx242_6
              replace p242:=eq_true p242
              replace q242:=eq_true q242
              have p243:0≤(x6_3:Int):=of_decide_eq_true zmb17_3
              have q243:x6_3 < (l0.length:Int):=of_decide_eq_true zmb17_3
              obtain ⟨ad243,e243,hx243_0,hx243_1,hx243_2,hx243_3,hx243_4,hx243_5,hx243_6⟩:=at_T48 HR0.out x6_3 p243 q243
              obtain rfl:ad242 = ad243:=(by injection e243)
              replace hx243_0:=(HB.out.cell (World.block_lt_of_cell? w _ hx243_0)).trans hx243_0
              replace hx243_1:=(HB.out.cell (World.block_lt_of_cell? w _ hx243_1)).trans hx243_1
              replace hx243_2:=(HB.out.cell (World.block_lt_of_cell? w _ hx243_2)).trans hx243_2
              replace hx243_3:=(HB.out.cell (World.block_lt_of_cell? w _ hx243_3)).trans hx243_3
              replace hx243_4:=(HB.out.cell (World.block_lt_of_cell? w _ hx243_4)).trans hx243_4
              replace hx243_5:=(HB.out.cell (World.block_lt_of_cell? w _ hx243_5)).trans hx243_5
              replace hx243_6:=(HB.out.cell (World.block_lt_of_cell? w _ hx243_6)).trans hx243_6
              replace p243:=eq_true p243
              replace q243:=eq_true q243
              go_wp2_with (first|(go_at_call 50;(with_reducible refine (rushlightref05_stands.calls k3 _ _ l0 ((rd_T48 l0 x6_3).f2) t244 _ ?side1 ?side2 A21.out).mono ?_);(case side1=>repeat (first|exact (Kd.C_below HR0.out HB.out)|(with_reducible refine Kd.C_alloc ?_ _)|(with_reducible refine Kd.C_drewN ?_ _)|(with_reducible refine Kd.C_drew ?_)));(case side2=>exact HC0.out);rintro e w' ⟨rfl,⟨nd,rfl⟩⟩;(try first|exact ⟨rfl,_,World.drewN_drewN _ _ _⟩|exact ⟨rfl,_,Eq.trans (World.drewN_drewN _ _ _) (congrArg (World.drewN _) (Nat.add_assoc _ _ _))⟩)))
              repeat (go_quiet (first|(go_at_call 50;(with_reducible refine (rushlightref05_stands.calls k3 _ _ l0 ((rd_T48 l0 x6_3).f2) t244 _ ?side1 ?side2 A21.out).mono ?_);(case side1=>repeat (first|exact (Kd.C_below HR0.out HB.out)|(with_reducible refine Kd.C_alloc ?_ _)|(with_reducible refine Kd.C_drewN ?_ _)|(with_reducible refine Kd.C_drew ?_)));(case side2=>exact HC0.out);rintro e w' ⟨rfl,⟨nd,rfl⟩⟩;(try first|exact ⟨rfl,_,World.drewN_drewN _ _ _⟩|exact ⟨rfl,_,Eq.trans (World.drewN_drewN _ _ _) (congrArg (World.drewN _) (Nat.add_assoc _ _ _))⟩)));try go_wp2_with (first|(go_at_call 50;(with_reducible refine (rushlightref05_stands.calls k3 _ _ l0 ((rd_T48 l0 x6_3).f2) t244 _ ?side1 ?side2 A21.out).mono ?_);(case side1=>repeat (first|exact (Kd.C_below HR0.out HB.out)|(with_reducible refine Kd.C_alloc ?_ _)|(with_reducible refine Kd.C_drewN ?_ _)|(with_reducible refine Kd.C_drew ?_)));(case side2=>exact HC0.out);rintro e w' ⟨rfl,⟨nd,rfl⟩⟩;(try first|exact ⟨rfl,_,World.drewN_drewN _ _ _⟩|exact ⟨rfl,_,Eq.trans (World.drewN_drewN _ _ _) (congrArg (World.drewN _) (Nat.add_assoc _ _ _))⟩))))
              go_roundg k3
              case measure=>have:=HK1.out;have:=HK2.out;have:=HK3.out;omega
              case rel=>exact ⟨(wrap64 (x6_3 + 1)),zmb17_2,H',⟨zmb17_4⟩,⟨zmb17_1⟩⟩
            ·rw [if_neg c20] at H
             have c20b0:(((rd_T48 l0 x6_3).f0) == 3) = false:=beq_eq_false_iff_ne.mpr c20
             have c20b1:(((rd_T48 l0 x6_3).f0) != 3) = true:=bne_iff_ne.mpr c20
             by_cases c23:((rd_T48 l0 x6_3).f0) = 4
             ·rw [if_pos c23] at H
              have c23b0:(((rd_T48 l0 x6_3).f0) == 4) = true:=beq_iff_eq.mpr c23
              have c23b1:(((rd_T48 l0 x6_3).f0) != 4) = false:=bne_eq_false_iff_eq.mpr c23
              clear c23
              replace H:=Option.bind_eq_some_iff.mp H
              obtain ⟨t247,A240,H⟩:=H
              replace H:(if t247 < 0 then (some 4) else (rushlightref05_May.l3 k3 l0 (wrap64 (x6_3 + 1)))) = some r:=H
              have A24:=Aside0.mk A240
              clear A240
              by_cases c25:t247 < 0
              ·rw [if_pos c25] at H
               have c25b0:decide (t247 < 0) = true:=decide_eq_true c25
               clear c25
               obtain rfl:=Option.some.inj H
               have p242:0≤(x6_3:Int):=of_decide_eq_true zmb17_3
               have q242:x6_3 < (l0.length:Int):=of_decide_eq_true zmb17_3
               obtain ⟨ad242,e242,hx242_0,hx242_1,hx242_2,hx242_3,hx242_4,hx242_5,hx242_6⟩:=at_T48 HR0.out x6_3 p242 q242
               cases e242
               replace hx242_0:=(HB.out.cell (World.block_lt_of_cell? w _ hx242_0)).trans hx242_0
               replace hx242_1:=(HB.out.cell (World.block_lt_of_cell? w _ hx242_1)).trans hx242_1
               replace hx242_2:=(HB.out.cell (World.block_lt_of_cell? w _ hx242_2)).trans hx242_2
               replace hx242_3:=(HB.out.cell (World.block_lt_of_cell? w _ hx242_3)).trans hx242_3
               replace hx242_4:=(HB.out.cell (World.block_lt_of_cell? w _ hx242_4)).trans hx242_4
               replace hx242_5:=(HB.out.cell (World.block_lt_of_cell? w _ hx242_5)).trans hx242_5
               replace hx242_6:=(HB.out.cell (World.block_lt_of_cell? w _ hx242_6)).trans hx242_6
               replace p242:=eq_true p242
               replace q242:=eq_true q242
               have p245:0≤(x6_3:Int):=of_decide_eq_true zmb17_3
               have q245:x6_3 < (l0.length:Int):=of_decide_eq_true zmb17_3
               obtain ⟨ad245,e245,hx245_0,hx245_1,hx245_2,hx245_3,hx245_4,hx245_5,hx245_6⟩:=at_T48 HR0.out x6_3 p245 q245
               obtain rfl:ad242 = ad245:=(by injection e245)
               replace hx245_0:=(HB.out.cell (World.block_lt_of_cell? w _ hx245_0)).trans hx245_0
               replace hx245_1:=(HB.out.cell (World.block_lt_of_cell? w _ hx245_1)).trans hx245_1
               replace hx245_2:=(HB.out.cell (World.block_lt_of_cell? w _ hx245_2)).trans hx245_2
               replace hx245_3:=(HB.out.cell (World.block_lt_of_cell? w _ hx245_3)).trans hx245_3
               replace hx245_4:=(HB.out.cell (World.block_lt_of_cell? w _ hx245_4)).trans hx245_4
               replace hx245_5:=(HB.out.cell (World.block_lt_of_cell? w _ hx245_5)).trans hx245_5
               replace hx245_6:=(HB.out.cell (World.block_lt_of_cell? w _ hx245_6)).trans hx245_6
               replace p245:=eq_true p245
               replace q245:=eq_true q245
               have p246:0≤(x6_3:Int):=of_decide_eq_true zmb17_3
               have q246:x6_3 < (l0.length:Int):=of_decide_eq_true zmb17_3
               obtain ⟨ad246,e246,hx246_0,hx246_1,hx246_2,hx246_3,hx246_4,hx246_5,hx246_6⟩:=at_T48 HR0.out x6_3 p246 q246
               obtain rfl:ad242 = ad246:=(by injection e246)
               replace hx246_0:=(HB.out.cell (World.block_lt_of_cell? w _ hx246_0)).trans hx246_0
               replace hx246_1:=(HB.out.cell (World.block_lt_of_cell? w _ hx246_1)).trans hx246_1
               replace hx246_2:=(HB.out.cell (World.block_lt_of_cell? w _ hx246_2)).trans hx246_2
               replace hx246_3:=(HB.out.cell (World.block_lt_of_cell? w _ hx246_3)).trans hx246_3
               replace hx246_4:=(HB.out.cell (World.block_lt_of_cell? w _ hx246_4)).trans hx246_4
               replace hx246_5:=(HB.out.cell (World.block_lt_of_cell? w _ hx246_5)).trans hx246_5
               replace hx246_6:=(HB.out.cell (World.block_lt_of_cell? w _ hx246_6)).trans hx246_6
               replace p246:=eq_true p246
               replace q246:=eq_true q246
               go_wp2_with (first|(go_at_call 50;(with_reducible refine (rushlightref05_stands.calls k3 _ _ l0 ((rd_T48 l0 x6_3).f2) t247 _ ?side1 ?side2 A24.out).mono ?_);(case side1=>repeat (first|exact (Kd.C_below HR0.out HB.out)|(with_reducible refine Kd.C_alloc ?_ _)|(with_reducible refine Kd.C_drewN ?_ _)|(with_reducible refine Kd.C_drew ?_)));(case side2=>exact HC0.out);rintro e w' ⟨rfl,⟨nd,rfl⟩⟩;(try first|exact ⟨rfl,_,World.drewN_drewN _ _ _⟩|exact ⟨rfl,_,Eq.trans (World.drewN_drewN _ _ _) (congrArg (World.drewN _) (Nat.add_assoc _ _ _))⟩)))
               repeat (go_quiet (first|(go_at_call 50;(with_reducible refine (rushlightref05_stands.calls k3 _ _ l0 ((rd_T48 l0 x6_3).f2) t247 _ ?side1 ?side2 A24.out).mono ?_);(case side1=>repeat (first|exact (Kd.C_below HR0.out HB.out)|(with_reducible refine Kd.C_alloc ?_ _)|(with_reducible refine Kd.C_drewN ?_ _)|(with_reducible refine Kd.C_drew ?_)));(case side2=>exact HC0.out);rintro e w' ⟨rfl,⟨nd,rfl⟩⟩;(try first|exact ⟨rfl,_,World.drewN_drewN _ _ _⟩|exact ⟨rfl,_,Eq.trans (World.drewN_drewN _ _ _) (congrArg (World.drewN _) (Nat.add_assoc _ _ _))⟩)));try go_wp2_with (first|(go_at_call 50;(with_reducible refine (rushlightref05_stands.calls k3 _ _ l0 ((rd_T48 l0 x6_3).f2) t247 _ ?side1 ?side2 A24.out).mono ?_);(case side1=>repeat (first|exact (Kd.C_below HR0.out HB.out)|(with_reducible refine Kd.C_alloc ?_ _)|(with_reducible refine Kd.C_drewN ?_ _)|(with_reducible refine Kd.C_drew ?_)));(case side2=>exact HC0.out);rintro e w' ⟨rfl,⟨nd,rfl⟩⟩;(try first|exact ⟨rfl,_,World.drewN_drewN _ _ _⟩|exact ⟨rfl,_,Eq.trans (World.drewN_drewN _ _ _) (congrArg (World.drewN _) (Nat.add_assoc _ _ _))⟩))))
               go_ret
               exact ⟨zmb17_0,zmb17_1⟩
              ·rw [if_neg c25] at H
               have c25b0:decide (t247 < 0) = false:=decide_eq_false c25
               clear c25
               have H':=Aside0.mk H
               clear H
               have p242:0≤(x6_3:Int):=of_decide_eq_true zmb17_3
               have q242:x6_3 < (l0.length:Int):=of_decide_eq_true zmb17_3
               obtain ⟨ad242,e242,hx242_0,hx242_1,hx242_2,hx242_3,hx242_4,hx242_5,hx242_6⟩:=at_T48 HR0.out x6_3 p242 q242
               cases e242
               replace hx242_0:=(HB.out.cell (World.block_lt_of_cell? w _ hx242_0)).trans hx242_0
               replace hx242_1:=(HB.out.cell (World.block_lt_of_cell? w _ hx242_1)).trans hx242_1
               replace hx242_2:=(HB.out.cell (World.block_lt_of_cell? w _ hx242_2)).trans hx242_2
               replace hx242_3:=(HB.out.cell (World.block_lt_of_cell? w _ hx242_3)).trans hx242_3
               replace hx242_4:=(HB.out.cell (World.block_lt_of_cell? w _ hx242_4)).trans hx242_4
               replace hx242_5:=(HB.out.cell (World.block_lt_of_cell? w _ hx242_5)).trans hx242_5
               replace hx242_6:=(HB.out.cell (World.block_lt_of_cell? w _ hx242_6)).trans hx242_6
               replace p242:=eq_true p242
               replace q242:=eq_true q242
               have p245:0≤(x6_3:Int):=of_decide_eq_true zmb17_3
               have q245:x6_3 < (l0.length:Int):=of_decide_eq_true zmb17_3
               obtain ⟨ad245,e245,hx245_0,hx245_1,hx245_2,hx245_3,hx245_4,hx245_5,hx245_6⟩:=at_T48 HR0.out x6_3 p245 q245
               obtain rfl:ad242 = ad245:=(by injection e245)
               replace hx245_0:=(HB.out.cell (World.block_lt_of_cell? w _ hx245_0)).trans hx245_0
               replace hx245_1:=(HB.out.cell (World.block_lt_of_cell? w _ hx245_1)).trans hx245_1
               replace hx245_2:=(HB.out.cell (World.block_lt_of_cell? w _ hx245_2)).trans hx245_2
               replace hx245_3:=(HB.out.cell (World.block_lt_of_cell? w _ hx245_3)).trans hx245_3
               replace hx245_4:=(HB.out.cell (World.block_lt_of_cell? w _ hx245_4)).trans hx245_4
               replace hx245_5:=(HB.out.cell (World.block_lt_of_cell? w _ hx245_5)).trans hx245_5
               replace hx245_6:=(HB.out.cell (World.block_lt_of_cell? w _ hx245_6)).trans hx245_6
               replace p245:=eq_true p245
               replace q245:=eq_true q245
               have p246:0≤(x6_3:Int):=of_decide_eq_true zmb17_3
               have q246:x6_3 < (l0.length:Int):=of_decide_eq_true zmb17_3
               obtain ⟨ad246,e246,hx246_0,hx246_1,hx246_2,hx246_3,hx246_4,hx246_5,hx246_6⟩:=at_T48 HR0.out x6_3 p246 q246
               obtain rfl:ad242 = ad246:=(by injection e246)
               replace hx246_0:=(HB.out.cell (World.block_lt_of_cell? w _ hx246_0)).trans hx246_0
               replace hx246_1:=(HB.out.cell (World.block_lt_of_cell? w _ hx246_1)).trans hx246_1
               replace hx246_2:=(HB.out.cell (World.block_lt_of_cell? w _ hx246_2)).trans hx246_2
               replace hx246_3:=(HB.out.cell (World.block_lt_of_cell? w _ hx246_3)).trans hx246_3
               replace hx246_4:=(HB.out.cell (World.block_lt_of_cell? w _ hx246_4)).trans hx246_4
               replace hx246_5:=(HB.out.cell (World.block_lt_of_cell? w _ hx246_5)).trans hx246_5
               replace hx246_6:=(HB.out.cell (World.block_lt_of_cell? w _ hx246_6)).trans hx246_6
               replace p246:=eq_true p246
               replace q246:=eq_true q246
               go_wp2_with (first|(go_at_call 50;(with_reducible refine (rushlightref05_stands.calls k3 _ _ l0 ((rd_T48 l0 x6_3).f2) t247 _ ?side1 ?side2 A24.out).mono ?_);(case side1=>repeat (first|exact (Kd.C_below HR0.out HB.out)|(with_reducible refine Kd.C_alloc ?_ _)|(with_reducible refine Kd.C_drewN ?_ _)|(with_reducible refine Kd.C_drew ?_)));(case side2=>exact HC0.out);rintro e w' ⟨rfl,⟨nd,rfl⟩⟩;(try first|exact ⟨rfl,_,World.drewN_drewN _ _ _⟩|exact ⟨rfl,_,Eq.trans (World.drewN_drewN _ _ _) (congrArg (World.drewN _) (Nat.add_assoc _ _ _))⟩)))
               repeat (go_quiet (first|(go_at_call 50;(with_reducible refine (rushlightref05_stands.calls k3 _ _ l0 ((rd_T48 l0 x6_3).f2) t247 _ ?side1 ?side2 A24.out).mono ?_);(case side1=>repeat (first|exact (Kd.C_below HR0.out HB.out)|(with_reducible refine Kd.C_alloc ?_ _)|(with_reducible refine Kd.C_drewN ?_ _)|(with_reducible refine Kd.C_drew ?_)));(case side2=>exact HC0.out);rintro e w' ⟨rfl,⟨nd,rfl⟩⟩;(try first|exact ⟨rfl,_,World.drewN_drewN _ _ _⟩|exact ⟨rfl,_,Eq.trans (World.drewN_drewN _ _ _) (congrArg (World.drewN _) (Nat.add_assoc _ _ _))⟩)));try go_wp2_with (first|(go_at_call 50;(with_reducible refine (rushlightref05_stands.calls k3 _ _ l0 ((rd_T48 l0 x6_3).f2) t247 _ ?side1 ?side2 A24.out).mono ?_);(case side1=>repeat (first|exact (Kd.C_below HR0.out HB.out)|(with_reducible refine Kd.C_alloc ?_ _)|(with_reducible refine Kd.C_drewN ?_ _)|(with_reducible refine Kd.C_drew ?_)));(case side2=>exact HC0.out);rintro e w' ⟨rfl,⟨nd,rfl⟩⟩;(try first|exact ⟨rfl,_,World.drewN_drewN _ _ _⟩|exact ⟨rfl,_,Eq.trans (World.drewN_drewN _ _ _) (congrArg (World.drewN _) (Nat.add_assoc _ _ _))⟩))))
               go_roundg k3
               case measure=>have:=HK1.out;have:=HK2.out;have:=HK3.out;omega
               case rel=>exact ⟨(wrap64 (x6_3 + 1)),zmb17_2,H',⟨zmb17_4⟩,⟨zmb17_1⟩⟩
             ·rw [if_neg c23] at H
              have c23b0:(((rd_T48 l0 x6_3).f0) == 4) = false:=beq_eq_false_iff_ne.mpr c23
              have c23b1:(((rd_T48 l0 x6_3).f0) != 4) = true:=bne_iff_ne.mpr c23
              have H':=Aside0.mk H
              clear H
              have p242:0≤(x6_3:Int):=of_decide_eq_true zmb17_3
              have q242:x6_3 < (l0.length:Int):=of_decide_eq_true zmb17_3
              obtain ⟨ad242,e242,hx242_0,hx242_1,hx242_2,hx242_3,hx242_4,hx242_5,hx242_6⟩:=at_T48 HR0.out x6_3 p242 q242
              cases e242
              replace hx242_0:=(HB.out.cell (World.block_lt_of_cell? w _ hx242_0)).trans hx242_0
              replace hx242_1:=(HB.out.cell (World.block_lt_of_cell? w _ hx242_1)).trans hx242_1
              replace hx242_2:=(HB.out.cell (World.block_lt_of_cell? w _ hx242_2)).trans hx242_2
              replace hx242_3:=(HB.out.cell (World.block_lt_of_cell? w _ hx242_3)).trans hx242_3
              replace hx242_4:=(HB.out.cell (World.block_lt_of_cell? w _ hx242_4)).trans hx242_4
              replace hx242_5:=(HB.out.cell (World.block_lt_of_cell? w _ hx242_5)).trans hx242_5
              replace hx242_6:=(HB.out.cell (World.block_lt_of_cell? w _ hx242_6)).trans hx242_6
              replace p242:=eq_true p242
              replace q242:=eq_true q242
              have p245:0≤(x6_3:Int):=of_decide_eq_true zmb17_3
              have q245:x6_3 < (l0.length:Int):=of_decide_eq_true zmb17_3
              obtain ⟨ad245,e245,hx245_0,hx245_1,hx245_2,hx245_3,hx245_4,hx245_5,hx245_6⟩:=at_T48 HR0.out x6_3 p245 q245
              obtain rfl:ad242 = ad245:=(by injection e245)
              replace hx245_0:=(HB.out.cell (World.block_lt_of_cell? w _ hx245_0)).trans hx245_0
              replace hx245_1:=(HB.out.cell (World.block_lt_of_cell? w _ hx245_1)).trans hx245_1
              replace hx245_2:=(HB.out.cell (World.block_lt_of_cell? w _ hx245_2)).trans hx245_2
              replace hx245_3:=(HB.out.cell (World.block_lt_of_cell? w _ hx245_3)).trans hx245_3
              replace hx245_4:=(HB.out.cell (World.block_lt_of_cell? w _ hx245_4)).trans hx245_4
              replace hx245_5:=(HB.out.cell (World.block_lt_of_cell? w _ hx245_5)).trans hx245_5
              replace hx245_6:=(HB.out.cell (World.block_lt_of_cell? w _ hx245_6)).trans hx245_6
              replace p245:=eq_true p245
              replace q245:=eq_true q245
              go_wp2
              repeat (go_quiet (fail);try go_wp2)
              go_roundg k3
              case measure=>have:=HK1.out;have:=HK2.out;have:=HK3.out;omega
              case rel=>exact ⟨(wrap64 (x6_3 + 1)),zmb17_2,H',⟨zmb17_4⟩,⟨zmb17_1⟩⟩
           ·rw [if_neg c19] at H
            exact absurd H (by simp)
          ·rw [if_neg c18] at H
           have c18b0:decide (x6_3 < (l0.length:Int)) = false:=decide_eq_false c18
           clear c18
           obtain rfl:=Option.some.inj H
           go_wp2
           repeat (go_quiet (fail);try go_wp2)
           go_ret
           exact ⟨zmb17_0,zmb17_1⟩
end Go.Proofs.Ytecbponmpinnoaa.P
end
section
namespace Go.Proofs.Ytecbponmpinnoaa.P
open Go.RowKit Go.Proofs.YtecbponmpinnoaaW.PrintWords Go.Proofs.YtecbponmpinnoaaW.PrintLast Go.Proofs.YtecbponmpinnoaaW.PrintMore
attribute [local go_sem] max2_int min2_int max_two min_two max_three min_three max_four min_four   
set_option linter.unusedVariables false
set_option linter.unusedSimpArgs false
mutual
def rushlightref05_Assemble.l0:Nat→List (S48)→List Bool→List Int→Int→List Int→List Int→Int→Option (List Int × List Int × Int)
 | 0,_,_,_,_,_,_,_=>none
 | k + 1,x0,x3,x4,x6,x344000,x344001,x344002=>if x6 < (x0.length:Int) then ((rushlightref05_insts.f k x0 x4 x3 x6).bind fun t344=>(rushlightref05_Assemble.l1 k x0 x3 x4 x6 t344 0 x344000 x344001 x344002)) else (some (x344000,x344001,x344002))
def rushlightref05_Assemble.l1:Nat→List (S48)→List Bool→List Int→Int→List (S46)→Int→List Int→List Int→Int→Option (List Int × List Int × Int)
 | 0,_,_,_,_,_,_,_,_,_=>none
 | k + 1,x0,x3,x4,x6,x7,x8,x344000,x344001,x344002=>if x8 < (x7.length:Int) then (if 0≤x8 then (if ((rd_T46 x7 x8).f0) = 3 then (if 0≤x6 then (if x6 < (x0.length:Int) then (if ((rd_T48 x0 x6).f0) = 1 then ((rushlightref02_Word.f k ((rd_T46 x7 x8).f0) ((rd_T46 x7 x8).f1) ((rd_T46 x7 x8).f2) ((rd_T46 x7 x8).f3) ((rd_T46 x7 x8).f4)).bind fun t350=>(if x344000.length < 35184372088832 then (rushlightref05_Assemble.l1 k x0 x3 x4 x6 x7 (wrap64 (x8 + 1)) (x344000 ++ [t350]) x344001 x344002) else (none))) else (if ((rd_T46 x7 x8).f4) < (-1048576) then (some (([]:List Int),([]:List Int),7)) else (if ((rd_T46 x7 x8).f4) > 1048574 then (some (([]:List Int),([]:List Int),7)) else ((rushlightref02_Word.f k ((rd_T46 x7 x8).f0) ((rd_T46 x7 x8).f1) ((rd_T46 x7 x8).f2) ((rd_T46 x7 x8).f3) ((rd_T46 x7 x8).f4)).bind fun t357=>(if x344000.length < 35184372088832 then (rushlightref05_Assemble.l1 k x0 x3 x4 x6 x7 (wrap64 (x8 + 1)) (x344000 ++ [t357]) x344001 x344002) else (none)))))) else (none)) else (none)) else ((rushlightref02_Word.f k ((rd_T46 x7 x8).f0) ((rd_T46 x7 x8).f1) ((rd_T46 x7 x8).f2) ((rd_T46 x7 x8).f3) ((rd_T46 x7 x8).f4)).bind fun t362=>(if x344000.length < 35184372088832 then (rushlightref05_Assemble.l1 k x0 x3 x4 x6 x7 (wrap64 (x8 + 1)) (x344000 ++ [t362]) x344001 x344002) else (none)))) else (none)) else (if 0≤x6 then (if x6 < (x0.length:Int) then (if ((rd_T48 x0 x6).f0) = 2 then (rushlightref05_Assemble.l2 k x0 x3 x4 x6 x344000 x344001 x344002) else (rushlightref05_Assemble.l0 k x0 x3 x4 (wrap64 (x6 + 1)) x344000 x344001 x344002)) else (none)) else (none))
def rushlightref05_Assemble.l2:Nat→List (S48)→List Bool→List Int→Int→List Int→List Int→Int→Option (List Int × List Int × Int)
 | 0,_,_,_,_,_,_,_=>none
 | k + 1,x0,x3,x4,x6,x344000,x344001,x344002=>if 0≤x6 then (if x6 < (x0.length:Int) then (if (x344001.length:Int)≤((rd_T48 x0 x6).f2) then (if x344001.length < 17592186044416 then (rushlightref05_Assemble.l2 k x0 x3 x4 x6 x344000 (x344001 ++ [(-1)]) x344002) else (none)) else (if x6 < (x4.length:Int) then (if 0≤((rd_T48 x0 x6).f2) then (if ((rd_T48 x0 x6).f2) < (x344001.length:Int) then (rushlightref05_Assemble.l0 k x0 x3 x4 (wrap64 (x6 + 1)) x344000 (x344001.set (((rd_T48 x0 x6).f2):Int).toNat (rd x4 x6)) x344002) else (none)) else (none)) else (none))) else (none)) else (none)
end
def rushlightref05_Assemble.f (k:Nat) (l0:List (S48)):Option (List Int × List Int × Int):=(rushlightref05_May.f k l0).bind fun t335=>(if t335 = 0 then ((rushlightref05_Far.f k l0).bind fun t337=>((rushlightref05_places.f k l0 t337).bind fun t340=>(rushlightref05_Assemble.l0 k l0 t337 t340 0 ([]:List Int) ([]:List Int) 0))) else ((rushlightref05_May.f k l0).bind fun t336=>(some (([]:List Int),([]:List Int),t336))))
def rushlightref05_Assemble.T15:Bool × List (List Nat × List Nat):=(true,[([],[]),([0],[0]),([],[]),([],[]),([2,3],[2,3]),([4],[4]),([5],[5]),([6],[6]),([1,7,6],[1,7]),([0,1,2,3,4,5,6,7,8],[]),([9,8,8,0,1,2,3,4,5,6,7,8],[8,9])])
def rushlightref05_Assemble.B15:List Nat:=[0,1,0,0,12,28,60,124,255,511,1023]
theorem rushlightref05_Assemble.tab15:rtab .any (opsOf Try.f11 15) = rushlightref05_Assemble.T15:=by kernel_rfl
theorem rushlightref05_Assemble.bits15:waitsOk rushlightref05_Assemble.T15.2 rushlightref05_Assemble.B15 = true:=by kernel_rfl
def rushlightref05_Assemble.T17:Bool × List (List Nat × List Nat):=(true,[([],[]),([0],[0]),([1],[1]),([],[]),([],[]),([3,4],[3,4]),([5],[5]),([6],[6]),([2,7],[2,7])])
def rushlightref05_Assemble.B17:List Nat:=[0,1,3,0,0,24,56,120,255]
theorem rushlightref05_Assemble.tab17:rtab .any (opsOf Try.f11 17) = rushlightref05_Assemble.T17:=by kernel_rfl
theorem rushlightref05_Assemble.bits17:waitsOk rushlightref05_Assemble.T17.2 rushlightref05_Assemble.B17 = true:=by kernel_rfl
def rushlightref05_Assemble.T19:Bool × List (List Nat × List Nat):=(true,[([],[]),([0],[0]),([],[]),([],[]),([2,3],[2,3]),([4],[4]),([5],[5]),([],[]),([],[]),([7,8],[7,8]),([9],[9]),([1,6,0,1,2,3,4,5,6,7,8,9,10],[1,6]),([11,10,0,1,2,3,4,5,6,7,8,9,10],[10,11])])
def rushlightref05_Assemble.B19:List Nat:=[0,1,0,0,12,28,60,0,0,384,896,2047,4095]
theorem rushlightref05_Assemble.tab19:rtab .any (opsOf Try.f11 19) = rushlightref05_Assemble.T19:=by kernel_rfl
theorem rushlightref05_Assemble.bits19:waitsOk rushlightref05_Assemble.T19.2 rushlightref05_Assemble.B19 = true:=by kernel_rfl
set_option maxHeartbeats 8000000 in
set_option maxRecDepth 100000 in
theorem rushlightref05_Assemble.calls (k:Nat) (A0:Option Addr) (c0:Nat) (l0:List (S48)) (r1:List Int) (r2:List Int) (r3:Int) (w:World) (hr0:Kd.C k48 w A0 l0.length l0) (hc0:l0.length≤c0) (h:rushlightref05_Assemble.f k l0 = some (r1,r2,r3)) :
  Calls Try.prog 11 #[.slice A0 l0.length c0] w fun e w'=>∃ v0_ v1_:Value,e = .returned (.agg #[v0_,v1_,.int .i64 r3])∧Kd.R (Kd.int .u32) 35 w' w.heap.size (fun _=>True) v0_ r1∧Kd.R (Kd.int .i64) 3 w' w.heap.size (fun _=>True) v1_ r2∧Below w.heap.size w w':=by
 have hu31:=Try.underlying31
 have hu46:=Try.underlying46
 have HR0:=Aside0.mk hr0
 have HC0:=Aside0.mk hc0
 clear hr0 hc0
 have HB:=Aside0.mk (Below.refl w.heap.size w)
 have H:((rushlightref05_May.f k l0).bind fun t335=>(if t335 = 0 then ((rushlightref05_Far.f k l0).bind fun t337=>((rushlightref05_places.f k l0 t337).bind fun t340=>(rushlightref05_Assemble.l0 k l0 t337 t340 0 ([]:List Int) ([]:List Int) 0))) else ((rushlightref05_May.f k l0).bind fun t336=>(some (([]:List Int),([]:List Int),t336))))) = some (r1,r2,r3):=h
 clear h
 replace H:=Option.bind_eq_some_iff.mp H
 obtain ⟨t335,A20,H⟩:=H
 replace H:(if t335 = 0 then ((rushlightref05_Far.f k l0).bind fun t337=>((rushlightref05_places.f k l0 t337).bind fun t340=>(rushlightref05_Assemble.l0 k l0 t337 t340 0 ([]:List Int) ([]:List Int) 0))) else ((rushlightref05_May.f k l0).bind fun t336=>(some (([]:List Int),([]:List Int),t336)))) = some (r1,r2,r3):=H
 have A2:=Aside0.mk A20
 clear A20
 by_cases c3:t335 = 0
 ·rw [if_pos c3] at H
  have c3b0:(t335 == 0) = true:=beq_iff_eq.mpr c3
  have c3b1:(t335 != 0) = false:=bne_eq_false_iff_eq.mpr c3
  clear c3
  replace H:=Option.bind_eq_some_iff.mp H
  obtain ⟨t337,A40,H⟩:=H
  replace H:((rushlightref05_places.f k l0 t337).bind fun t340=>(rushlightref05_Assemble.l0 k l0 t337 t340 0 ([]:List Int) ([]:List Int) 0)) = some (r1,r2,r3):=H
  have A4:=Aside0.mk A40
  clear A40
  replace H:=Option.bind_eq_some_iff.mp H
  obtain ⟨t340,A50,H⟩:=H
  replace H:(rushlightref05_Assemble.l0 k l0 t337 t340 0 ([]:List Int) ([]:List Int) 0) = some (r1,r2,r3):=H
  have A5:=Aside0.mk A50
  clear A50
  have H':=Aside0.mk H
  clear H
  go_enter Try.func11,Try.ntmps11
  go_wp2_with (first|((with_reducible refine gate_dst (N:=2) rfl ?_);refine box_event ?hg (N:=2) ?hd (cs:=#[.slice none 0 0,.slice none 0 0,.int .i64 0]) (t:=31) ?hr ?_;(case hd=>rfl);(case hg=>rfl);(case hr=>first|(go_simp;done)|(go_simp;rfl));intro gb334 hg w6 hbox hb;have n0_:=Aside0.mk (below_step zmb17_1 hb);have n1_:=Aside0.mk (hbox);have n2_:=Aside0.mk ((by rw [hg];exact (below_size zmb17_1):w.heap.size≤gb334));have n3_:=Aside0.mk ((by rw [hg];exact (below_size zmb17_1):w.heap.size≤gb334));clear HB;have HB:=n0_;have BK334:=n1_;have GW334:=n2_;have GE334:=n3_;clear n0_ n1_ n2_ n3_;clear hb hbox hg)|((with_reducible refine gate_callee (f:=30) rfl ?_);refine goesL_ (some 10) rfl rfl Try.func30 (by kernel_rfl) rfl #[.slice A0 l0.length c0] rfl zmb17_5 ?_;(with_reducible refine (rushlightref05_May.calls k _ _ l0 t335 _ ?side1 ?side2 A2.out).mono ?_);(case side1=>repeat (first|exact (Kd.C_below HR0.out HB.out)|(with_reducible refine Kd.C_alloc ?_ _)|(with_reducible refine Kd.C_drewN ?_ _)|(with_reducible refine Kd.C_drew ?_)));(case side2=>exact HC0.out);rintro e w7 ⟨rfl,hb⟩;refine ⟨_,rfl,?_⟩;have n0_:=Aside0.mk (blk_below (g:=gb334) (o:=.cells #[.slice none 0 0,.slice none 0 0,.int .i64 0] 31 (0,0)) zmb17_6 hb);have n1_:=Aside0.mk (below_step zmb17_7 hb);clear BK334 HB;have BK334:=n0_;have HB:=n1_;clear n0_ n1_;(try clear hb);(try clear hb2);(try clear hk);(try clear hi))|((with_reducible refine gate_callee (f:=31) rfl ?_);refine goesL_ (some 16) rfl rfl Try.func31 (by kernel_rfl) rfl #[.slice A0 l0.length c0] rfl zmb17_5 ?_;(with_reducible refine (rushlightref05_Far.calls k _ _ l0 t337 _ ?side1 ?side2 A4.out).mono ?_);(case side1=>repeat (first|exact (Kd.C_below HR0.out HB.out)|(with_reducible refine Kd.C_alloc ?_ _)|(with_reducible refine Kd.C_drewN ?_ _)|(with_reducible refine Kd.C_drew ?_)));(case side2=>exact HC0.out);rintro e w8 ⟨v338,rfl,ho0,hb⟩;refine ⟨_,rfl,?_⟩;have n0_:=Aside0.mk (Kd.R_lower ho0 (below_size zmb17_7));have n1_:=Aside0.mk (blk_below (g:=gb334) (o:=.cells #[.slice none 0 0,.slice none 0 0,.int .i64 0] 31 (0,0)) zmb17_6 hb);have n2_:=Aside0.mk (below_step zmb17_7 hb);clear BK334 HB;have HO339:=n0_;have BK334:=n1_;have HB:=n2_;clear n0_ n1_ n2_;(try clear hb);(try clear hb2);(try clear hk);(try clear hi);(try clear ho0);obtain ⟨Ao9,co9,eo9⟩:=Kd.R_slice HO339.out;subst eo9)|((with_reducible refine gate_callee (f:=32) rfl ?_);refine goesL_ (some 19) rfl rfl Try.func32 (by kernel_rfl) rfl #[.slice A0 l0.length c0,.slice Ao9 t337.length co9] rfl zmb17_5 ?_;(with_reducible refine (rushlightref05_places.calls k _ _ l0 _ _ t337 t340 _ ?side1 ?side2 ?side3 ?side4 A5.out).mono ?_);(case side1=>repeat (first|exact (Kd.C_below HR0.out HB.out)|(with_reducible refine Kd.C_alloc ?_ _)|(with_reducible refine Kd.C_drewN ?_ _)|(with_reducible refine Kd.C_drew ?_)));(case side2=>exact HC0.out);(case side3=>repeat (first|exact (Kd.R_reads' HO339.out).2.2|(with_reducible refine Kd.C_alloc ?_ _)|(with_reducible refine Kd.C_drewN ?_ _)|(with_reducible refine Kd.C_drew ?_)));(case side4=>exact (Kd.R_reads' HO339.out).2.1);rintro e w10 ⟨v341,rfl,ho0,hb⟩;refine ⟨_,rfl,?_⟩;have n0_:=Aside0.mk (Kd.R_below zmb17_8 hb);have n1_:=Aside0.mk (Kd.R_lower ho0 (below_size zmb17_7));have n2_:=Aside0.mk (blk_below (g:=gb334) (o:=.cells #[.slice none 0 0,.slice none 0 0,.int .i64 0] 31 (0,0)) zmb17_6 hb);have n3_:=Aside0.mk (below_step zmb17_7 hb);clear HO339 BK334 HB;have HO339:=n0_;have HO342:=n1_;have BK334:=n2_;have HB:=n3_;clear n0_ n1_ n2_ n3_;(try clear hb);(try clear hb2);(try clear hk);(try clear hi);(try clear ho0))|((with_reducible refine gate_dst (N:=5) rfl ?_);refine box_event ?hg (N:=5) ?hd (cs:=#[.slice none 0 0,.slice none 0 0,.int .i64 0]) (t:=31) ?hr ?_;(case hd=>rfl);(case hg=>rfl);(case hr=>first|(go_simp;done)|(go_simp;rfl));intro gb343 hg w11 hbox hb;have n0_:=Aside0.mk (Kd.R_below zmb17_8 hb);have n1_:=Aside0.mk (Kd.R_below (by (with_reducible repeat (first|apply Kd.R_alloc|apply Kd.R_drewN|apply Kd.R_drew));exact HO342.out) hb);have n2_:=Aside0.mk (blk_below (g:=gb334) (o:=.cells #[.slice none 0 0,.slice none 0 0,.int .i64 0] 31 (0,0)) zmb17_6 hb);have n3_:=Aside0.mk (below_step zmb17_7 hb);have n4_:=Aside0.mk (hbox);have n5_:=Aside0.mk ((by rw [hg];exact (below_size zmb17_7):w.heap.size≤gb343));have n6_:=Aside0.mk ((by rw [hg];exact (below_size zmb17_7):w.heap.size≤gb343));have n7_:=Aside0.mk ((by rw [hg];exact Nat.ne_of_lt (blk_lt (g:=gb334) (o:=.cells #[.slice none 0 0,.slice none 0 0,.int .i64 0] 31 (0,0)) zmb17_6):gb334≠gb343));have n8_:=Aside0.mk ((by rw [hg];exact Nat.ne_of_gt (blk_lt (g:=gb334) (o:=.cells #[.slice none 0 0,.slice none 0 0,.int .i64 0] 31 (0,0)) zmb17_6):gb343≠gb334));clear HO339 HO342 BK334 HB;have HO339:=n0_;have HO342:=n1_;have BK334:=n2_;have HB:=n3_;have BK343:=n4_;have GW343:=n5_;have GE343:=n6_;have NB334_343:=n7_;have NB343_334:=n8_;clear n0_ n1_ n2_ n3_ n4_ n5_ n6_ n7_ n8_;clear hb hbox hg))
  go_loopg [6] k (fun kq v6 w'=>∃ (x4_1:List Int) (x6_1:Int) (x335002_1:Int) (x344000_1:List Int) (x344001_1:List Int) (u344000:Value) (u344001:Value),v6 = .int .i64 x6_1∧Aside0 (rushlightref05_Assemble.l0 kq l0 t337 x4_1 x6_1 x344000_1 x344001_1 0 = some (r1,r2,r3))∧Aside0 (kq≤k)∧Aside0 (Kd.R Kd.bool 4 w' w.heap.size (fun _=>True) (.slice Ao9 t337.length co9) t337)∧Aside0 (Kd.R (Kd.int .i64) 3 w' w.heap.size (fun k_=>some k_≠(u344001:Value).ownBlock) v341 x4_1)∧Aside0 (Kd.R (Kd.int .u32) 35 w' w.heap.size (fun _=>True) u344000 x344000_1)∧Aside0 (Kd.R (Kd.int .i64) 3 w' w.heap.size (fun k_=>some k_≠(v341:Value).ownBlock) u344001 x344001_1)∧Aside0 (w'.heap[gb334]? = some (.cells #[(.slice none 0 0),(.slice none 0 0),.int .i64 x335002_1] 31 (0,0)))∧Aside0 (w'.heap[gb343]? = some (.cells #[u344000,u344001,.int .i64 0] 31 (0,0)))∧Aside0 (Below w.heap.size w w'))
  case atStart=>exact ⟨(t340),(0),(0),(([]:List Int)),(([]:List Int)),(.slice none 0 0),(.slice none 0 0),zmb17_2,H',⟨Nat.le_refl _⟩,⟨zmb17_8⟩,⟨by (with_reducible repeat (first|apply Kd.R_alloc|apply Kd.R_drewN|apply Kd.R_drew));exact Kd.R_mono HO342.out (fun _ hk=>(by simp [Value.ownBlock]))⟩,⟨zmb17_9⟩,⟨zmb17_9⟩,⟨zmb17_6⟩,⟨zmb17_10⟩,⟨zmb17_11⟩⟩
  case round =>
   clear H'
   try clear c1
   try clear p2
   try clear c3
   try clear c3b0
   try clear c3b1
   try clear c11
   obtain ⟨x4_1,x6_1,x335002_1,x344000_1,x344001_1,u344000,u344001,rfl,HA,HK1,HO_3,HO_4,HO_344000,HO_344001,BK334,BK343,HB⟩:=hrel
   cases gk with
   | zero=>exact absurd HA.out (by simp [rushlightref05_Assemble.l0])
   | succ k1 =>
    have H:=HA.out
    clear HA
    simp only [rushlightref05_Assemble.l0] at H
    by_cases c12:x6_1 < (l0.length:Int)
    ·rw [if_pos c12] at H
     have c12b0:decide (x6_1 < (l0.length:Int)) = true:=decide_eq_true c12
     clear c12
     replace H:=Option.bind_eq_some_iff.mp H
     obtain ⟨t344,A130,H⟩:=H
     replace H:(rushlightref05_Assemble.l1 k1 l0 t337 x4_1 x6_1 t344 0 x344000_1 x344001_1 0) = some (r1,r2,r3):=H
     have A13:=Aside0.mk A130
     clear A130
     have H':=Aside0.mk H
     clear H
     obtain ⟨Ao14,co14,eo14⟩:=Kd.R_slice HO_4.out
     subst eo14
     go_wp2_with (first|((with_reducible refine gate_callee (f:=33) rfl ?_);refine goesL_ (some 30) rfl rfl Try.func33 (by kernel_rfl) rfl #[.slice A0 l0.length c0,.slice Ao14 x4_1.length co14,.slice Ao9 t337.length co9,.int .i64 x6_1] rfl zmb17_5 ?_;(with_reducible refine (rushlightref05_insts.calls k1 _ _ l0 _ _ x4_1 _ _ t337 x6_1 t344 _ ?side1 ?side2 ?side3 ?side4 ?side5 ?side6 A13.out).mono ?_);(case side1=>repeat (first|exact (Kd.C_below HR0.out HB.out)|(with_reducible refine Kd.C_alloc ?_ _)|(with_reducible refine Kd.C_drewN ?_ _)|(with_reducible refine Kd.C_drew ?_)));(case side2=>exact HC0.out);(case side3=>repeat (first|exact (Kd.R_reads' HO_4.out).2.2|(with_reducible refine Kd.C_alloc ?_ _)|(with_reducible refine Kd.C_drewN ?_ _)|(with_reducible refine Kd.C_drew ?_)));(case side4=>exact (Kd.R_reads' HO_4.out).2.1);(case side5=>repeat (first|exact (Kd.R_reads' HO_3.out).2.2|(with_reducible refine Kd.C_alloc ?_ _)|(with_reducible refine Kd.C_drewN ?_ _)|(with_reducible refine Kd.C_drew ?_)));(case side6=>exact (Kd.R_reads' HO_3.out).2.1);rintro e w15 ⟨v345,rfl,ho0,hb⟩;refine ⟨_,rfl,?_⟩;have n0_:=Aside0.mk (Kd.R_below zmb17_12 hb);have n1_:=Aside0.mk (Kd.R_below zmb17_13 hb);have n2_:=Aside0.mk (Kd.R_below zmb17_14 hb);have n3_:=Aside0.mk (Kd.R_below zmb17_15 hb);have n4_:=Aside0.mk (Kd.R_lower ho0 (below_size zmb17_11));have n5_:=Aside0.mk (blk_below (g:=gb334) (o:=.cells #[.slice none 0 0,.slice none 0 0,.int .i64 x335002_1] 31 (0,0)) zmb17_6 hb);have n6_:=Aside0.mk (blk_below (g:=gb343) (o:=.cells #[u344000,u344001,.int .i64 0] 31 (0,0)) zmb17_10 hb);have n7_:=Aside0.mk (below_step zmb17_11 hb);clear HO_3 HO_4 HO_344000 HO_344001 BK334 BK343 HB;have HO_3:=n0_;have HO_4:=n1_;have HO_344000:=n2_;have HO_344001:=n3_;have HO346:=n4_;have BK334:=n5_;have BK343:=n6_;have HB:=n7_;clear n0_ n1_ n2_ n3_ n4_ n5_ n6_ n7_;(try clear hb);(try clear hb2);(try clear hk);(try clear hi);(try clear ho0)))
     go_loopg [8] k1 (fun kq v8 w'=>∃ (x8_2:Int) (x335002_2:Int) (x344000_2:List Int) (u344000:Value),v8 = .int .i64 x8_2∧Aside0 (rushlightref05_Assemble.l1 kq l0 t337 x4_1 x6_1 t344 x8_2 x344000_2 x344001_1 0 = some (r1,r2,r3))∧Aside0 (kq≤k1)∧Aside0 (Kd.R Kd.bool 4 w' w.heap.size (fun _=>True) (.slice Ao9 t337.length co9) t337)∧Aside0 (Kd.R (Kd.int .i64) 3 w' w.heap.size (fun k_=>some k_≠(u344001:Value).ownBlock) (.slice Ao14 x4_1.length co14) x4_1)∧Aside0 (Kd.R k46 46 w' w.heap.size (fun _=>True) v345 t344)∧Aside0 (Kd.R (Kd.int .u32) 35 w' w.heap.size (fun _=>True) u344000 x344000_2)∧Aside0 (Kd.R (Kd.int .i64) 3 w' w.heap.size (fun k_=>some k_≠((.slice Ao14 x4_1.length co14):Value).ownBlock) u344001 x344001_1)∧Aside0 (w'.heap[gb334]? = some (.cells #[(.slice none 0 0),(.slice none 0 0),.int .i64 x335002_2] 31 (0,0)))∧Aside0 (w'.heap[gb343]? = some (.cells #[u344000,u344001,.int .i64 0] 31 (0,0)))∧Aside0 (Below w.heap.size w w'))
     case atStart=>exact ⟨(0),(x335002_1),(x344000_1),(u344000),zmb17_2,H',⟨Nat.le_refl _⟩,⟨zmb17_12⟩,⟨zmb17_13⟩,⟨by (with_reducible repeat (first|apply Kd.R_alloc|apply Kd.R_drewN|apply Kd.R_drew));exact HO346.out⟩,⟨zmb17_14⟩,⟨zmb17_15⟩,⟨zmb17_6⟩,⟨zmb17_10⟩,⟨zmb17_11⟩⟩
     case round =>
      clear H'
      try clear c1
      try clear p2
      try clear c3
      try clear c3b0
      try clear c3b1
      try clear c11
      try clear c12
      try clear c12b0
      try clear p2
      obtain ⟨x8_2,x335002_2,x344000_2,u344000,rfl,HA,HK2,HO_3,HO_4,HO_7,HO_344000,HO_344001,BK334,BK343,HB⟩:=hrel
      cases gk with
      | zero=>exact absurd HA.out (by simp [rushlightref05_Assemble.l1])
      | succ k2 =>
       have H:=HA.out
       clear HA
       simp only [rushlightref05_Assemble.l1] at H
       by_cases c16:x8_2 < (t344.length:Int)
       ·rw [if_pos c16] at H
        have c16b0:decide (x8_2 < (t344.length:Int)) = true:=decide_eq_true c16
        clear c16
        by_cases c17:0≤x8_2
        ·rw [if_pos c17] at H
         have c17b0:decide (0≤x8_2) = true:=decide_eq_true c17
         clear c17
         by_cases c18:((rd_T46 t344 x8_2).f0) = 3
         ·rw [if_pos c18] at H
          have c18b0:(((rd_T46 t344 x8_2).f0) == 3) = true:=beq_iff_eq.mpr c18
          have c18b1:(((rd_T46 t344 x8_2).f0) != 3) = false:=bne_eq_false_iff_eq.mpr c18
          clear c18
          by_cases c19:0≤x6_1
          ·rw [if_pos c19] at H
           have c19b0:decide (0≤x6_1) = true:=decide_eq_true c19
           clear c19
           by_cases c20:x6_1 < (l0.length:Int)
           ·rw [if_pos c20] at H
            have c20b0:decide (x6_1 < (l0.length:Int)) = true:=decide_eq_true c20
            clear c20
            by_cases c21:((rd_T48 l0 x6_1).f0) = 1
            ·rw [if_pos c21] at H
             have c21b0:(((rd_T48 l0 x6_1).f0) == 1) = true:=beq_iff_eq.mpr c21
             have c21b1:(((rd_T48 l0 x6_1).f0) != 1) = false:=bne_eq_false_iff_eq.mpr c21
             clear c21
             replace H:=Option.bind_eq_some_iff.mp H
             obtain ⟨t350,A220,H⟩:=H
             replace H:(if x344000_2.length < 35184372088832 then (rushlightref05_Assemble.l1 k2 l0 t337 x4_1 x6_1 t344 (wrap64 (x8_2 + 1)) (x344000_2 ++ [t350]) x344001_1 0) else (none)) = some (r1,r2,r3):=H
             have A22:=Aside0.mk A220
             clear A220
             by_cases c23:x344000_2.length < 35184372088832
             ·rw [if_pos c23] at H
              have LMc23:=Aside0.mk c23
              clear c23
              obtain ⟨y351,hy351⟩:∃ y_:List Int,y_ = (x344000_2 ++ [t350]):=⟨_,rfl⟩
              replace H:(rushlightref05_Assemble.l1 k2 l0 t337 x4_1 x6_1 t344 (wrap64 (x8_2 + 1)) y351 x344001_1 0) = some (r1,r2,r3):=by first|(rw [hy351];with_reducible exact H)|(have H2_:=(Option.bind_some _ _).symm.trans H;rw [hy351];with_reducible exact H2_)|(have H2_:=(Option.bind_some _ _).symm.trans H;with_reducible exact H2_)|with_reducible exact H|(rw [hy351];exact H)|exact H
              have Ny351:=Aside0.mk hy351
              clear hy351
              have H':=Aside0.mk H
              clear H
              obtain ⟨Ao24,co24,eo24⟩:=Kd.R_slice HO_7.out
              subst eo24
              have p347:0≤(x8_2:Int):=of_decide_eq_true zmb17_3
              have q347:x8_2 < (t344.length:Int):=of_decide_eq_true zmb17_3
              obtain ⟨ad347,e347,hx347_0,hx347_1,hx347_2,hx347_3,hx347_4⟩:=at_T46 (Kd.R_reads' HO_7.out).2.2 x8_2 p347 q347
              cases e347
              replace p347:=eq_true p347
              replace q347:=eq_true q347
              have p348:0≤(x6_1:Int):=of_decide_eq_true zmb17_3
              have q348:x6_1 < (l0.length:Int):=of_decide_eq_true zmb17_3
              obtain ⟨ad348,e348,hx348_0,hx348_1,hx348_2,hx348_3,hx348_4,hx348_5,hx348_6⟩:=at_T48 HR0.out x6_1 p348 q348
              cases e348
              replace hx348_0:=(HB.out.cell (World.block_lt_of_cell? w _ hx348_0)).trans hx348_0
              replace hx348_1:=(HB.out.cell (World.block_lt_of_cell? w _ hx348_1)).trans hx348_1
              replace hx348_2:=(HB.out.cell (World.block_lt_of_cell? w _ hx348_2)).trans hx348_2
              replace hx348_3:=(HB.out.cell (World.block_lt_of_cell? w _ hx348_3)).trans hx348_3
              replace hx348_4:=(HB.out.cell (World.block_lt_of_cell? w _ hx348_4)).trans hx348_4
              replace hx348_5:=(HB.out.cell (World.block_lt_of_cell? w _ hx348_5)).trans hx348_5
              replace hx348_6:=(HB.out.cell (World.block_lt_of_cell? w _ hx348_6)).trans hx348_6
              replace p348:=eq_true p348
              replace q348:=eq_true q348
              try go_wp2
              have n0_:=Aside0.mk (Kd.R_drew HO_3.out)
              have n1_:=Aside0.mk (Kd.R_drew HO_4.out)
              have n2_:=Aside0.mk (Kd.R_drew HO_7.out)
              have n3_:=Aside0.mk (Kd.R_drew HO_344000.out)
              have n4_:=Aside0.mk (Kd.R_drew HO_344001.out)
              have n5_:=Aside0.mk (blk_drew BK334.out)
              have n6_:=Aside0.mk (blk_drew BK343.out)
              have n7_:=Aside0.mk (below_drew1 HB.out)
              clear HO_3
              clear HO_4
              clear HO_7
              clear HO_344000
              clear HO_344001
              clear BK334
              clear BK343
              clear HB
              have HO_3:=n0_
              have HO_4:=n1_
              have HO_7:=n2_
              have HO_344000:=n3_
              have HO_344001:=n4_
              have BK334:=n5_
              have BK343:=n6_
              have HB:=n7_
              clear n0_ n1_ n2_ n3_ n4_ n5_ n6_ n7_
              have p349:0≤(x8_2:Int):=of_decide_eq_true zmb17_3
              have q349:x8_2 < (t344.length:Int):=of_decide_eq_true zmb17_3
              obtain ⟨ad349,e349,hx349_0,hx349_1,hx349_2,hx349_3,hx349_4⟩:=at_T46 (Kd.R_reads' HO_7.out).2.2 x8_2 p349 q349
              obtain rfl:ad347 = ad349:=(by injection e349)
              replace p349:=eq_true p349
              replace q349:=eq_true q349
              refine start_ (n:=11) (S:=fun w'=>w'.cell? ⟨gb343,0,none⟩ = some (u344000)∧w'.cell? ⟨gb343,1,none⟩ = some (u344001)∧w'.cell? ⟨gb343,2,none⟩ = some (.int .i64 0)∧w'.cell? (ad347.add ((x8_2).toNat * 5)) = some (.int .i64 ((rd_T46 t344 x8_2).f0))∧w'.cell? ⟨(ad347.add ((x8_2).toNat * 5)).block,(ad347.add ((x8_2).toNat * 5)).off + 1,none⟩ = some (.int .i64 ((rd_T46 t344 x8_2).f1))∧w'.cell? ⟨(ad347.add ((x8_2).toNat * 5)).block,(ad347.add ((x8_2).toNat * 5)).off + 2,none⟩ = some (.int .i64 ((rd_T46 t344 x8_2).f2))∧w'.cell? ⟨(ad347.add ((x8_2).toNat * 5)).block,(ad347.add ((x8_2).toNat * 5)).off + 3,none⟩ = some (.int .i64 ((rd_T46 t344 x8_2).f3))∧w'.cell? ⟨(ad347.add ((x8_2).toNat * 5)).block,(ad347.add ((x8_2).toNat * 5)).off + 4,none⟩ = some (.int .i64 ((rd_T46 t344 x8_2).f4))) (ds:=[8,10]) #[false,false,false,false,false,false,false,false,false,false,false] (by kernel_rfl) rfl rfl ⟨(blk_cell BK343.out 0).trans rfl,(blk_cell BK343.out 1).trans rfl,(blk_cell BK343.out 2).trans rfl,hx349_0,hx349_1,hx349_2,hx349_3,hx349_4⟩ (fun hHeld=>?_);refine with_tabW rushlightref05_Assemble.tab15 rushlightref05_Assemble.bits15 (fun HT_ HW_=>?_)
              generalize wr.drew = w25 at HO_3 HO_4 HO_7 HO_344000 HO_344001 BK334 BK343 HB hx349_0 hx349_1 hx349_2 hx349_3 hx349_4 hHeld ⊢
              refine pure_ (i:=0) (N:=some 68) (v:=?_) (a':=?_) #[true,false,false,false,false,false,false,false,false,false,false] rfl rfl (any_of HT_.out (by kernel_rfl)) (fun _ _ _ h=>h) (Or.inl ⟨by rfl,?_⟩) ?_ ?_
              rotate_left
              ·intro w'
               go_simp
               with_reducible rfl
              rotate_left
              ·simp only [Act.put,List.setIfInBounds_toArray,List.set_cons_zero,List.set_cons_succ,i64_w,i32_w]
               rfl
              refine pure_ (i:=2) (N:=some 70) (v:=?_) (a':=?_) #[true,false,true,false,false,false,false,false,false,false,false] rfl rfl (any_of HT_.out (by kernel_rfl)) (fun _ _ _ h=>h) (Or.inl ⟨by rfl,?_⟩) ?_ ?_
              rotate_left
              ·intro w'
               go_simp
               with_reducible rfl
              rotate_left
              ·simp only [Act.put,List.setIfInBounds_toArray,List.set_cons_zero,List.set_cons_succ,i64_w,i32_w]
               rfl
              refine pure_ (i:=3) (N:=some 71) (v:=?_) (a':=?_) #[true,false,true,true,false,false,false,false,false,false,false] rfl rfl (any_of HT_.out (by kernel_rfl)) (fun _ _ _ h=>h) (Or.inl ⟨by rfl,?_⟩) ?_ ?_
              rotate_left
              ·intro w'
               go_simp
               with_reducible rfl
              rotate_left
              ·simp only [Act.put,List.setIfInBounds_toArray,List.set_cons_zero,List.set_cons_succ,i64_w,i32_w]
               rfl
              refine pure_ (i:=4) (N:=some 72) (v:=?_) (a':=?_) #[true,false,true,true,true,false,false,false,false,false,false] rfl rfl (any_of HT_.out (by kernel_rfl)) (fun _ _ _ h=>h) (Or.inl ⟨by rfl,?_⟩) ?_ ?_
              rotate_left
              ·intro w'
               go_simp
               with_reducible rfl
              rotate_left
              ·simp only [Act.put,List.setIfInBounds_toArray,List.set_cons_zero,List.set_cons_succ,i64_w,i32_w]
               rfl
              refine take_ (i:=1) (N:=some 69) (v:=?_) (a':=?_) #[true,true,true,true,true,false,false,false,false,false,false] rfl rfl (take_ofW HT_.out HW_.out (by kernel_rfl)) (fun _ _ _ h=>h) (Or.inl ⟨by rfl,?_⟩) hHeld ?_ ?_
              rotate_left
              ·rintro w' ⟨s0,s1,s2,s3,s4,s5,s6,s7⟩
               go_simp
               with_reducible rfl
              rotate_left
              ·simp only [Act.put,List.setIfInBounds_toArray,List.set_cons_zero,List.set_cons_succ,i64_w,i32_w]
               rfl
              refine take_ (i:=5) (N:=some 73) (v:=?_) (a':=?_) #[true,true,true,true,true,true,false,false,false,false,false] rfl rfl (take_ofW HT_.out HW_.out (by kernel_rfl)) (fun _ _ _ h=>h) (Or.inl ⟨by rfl,?_⟩) hHeld ?_ ?_
              rotate_left
              ·rintro w' ⟨s0,s1,s2,s3,s4,s5,s6,s7⟩
               go_simp
               with_reducible rfl
              rotate_left
              ·simp only [Act.put,List.setIfInBounds_toArray,List.set_cons_zero,List.set_cons_succ,i64_w,i32_w]
               rfl
              refine one_ (i:=6) (N:=some 74) #[true,true,true,true,true,true,true,false,false,false,false] rfl rfl (one_of HT_.out (by kernel_rfl)) (by decide) (fun K hK=>?_)
              refine goes_ Try.func34 (by kernel_rfl) rfl #[.agg #[.int .i64 ((rd_T46 t344 x8_2).f0),.int .i64 ((rd_T46 t344 x8_2).f1),.int .i64 ((rd_T46 t344 x8_2).f2),.int .i64 ((rd_T46 t344 x8_2).f3),.int .i64 ((rd_T46 t344 x8_2).f4)]] (by rfl) rfl rfl zmb17_5 ?_
              with_reducible refine (rushlightref02_Word.calls k2 ((rd_T46 t344 x8_2).f0) ((rd_T46 t344 x8_2).f1) ((rd_T46 t344 x8_2).f2) ((rd_T46 t344 x8_2).f3) ((rd_T46 t344 x8_2).f4) t350 _ A22.out).mono ?_
              rintro e w26 ⟨rfl,hb⟩
              have HS3_:=(hb.cell (World.block_lt_of_cell? _ _ (hHeld.2.2.2.1))).trans (hHeld.2.2.2.1)
              have HS4_:=(hb.cell (World.block_lt_of_cell? _ _ (hHeld.2.2.2.2.1))).trans (hHeld.2.2.2.2.1)
              have HS5_:=(hb.cell (World.block_lt_of_cell? _ _ (hHeld.2.2.2.2.2.1))).trans (hHeld.2.2.2.2.2.1)
              have HS6_:=(hb.cell (World.block_lt_of_cell? _ _ (hHeld.2.2.2.2.2.2.1))).trans (hHeld.2.2.2.2.2.2.1)
              have HS7_:=(hb.cell (World.block_lt_of_cell? _ _ (hHeld.2.2.2.2.2.2.2))).trans (hHeld.2.2.2.2.2.2.2)
              refine ⟨_,rfl,?_⟩
              have n0_:=Aside0.mk (Kd.R_below zmb17_12 hb)
              have n1_:=Aside0.mk (Kd.R_below zmb17_13 hb)
              have n2_:=Aside0.mk (Kd.R_below zmb17_16 hb)
              have n3_:=Aside0.mk (Kd.R_below zmb17_14 hb)
              have n4_:=Aside0.mk (Kd.R_below zmb17_15 hb)
              have n5_:=Aside0.mk (blk_below (g:=gb334) (o:=.cells #[.slice none 0 0,.slice none 0 0,.int .i64 x335002_2] 31 (0,0)) zmb17_6 hb)
              have n6_:=Aside0.mk (blk_below (g:=gb343) (o:=.cells #[u344000,u344001,.int .i64 0] 31 (0,0)) zmb17_10 hb)
              have n7_:=Aside0.mk (below_step zmb17_11 hb)
              clear HO_3
              clear HO_4
              clear HO_7
              clear HO_344000
              clear HO_344001
              clear BK334
              clear BK343
              clear HB
              have HO_3:=n0_
              have HO_4:=n1_
              have HO_7:=n2_
              have HO_344000:=n3_
              have HO_344001:=n4_
              have BK334:=n5_
              have BK343:=n6_
              have HB:=n7_
              clear n0_ n1_ n2_ n3_ n4_ n5_ n6_ n7_
              (try clear hb)
              (try clear hb2)
              (try clear hk)
              (try clear hi)
              refine hK.out _ _ ⟨(blk_cell BK343.out 0).trans rfl,(blk_cell BK343.out 1).trans rfl,(blk_cell BK343.out 2).trans rfl,HS3_,HS4_,HS5_,HS6_,HS7_⟩ (fun hHeld=>?_)
              clear hK K
              refine norm_ (a':=?_) ?_ ?_
              rotate_left
              ·show Act.put _ (some 74) _ = _
               simp only [Act.put,List.setIfInBounds_toArray,List.set_cons_zero,List.set_cons_succ,i64_w,i32_w]
               rfl
              refine one_ (i:=7) (N:=some 75) #[true,true,true,true,true,true,true,true,false,false,false] rfl rfl (one_of HT_.out (by kernel_rfl)) (by decide) (fun K hK=>?_)
              refine value_ (w1:=?_) (v:=?_) (by rfl) rfl ?_ ?_
              rotate_left 2
              ·go_simp
               constructor
               ·rfl
               ·rfl
              refine hK.out _ _ ⟨(blk_cell (blk_alloc BK343.out _) 0).trans rfl,(blk_cell (blk_alloc BK343.out _) 1).trans rfl,(blk_cell (blk_alloc BK343.out _) 2).trans rfl,(World.cell?_alloc_lt _ _ _ (World.block_lt_of_cell? _ _ (hHeld.2.2.2.1))).trans (hHeld.2.2.2.1),(World.cell?_alloc_lt _ _ _ (World.block_lt_of_cell? _ _ (hHeld.2.2.2.2.1))).trans (hHeld.2.2.2.2.1),(World.cell?_alloc_lt _ _ _ (World.block_lt_of_cell? _ _ (hHeld.2.2.2.2.2.1))).trans (hHeld.2.2.2.2.2.1),(World.cell?_alloc_lt _ _ _ (World.block_lt_of_cell? _ _ (hHeld.2.2.2.2.2.2.1))).trans (hHeld.2.2.2.2.2.2.1),(World.cell?_alloc_lt _ _ _ (World.block_lt_of_cell? _ _ (hHeld.2.2.2.2.2.2.2))).trans (hHeld.2.2.2.2.2.2.2)⟩ (fun hHeld=>?_)
              clear hK K
              refine norm_ (a':=?_) ?_ ?_
              rotate_left
              ·show Act.put _ (some 75) _ = _
               simp only [Act.put,List.setIfInBounds_toArray,List.set_cons_zero,List.set_cons_succ,i64_w,i32_w]
               rfl
              refine last_ (i:=8) (N:=some 76) #[true,true,true,true,true,true,true,true,true,false,false] rfl rfl (one_of HT_.out (by kernel_rfl)) (by decide) (fun K hK=>?_)
              refine Kd.R_append_step (Kd.int .u32) (w0:=w) w.heap.size (by rfl) (.tmp 69) (.tmp 75) 25 35 (.int .u32 0) 4 rfl Try.underlying25 info35 rfl (by decide) (by omega) u344000 x344000_2 t350 [.int .u32 t350] (fun _=>True) (fun _=>False) rfl rfl ?aP (fun _ hk=>hk.elim) ?aF ?aO ?aB ?aS ?aL ?_
              (case aP=>exact rfl)
              (case aB=>exact zmb17_11)
              (case aF=>exact (fun _ _=>trivial))
              (case aO=>exact zmb17_14)
              (case aS=>exact (below_size zmb17_11))
              (case aL=>have:=LMc23.out;omega)
              intro v352 w27 ho hb hg hat
              rw [← Ny351.out] at ho
              have n0_:=Aside0.mk (Kd.R_over' zmb17_12 (Kd.R_typed zmb17_14) (by decide) hg)
              have n1_:=Aside0.mk (Kd.R_over' zmb17_13 (Kd.R_typed zmb17_14) (by decide) hg)
              have n2_:=Aside0.mk (Kd.R_over' zmb17_16 (Kd.R_typed zmb17_14) (by decide) hg)
              have n3_:=Aside0.mk (Kd.R_over' zmb17_15 (Kd.R_typed zmb17_14) (by decide) hg)
              have n4_:=Aside0.mk (blk_grown (g:=gb334) (o:=.cells #[.slice none 0 0,.slice none 0 0,.int .i64 x335002_2] 31 (0,0)) zmb17_6 hg (Kd.R_ne HO_344000.out BK334.out (by decide)))
              have n5_:=Aside0.mk (blk_grown (g:=gb343) (o:=.cells #[u344000,u344001,.int .i64 0] 31 (0,0)) zmb17_10 hg (Kd.R_ne HO_344000.out BK343.out (by decide)))
              have n6_:=Aside0.mk (hb)
              have n7_:=Aside0.mk (ho)
              clear HO_3
              clear HO_4
              clear HO_7
              clear HO_344001
              clear BK334
              clear BK343
              clear HB
              clear HO_344000
              have HO_3:=n0_
              have HO_4:=n1_
              have HO_7:=n2_
              have HO_344001:=n3_
              have BK334:=n4_
              have BK343:=n5_
              have HB:=n6_
              have HO353:=n7_
              clear n0_ n1_ n2_ n3_ n4_ n5_ n6_ n7_
              clear ho hb hg hat
              obtain ⟨Ao28,co28,eo28⟩:=Kd.R_slice HO353.out
              (first|subst eo28|(injection eo28 with f1_ f2_ f3_;have f4_:=f1_.symm;have f5_:=f3_.symm;clear f1_ f2_ f3_;subst f4_;subst f5_))
              refine hK.out _ _ ?_
              clear hK K
              refine norm_ (a':=?_) ?_ ?_
              rotate_left
              ·show Act.put _ (some 76) _ = _
               simp only [Act.put,List.setIfInBounds_toArray,List.set_cons_zero,List.set_cons_succ,i64_w,i32_w]
               rfl
              refine pure_ (i:=9) (N:=some 77) (v:=?_) (a':=?_) #[true,true,true,true,true,true,true,true,true,true,false] rfl rfl (any_of HT_.out (by kernel_rfl)) (fun _ _ _ h=>h) (Or.inl ⟨by rfl,?_⟩) ?_ ?_
              rotate_left
              ·intro w'
               go_simp
               with_reducible rfl
              rotate_left
              ·simp only [Act.put,List.setIfInBounds_toArray,List.set_cons_zero,List.set_cons_succ,i64_w,i32_w]
               rfl
              refine last_ (i:=10) (N:=none) #[true,true,true,true,true,true,true,true,true,true,true] rfl rfl (one_of HT_.out (by kernel_rfl)) (by decide) (fun K hK=>?_)
              have hs29:w27.cell? ⟨gb343,0,none⟩ = some (u344000):=(blk_cell BK343.out 0).trans rfl
              have hfs29:=blk_frozen BK343.out 0
              have hns29_0:=NB334_343.out
              have hms29_0:=NB343_334.out
              refine skip_ (w1:=?_) (by rfl) rfl ?_ ?_
              rotate_left
              ·go_simp
               rfl
              refine hK.out _ _ ?_
              clear hK K
              refine done_ (done_of HT_.out (by kernel_rfl)) ?_
              try go_wp2
              go_roundg k2
              case measure=>have:=HK1.out;have:=HK2.out;omega
              case rel=>exact ⟨(wrap64 (x8_2 + 1)),(x335002_2),(y351),(.slice Ao28 y351.length co28),zmb17_2,H',⟨zmb17_17⟩,⟨by (with_reducible repeat (first|apply Kd.R_alloc|apply Kd.R_drewN|apply Kd.R_drew));exact Kd.R_mono (Kd.R_far (p:=⟨gb343,0,none⟩) (Kd.R_types HO_3.out BK343.out (by decide)) (fun _ hk=>hk.2) (.slice Ao28 y351.length co28)) (fun _ hk=>trivial)⟩,⟨by (with_reducible repeat (first|apply Kd.R_alloc|apply Kd.R_drewN|apply Kd.R_drew));exact Kd.R_mono (Kd.R_far (p:=⟨gb343,0,none⟩) (Kd.R_types HO_4.out BK343.out (by decide)) (fun _ hk=>hk.2) (.slice Ao28 y351.length co28)) (fun _ hk=>hk.1)⟩,⟨by (with_reducible repeat (first|apply Kd.R_alloc|apply Kd.R_drewN|apply Kd.R_drew));exact Kd.R_mono (Kd.R_far (p:=⟨gb343,0,none⟩) (Kd.R_types HO_7.out BK343.out (by decide)) (fun _ hk=>hk.2) (.slice Ao28 y351.length co28)) (fun _ hk=>trivial)⟩,⟨by (with_reducible repeat (first|apply Kd.R_alloc|apply Kd.R_drewN|apply Kd.R_drew));exact Kd.R_mono (Kd.R_far (p:=⟨gb343,0,none⟩) (Kd.R_types HO353.out BK343.out (by decide)) (fun _ hk=>hk.2) (.slice Ao28 y351.length co28)) (fun _ hk=>trivial)⟩,⟨by (with_reducible repeat (first|apply Kd.R_alloc|apply Kd.R_drewN|apply Kd.R_drew));exact Kd.R_mono (Kd.R_far (p:=⟨gb343,0,none⟩) (Kd.R_types HO_344001.out BK343.out (by decide)) (fun _ hk=>hk.2) (.slice Ao28 y351.length co28)) (fun _ hk=>hk.1)⟩,⟨zmb17_18⟩,⟨zmb17_19⟩,⟨zmb17_11⟩⟩
             ·rw [if_neg c23] at H
              exact absurd H (by simp)
            ·rw [if_neg c21] at H
             have c21b0:(((rd_T48 l0 x6_1).f0) == 1) = false:=beq_eq_false_iff_ne.mpr c21
             have c21b1:(((rd_T48 l0 x6_1).f0) != 1) = true:=bne_iff_ne.mpr c21
             by_cases c30:((rd_T46 t344 x8_2).f4) < (-1048576)
             ·rw [if_pos c30] at H
              have c30b0:decide (((rd_T46 t344 x8_2).f4) < (-1048576)) = true:=decide_eq_true c30
              clear c30
              simp only [Option.some.injEq,Prod.mk.injEq] at H
              obtain ⟨rfl,rfl,rfl⟩:=H
              obtain ⟨Ao31,co31,eo31⟩:=Kd.R_slice HO_7.out
              subst eo31
              have p347:0≤(x8_2:Int):=of_decide_eq_true zmb17_3
              have q347:x8_2 < (t344.length:Int):=of_decide_eq_true zmb17_3
              obtain ⟨ad347,e347,hx347_0,hx347_1,hx347_2,hx347_3,hx347_4⟩:=at_T46 (Kd.R_reads' HO_7.out).2.2 x8_2 p347 q347
              cases e347
              replace p347:=eq_true p347
              replace q347:=eq_true q347
              have p348:0≤(x6_1:Int):=of_decide_eq_true zmb17_3
              have q348:x6_1 < (l0.length:Int):=of_decide_eq_true zmb17_3
              obtain ⟨ad348,e348,hx348_0,hx348_1,hx348_2,hx348_3,hx348_4,hx348_5,hx348_6⟩:=at_T48 HR0.out x6_1 p348 q348
              cases e348
              replace hx348_0:=(HB.out.cell (World.block_lt_of_cell? w _ hx348_0)).trans hx348_0
              replace hx348_1:=(HB.out.cell (World.block_lt_of_cell? w _ hx348_1)).trans hx348_1
              replace hx348_2:=(HB.out.cell (World.block_lt_of_cell? w _ hx348_2)).trans hx348_2
              replace hx348_3:=(HB.out.cell (World.block_lt_of_cell? w _ hx348_3)).trans hx348_3
              replace hx348_4:=(HB.out.cell (World.block_lt_of_cell? w _ hx348_4)).trans hx348_4
              replace hx348_5:=(HB.out.cell (World.block_lt_of_cell? w _ hx348_5)).trans hx348_5
              replace hx348_6:=(HB.out.cell (World.block_lt_of_cell? w _ hx348_6)).trans hx348_6
              replace p348:=eq_true p348
              replace q348:=eq_true q348
              have p354:0≤(x8_2:Int):=of_decide_eq_true zmb17_3
              have q354:x8_2 < (t344.length:Int):=of_decide_eq_true zmb17_3
              obtain ⟨ad354,e354,hx354_0,hx354_1,hx354_2,hx354_3,hx354_4⟩:=at_T46 (Kd.R_reads' HO_7.out).2.2 x8_2 p354 q354
              obtain rfl:ad347 = ad354:=(by injection e354)
              replace p354:=eq_true p354
              replace q354:=eq_true q354
              have hnb32:=NB334_343.out
              have hnc32:=NB343_334.out
              have hcz33_0:wr.cell? ⟨gb334,0,none⟩ = some (.slice none 0 0):=(blk_cell BK334.out 0).trans rfl
              have hcz33_1:wr.cell? ⟨gb334,1,none⟩ = some (.slice none 0 0):=(blk_cell BK334.out 1).trans rfl
              have hcz33_2:wr.cell? ⟨gb334,2,none⟩ = some (.int .i64 x335002_2):=(blk_cell BK334.out 2).trans rfl
              have hfz33_0:=blk_frozen BK334.out 0
              have hfz33_1:=blk_frozen BK334.out 1
              have hfz33_2:=blk_frozen BK334.out 2
              go_wp2
              refine bodyPost_ret (results_cell_row rfl _ _ gb334 31 #[.slice none 0 0,.slice none 0 0,.int .i64 7] (0,0) _ rfl zmb17_20 Try.underlying31 rfl (by kernel_rfl)) rfl ?_
              exact ⟨_,_,zmb17_0,zmb17_9,zmb17_9,zmb17_11⟩
             ·rw [if_neg c30] at H
              have c30b0:decide (((rd_T46 t344 x8_2).f4) < (-1048576)) = false:=decide_eq_false c30
              clear c30
              by_cases c34:((rd_T46 t344 x8_2).f4) > 1048574
              ·rw [if_pos c34] at H
               have c34b0:decide (1048574 < ((rd_T46 t344 x8_2).f4)) = true:=decide_eq_true c34
               clear c34
               simp only [Option.some.injEq,Prod.mk.injEq] at H
               obtain ⟨rfl,rfl,rfl⟩:=H
               obtain ⟨Ao35,co35,eo35⟩:=Kd.R_slice HO_7.out
               subst eo35
               have p347:0≤(x8_2:Int):=of_decide_eq_true zmb17_3
               have q347:x8_2 < (t344.length:Int):=of_decide_eq_true zmb17_3
               obtain ⟨ad347,e347,hx347_0,hx347_1,hx347_2,hx347_3,hx347_4⟩:=at_T46 (Kd.R_reads' HO_7.out).2.2 x8_2 p347 q347
               cases e347
               replace p347:=eq_true p347
               replace q347:=eq_true q347
               have p348:0≤(x6_1:Int):=of_decide_eq_true zmb17_3
               have q348:x6_1 < (l0.length:Int):=of_decide_eq_true zmb17_3
               obtain ⟨ad348,e348,hx348_0,hx348_1,hx348_2,hx348_3,hx348_4,hx348_5,hx348_6⟩:=at_T48 HR0.out x6_1 p348 q348
               cases e348
               replace hx348_0:=(HB.out.cell (World.block_lt_of_cell? w _ hx348_0)).trans hx348_0
               replace hx348_1:=(HB.out.cell (World.block_lt_of_cell? w _ hx348_1)).trans hx348_1
               replace hx348_2:=(HB.out.cell (World.block_lt_of_cell? w _ hx348_2)).trans hx348_2
               replace hx348_3:=(HB.out.cell (World.block_lt_of_cell? w _ hx348_3)).trans hx348_3
               replace hx348_4:=(HB.out.cell (World.block_lt_of_cell? w _ hx348_4)).trans hx348_4
               replace hx348_5:=(HB.out.cell (World.block_lt_of_cell? w _ hx348_5)).trans hx348_5
               replace hx348_6:=(HB.out.cell (World.block_lt_of_cell? w _ hx348_6)).trans hx348_6
               replace p348:=eq_true p348
               replace q348:=eq_true q348
               have p354:0≤(x8_2:Int):=of_decide_eq_true zmb17_3
               have q354:x8_2 < (t344.length:Int):=of_decide_eq_true zmb17_3
               obtain ⟨ad354,e354,hx354_0,hx354_1,hx354_2,hx354_3,hx354_4⟩:=at_T46 (Kd.R_reads' HO_7.out).2.2 x8_2 p354 q354
               obtain rfl:ad347 = ad354:=(by injection e354)
               replace p354:=eq_true p354
               replace q354:=eq_true q354
               have p355:0≤(x8_2:Int):=of_decide_eq_true zmb17_3
               have q355:x8_2 < (t344.length:Int):=of_decide_eq_true zmb17_3
               obtain ⟨ad355,e355,hx355_0,hx355_1,hx355_2,hx355_3,hx355_4⟩:=at_T46 (Kd.R_reads' HO_7.out).2.2 x8_2 p355 q355
               obtain rfl:ad347 = ad355:=(by injection e355)
               replace p355:=eq_true p355
               replace q355:=eq_true q355
               have hnb36:=NB334_343.out
               have hnc36:=NB343_334.out
               have hcz37_0:wr.cell? ⟨gb334,0,none⟩ = some (.slice none 0 0):=(blk_cell BK334.out 0).trans rfl
               have hcz37_1:wr.cell? ⟨gb334,1,none⟩ = some (.slice none 0 0):=(blk_cell BK334.out 1).trans rfl
               have hcz37_2:wr.cell? ⟨gb334,2,none⟩ = some (.int .i64 x335002_2):=(blk_cell BK334.out 2).trans rfl
               have hfz37_0:=blk_frozen BK334.out 0
               have hfz37_1:=blk_frozen BK334.out 1
               have hfz37_2:=blk_frozen BK334.out 2
               go_wp2
               refine bodyPost_ret (results_cell_row rfl _ _ gb334 31 #[.slice none 0 0,.slice none 0 0,.int .i64 7] (0,0) _ rfl zmb17_20 Try.underlying31 rfl (by kernel_rfl)) rfl ?_
               exact ⟨_,_,zmb17_0,zmb17_9,zmb17_9,zmb17_11⟩
              ·rw [if_neg c34] at H
               have c34b0:decide (1048574 < ((rd_T46 t344 x8_2).f4)) = false:=decide_eq_false c34
               clear c34
               replace H:=Option.bind_eq_some_iff.mp H
               obtain ⟨t357,A380,H⟩:=H
               replace H:(if x344000_2.length < 35184372088832 then (rushlightref05_Assemble.l1 k2 l0 t337 x4_1 x6_1 t344 (wrap64 (x8_2 + 1)) (x344000_2 ++ [t357]) x344001_1 0) else (none)) = some (r1,r2,r3):=H
               have A38:=Aside0.mk A380
               clear A380
               by_cases c39:x344000_2.length < 35184372088832
               ·rw [if_pos c39] at H
                have LMc39:=Aside0.mk c39
                clear c39
                obtain ⟨y358,hy358⟩:∃ y_:List Int,y_ = (x344000_2 ++ [t357]):=⟨_,rfl⟩
                replace H:(rushlightref05_Assemble.l1 k2 l0 t337 x4_1 x6_1 t344 (wrap64 (x8_2 + 1)) y358 x344001_1 0) = some (r1,r2,r3):=by first|(rw [hy358];with_reducible exact H)|(have H2_:=(Option.bind_some _ _).symm.trans H;rw [hy358];with_reducible exact H2_)|(have H2_:=(Option.bind_some _ _).symm.trans H;with_reducible exact H2_)|with_reducible exact H|(rw [hy358];exact H)|exact H
                have Ny358:=Aside0.mk hy358
                clear hy358
                have H':=Aside0.mk H
                clear H
                obtain ⟨Ao40,co40,eo40⟩:=Kd.R_slice HO_7.out
                subst eo40
                have p347:0≤(x8_2:Int):=of_decide_eq_true zmb17_3
                have q347:x8_2 < (t344.length:Int):=of_decide_eq_true zmb17_3
                obtain ⟨ad347,e347,hx347_0,hx347_1,hx347_2,hx347_3,hx347_4⟩:=at_T46 (Kd.R_reads' HO_7.out).2.2 x8_2 p347 q347
                cases e347
                replace p347:=eq_true p347
                replace q347:=eq_true q347
                have p348:0≤(x6_1:Int):=of_decide_eq_true zmb17_3
                have q348:x6_1 < (l0.length:Int):=of_decide_eq_true zmb17_3
                obtain ⟨ad348,e348,hx348_0,hx348_1,hx348_2,hx348_3,hx348_4,hx348_5,hx348_6⟩:=at_T48 HR0.out x6_1 p348 q348
                cases e348
                replace hx348_0:=(HB.out.cell (World.block_lt_of_cell? w _ hx348_0)).trans hx348_0
                replace hx348_1:=(HB.out.cell (World.block_lt_of_cell? w _ hx348_1)).trans hx348_1
                replace hx348_2:=(HB.out.cell (World.block_lt_of_cell? w _ hx348_2)).trans hx348_2
                replace hx348_3:=(HB.out.cell (World.block_lt_of_cell? w _ hx348_3)).trans hx348_3
                replace hx348_4:=(HB.out.cell (World.block_lt_of_cell? w _ hx348_4)).trans hx348_4
                replace hx348_5:=(HB.out.cell (World.block_lt_of_cell? w _ hx348_5)).trans hx348_5
                replace hx348_6:=(HB.out.cell (World.block_lt_of_cell? w _ hx348_6)).trans hx348_6
                replace p348:=eq_true p348
                replace q348:=eq_true q348
                have p354:0≤(x8_2:Int):=of_decide_eq_true zmb17_3
                have q354:x8_2 < (t344.length:Int):=of_decide_eq_true zmb17_3
                obtain ⟨ad354,e354,hx354_0,hx354_1,hx354_2,hx354_3,hx354_4⟩:=at_T46 (Kd.R_reads' HO_7.out).2.2 x8_2 p354 q354
                obtain rfl:ad347 = ad354:=(by injection e354)
                replace p354:=eq_true p354
                replace q354:=eq_true q354
                have p355:0≤(x8_2:Int):=of_decide_eq_true zmb17_3
                have q355:x8_2 < (t344.length:Int):=of_decide_eq_true zmb17_3
                obtain ⟨ad355,e355,hx355_0,hx355_1,hx355_2,hx355_3,hx355_4⟩:=at_T46 (Kd.R_reads' HO_7.out).2.2 x8_2 p355 q355
                obtain rfl:ad347 = ad355:=(by injection e355)
                replace p355:=eq_true p355
                replace q355:=eq_true q355
                try go_wp2
                have n0_:=Aside0.mk (Kd.R_drew HO_3.out)
                have n1_:=Aside0.mk (Kd.R_drew HO_4.out)
                have n2_:=Aside0.mk (Kd.R_drew HO_7.out)
                have n3_:=Aside0.mk (Kd.R_drew HO_344000.out)
                have n4_:=Aside0.mk (Kd.R_drew HO_344001.out)
                have n5_:=Aside0.mk (blk_drew BK334.out)
                have n6_:=Aside0.mk (blk_drew BK343.out)
                have n7_:=Aside0.mk (below_drew1 HB.out)
                clear HO_3
                clear HO_4
                clear HO_7
                clear HO_344000
                clear HO_344001
                clear BK334
                clear BK343
                clear HB
                have HO_3:=n0_
                have HO_4:=n1_
                have HO_7:=n2_
                have HO_344000:=n3_
                have HO_344001:=n4_
                have BK334:=n5_
                have BK343:=n6_
                have HB:=n7_
                clear n0_ n1_ n2_ n3_ n4_ n5_ n6_ n7_
                have p356:0≤(x8_2:Int):=of_decide_eq_true zmb17_3
                have q356:x8_2 < (t344.length:Int):=of_decide_eq_true zmb17_3
                obtain ⟨ad356,e356,hx356_0,hx356_1,hx356_2,hx356_3,hx356_4⟩:=at_T46 (Kd.R_reads' HO_7.out).2.2 x8_2 p356 q356
                obtain rfl:ad347 = ad356:=(by injection e356)
                replace p356:=eq_true p356
                replace q356:=eq_true q356
                refine start_ (n:=11) (S:=fun w'=>w'.cell? ⟨gb343,0,none⟩ = some (u344000)∧w'.cell? ⟨gb343,1,none⟩ = some (u344001)∧w'.cell? ⟨gb343,2,none⟩ = some (.int .i64 0)∧w'.cell? (ad347.add ((x8_2).toNat * 5)) = some (.int .i64 ((rd_T46 t344 x8_2).f0))∧w'.cell? ⟨(ad347.add ((x8_2).toNat * 5)).block,(ad347.add ((x8_2).toNat * 5)).off + 1,none⟩ = some (.int .i64 ((rd_T46 t344 x8_2).f1))∧w'.cell? ⟨(ad347.add ((x8_2).toNat * 5)).block,(ad347.add ((x8_2).toNat * 5)).off + 2,none⟩ = some (.int .i64 ((rd_T46 t344 x8_2).f2))∧w'.cell? ⟨(ad347.add ((x8_2).toNat * 5)).block,(ad347.add ((x8_2).toNat * 5)).off + 3,none⟩ = some (.int .i64 ((rd_T46 t344 x8_2).f3))∧w'.cell? ⟨(ad347.add ((x8_2).toNat * 5)).block,(ad347.add ((x8_2).toNat * 5)).off + 4,none⟩ = some (.int .i64 ((rd_T46 t344 x8_2).f4))) (ds:=[8,10]) #[false,false,false,false,false,false,false,false,false,false,false] (by kernel_rfl) rfl rfl ⟨(blk_cell BK343.out 0).trans rfl,(blk_cell BK343.out 1).trans rfl,(blk_cell BK343.out 2).trans rfl,hx356_0,hx356_1,hx356_2,hx356_3,hx356_4⟩ (fun hHeld=>?_);refine with_tabW rushlightref05_Assemble.tab15 rushlightref05_Assemble.bits15 (fun HT_ HW_=>?_)
                generalize wr.drew = w41 at HO_3 HO_4 HO_7 HO_344000 HO_344001 BK334 BK343 HB hx356_0 hx356_1 hx356_2 hx356_3 hx356_4 hHeld ⊢
                refine pure_ (i:=0) (N:=some 68) (v:=?_) (a':=?_) #[true,false,false,false,false,false,false,false,false,false,false] rfl rfl (any_of HT_.out (by kernel_rfl)) (fun _ _ _ h=>h) (Or.inl ⟨by rfl,?_⟩) ?_ ?_
                rotate_left
                ·intro w'
                 go_simp
                 with_reducible rfl
                rotate_left
                ·simp only [Act.put,List.setIfInBounds_toArray,List.set_cons_zero,List.set_cons_succ,i64_w,i32_w]
                 rfl
                refine pure_ (i:=2) (N:=some 70) (v:=?_) (a':=?_) #[true,false,true,false,false,false,false,false,false,false,false] rfl rfl (any_of HT_.out (by kernel_rfl)) (fun _ _ _ h=>h) (Or.inl ⟨by rfl,?_⟩) ?_ ?_
                rotate_left
                ·intro w'
                 go_simp
                 with_reducible rfl
                rotate_left
                ·simp only [Act.put,List.setIfInBounds_toArray,List.set_cons_zero,List.set_cons_succ,i64_w,i32_w]
                 rfl
                refine pure_ (i:=3) (N:=some 71) (v:=?_) (a':=?_) #[true,false,true,true,false,false,false,false,false,false,false] rfl rfl (any_of HT_.out (by kernel_rfl)) (fun _ _ _ h=>h) (Or.inl ⟨by rfl,?_⟩) ?_ ?_
                rotate_left
                ·intro w'
                 go_simp
                 with_reducible rfl
                rotate_left
                ·simp only [Act.put,List.setIfInBounds_toArray,List.set_cons_zero,List.set_cons_succ,i64_w,i32_w]
                 rfl
                refine pure_ (i:=4) (N:=some 72) (v:=?_) (a':=?_) #[true,false,true,true,true,false,false,false,false,false,false] rfl rfl (any_of HT_.out (by kernel_rfl)) (fun _ _ _ h=>h) (Or.inl ⟨by rfl,?_⟩) ?_ ?_
                rotate_left
                ·intro w'
                 go_simp
                 with_reducible rfl
                rotate_left
                ·simp only [Act.put,List.setIfInBounds_toArray,List.set_cons_zero,List.set_cons_succ,i64_w,i32_w]
                 rfl
                refine take_ (i:=1) (N:=some 69) (v:=?_) (a':=?_) #[true,true,true,true,true,false,false,false,false,false,false] rfl rfl (take_ofW HT_.out HW_.out (by kernel_rfl)) (fun _ _ _ h=>h) (Or.inl ⟨by rfl,?_⟩) hHeld ?_ ?_
                rotate_left
                ·rintro w' ⟨s0,s1,s2,s3,s4,s5,s6,s7⟩
                 go_simp
                 with_reducible rfl
                rotate_left
                ·simp only [Act.put,List.setIfInBounds_toArray,List.set_cons_zero,List.set_cons_succ,i64_w,i32_w]
                 rfl
                refine take_ (i:=5) (N:=some 73) (v:=?_) (a':=?_) #[true,true,true,true,true,true,false,false,false,false,false] rfl rfl (take_ofW HT_.out HW_.out (by kernel_rfl)) (fun _ _ _ h=>h) (Or.inl ⟨by rfl,?_⟩) hHeld ?_ ?_
                rotate_left
                ·rintro w' ⟨s0,s1,s2,s3,s4,s5,s6,s7⟩
                 go_simp
                 with_reducible rfl
                rotate_left
                ·simp only [Act.put,List.setIfInBounds_toArray,List.set_cons_zero,List.set_cons_succ,i64_w,i32_w]
                 rfl
                refine one_ (i:=6) (N:=some 74) #[true,true,true,true,true,true,true,false,false,false,false] rfl rfl (one_of HT_.out (by kernel_rfl)) (by decide) (fun K hK=>?_)
                refine goes_ Try.func34 (by kernel_rfl) rfl #[.agg #[.int .i64 ((rd_T46 t344 x8_2).f0),.int .i64 ((rd_T46 t344 x8_2).f1),.int .i64 ((rd_T46 t344 x8_2).f2),.int .i64 ((rd_T46 t344 x8_2).f3),.int .i64 ((rd_T46 t344 x8_2).f4)]] (by rfl) rfl rfl zmb17_5 ?_
                with_reducible refine (rushlightref02_Word.calls k2 ((rd_T46 t344 x8_2).f0) ((rd_T46 t344 x8_2).f1) ((rd_T46 t344 x8_2).f2) ((rd_T46 t344 x8_2).f3) ((rd_T46 t344 x8_2).f4) t357 _ A38.out).mono ?_
                rintro e w42 ⟨rfl,hb⟩
                have HS3_:=(hb.cell (World.block_lt_of_cell? _ _ (hHeld.2.2.2.1))).trans (hHeld.2.2.2.1)
                have HS4_:=(hb.cell (World.block_lt_of_cell? _ _ (hHeld.2.2.2.2.1))).trans (hHeld.2.2.2.2.1)
                have HS5_:=(hb.cell (World.block_lt_of_cell? _ _ (hHeld.2.2.2.2.2.1))).trans (hHeld.2.2.2.2.2.1)
                have HS6_:=(hb.cell (World.block_lt_of_cell? _ _ (hHeld.2.2.2.2.2.2.1))).trans (hHeld.2.2.2.2.2.2.1)
                have HS7_:=(hb.cell (World.block_lt_of_cell? _ _ (hHeld.2.2.2.2.2.2.2))).trans (hHeld.2.2.2.2.2.2.2)
                refine ⟨_,rfl,?_⟩
                have n0_:=Aside0.mk (Kd.R_below zmb17_12 hb)
                have n1_:=Aside0.mk (Kd.R_below zmb17_13 hb)
                have n2_:=Aside0.mk (Kd.R_below zmb17_16 hb)
                have n3_:=Aside0.mk (Kd.R_below zmb17_14 hb)
                have n4_:=Aside0.mk (Kd.R_below zmb17_15 hb)
                have n5_:=Aside0.mk (blk_below (g:=gb334) (o:=.cells #[.slice none 0 0,.slice none 0 0,.int .i64 x335002_2] 31 (0,0)) zmb17_6 hb)
                have n6_:=Aside0.mk (blk_below (g:=gb343) (o:=.cells #[u344000,u344001,.int .i64 0] 31 (0,0)) zmb17_10 hb)
                have n7_:=Aside0.mk (below_step zmb17_11 hb)
                clear HO_3
                clear HO_4
                clear HO_7
                clear HO_344000
                clear HO_344001
                clear BK334
                clear BK343
                clear HB
                have HO_3:=n0_
                have HO_4:=n1_
                have HO_7:=n2_
                have HO_344000:=n3_
                have HO_344001:=n4_
                have BK334:=n5_
                have BK343:=n6_
                have HB:=n7_
                clear n0_ n1_ n2_ n3_ n4_ n5_ n6_ n7_
                (try clear hb)
                (try clear hb2)
                (try clear hk)
                (try clear hi)
                refine hK.out _ _ ⟨(blk_cell BK343.out 0).trans rfl,(blk_cell BK343.out 1).trans rfl,(blk_cell BK343.out 2).trans rfl,HS3_,HS4_,HS5_,HS6_,HS7_⟩ (fun hHeld=>?_)
                clear hK K
                refine norm_ (a':=?_) ?_ ?_
                rotate_left
                ·show Act.put _ (some 74) _ = _
                 simp only [Act.put,List.setIfInBounds_toArray,List.set_cons_zero,List.set_cons_succ,i64_w,i32_w]
                 rfl
                refine one_ (i:=7) (N:=some 75) #[true,true,true,true,true,true,true,true,false,false,false] rfl rfl (one_of HT_.out (by kernel_rfl)) (by decide) (fun K hK=>?_)
                refine value_ (w1:=?_) (v:=?_) (by rfl) rfl ?_ ?_
                rotate_left 2
                ·go_simp
                 constructor
                 ·rfl
                 ·rfl
                refine hK.out _ _ ⟨(blk_cell (blk_alloc BK343.out _) 0).trans rfl,(blk_cell (blk_alloc BK343.out _) 1).trans rfl,(blk_cell (blk_alloc BK343.out _) 2).trans rfl,(World.cell?_alloc_lt _ _ _ (World.block_lt_of_cell? _ _ (hHeld.2.2.2.1))).trans (hHeld.2.2.2.1),(World.cell?_alloc_lt _ _ _ (World.block_lt_of_cell? _ _ (hHeld.2.2.2.2.1))).trans (hHeld.2.2.2.2.1),(World.cell?_alloc_lt _ _ _ (World.block_lt_of_cell? _ _ (hHeld.2.2.2.2.2.1))).trans (hHeld.2.2.2.2.2.1),(World.cell?_alloc_lt _ _ _ (World.block_lt_of_cell? _ _ (hHeld.2.2.2.2.2.2.1))).trans (hHeld.2.2.2.2.2.2.1),(World.cell?_alloc_lt _ _ _ (World.block_lt_of_cell? _ _ (hHeld.2.2.2.2.2.2.2))).trans (hHeld.2.2.2.2.2.2.2)⟩ (fun hHeld=>?_)
                clear hK K
                refine norm_ (a':=?_) ?_ ?_
                rotate_left
                ·show Act.put _ (some 75) _ = _
                 simp only [Act.put,List.setIfInBounds_toArray,List.set_cons_zero,List.set_cons_succ,i64_w,i32_w]
                 rfl
                refine last_ (i:=8) (N:=some 76) #[true,true,true,true,true,true,true,true,true,false,false] rfl rfl (one_of HT_.out (by kernel_rfl)) (by decide) (fun K hK=>?_)
                refine Kd.R_append_step (Kd.int .u32) (w0:=w) w.heap.size (by rfl) (.tmp 69) (.tmp 75) 25 35 (.int .u32 0) 4 rfl Try.underlying25 info35 rfl (by decide) (by omega) u344000 x344000_2 t357 [.int .u32 t357] (fun _=>True) (fun _=>False) rfl rfl ?aP (fun _ hk=>hk.elim) ?aF ?aO ?aB ?aS ?aL ?_
                (case aP=>exact rfl)
                (case aB=>exact zmb17_11)
                (case aF=>exact (fun _ _=>trivial))
                (case aO=>exact zmb17_14)
                (case aS=>exact (below_size zmb17_11))
                (case aL=>have:=LMc39.out;omega)
                intro v359 w43 ho hb hg hat
                rw [← Ny358.out] at ho
                have n0_:=Aside0.mk (Kd.R_over' zmb17_12 (Kd.R_typed zmb17_14) (by decide) hg)
                have n1_:=Aside0.mk (Kd.R_over' zmb17_13 (Kd.R_typed zmb17_14) (by decide) hg)
                have n2_:=Aside0.mk (Kd.R_over' zmb17_16 (Kd.R_typed zmb17_14) (by decide) hg)
                have n3_:=Aside0.mk (Kd.R_over' zmb17_15 (Kd.R_typed zmb17_14) (by decide) hg)
                have n4_:=Aside0.mk (blk_grown (g:=gb334) (o:=.cells #[.slice none 0 0,.slice none 0 0,.int .i64 x335002_2] 31 (0,0)) zmb17_6 hg (Kd.R_ne HO_344000.out BK334.out (by decide)))
                have n5_:=Aside0.mk (blk_grown (g:=gb343) (o:=.cells #[u344000,u344001,.int .i64 0] 31 (0,0)) zmb17_10 hg (Kd.R_ne HO_344000.out BK343.out (by decide)))
                have n6_:=Aside0.mk (hb)
                have n7_:=Aside0.mk (ho)
                clear HO_3
                clear HO_4
                clear HO_7
                clear HO_344001
                clear BK334
                clear BK343
                clear HB
                clear HO_344000
                have HO_3:=n0_
                have HO_4:=n1_
                have HO_7:=n2_
                have HO_344001:=n3_
                have BK334:=n4_
                have BK343:=n5_
                have HB:=n6_
                have HO360:=n7_
                clear n0_ n1_ n2_ n3_ n4_ n5_ n6_ n7_
                clear ho hb hg hat
                obtain ⟨Ao44,co44,eo44⟩:=Kd.R_slice HO360.out
                (first|subst eo44|(injection eo44 with f1_ f2_ f3_;have f4_:=f1_.symm;have f5_:=f3_.symm;clear f1_ f2_ f3_;subst f4_;subst f5_))
                refine hK.out _ _ ?_
                clear hK K
                refine norm_ (a':=?_) ?_ ?_
                rotate_left
                ·show Act.put _ (some 76) _ = _
                 simp only [Act.put,List.setIfInBounds_toArray,List.set_cons_zero,List.set_cons_succ,i64_w,i32_w]
                 rfl
                refine pure_ (i:=9) (N:=some 77) (v:=?_) (a':=?_) #[true,true,true,true,true,true,true,true,true,true,false] rfl rfl (any_of HT_.out (by kernel_rfl)) (fun _ _ _ h=>h) (Or.inl ⟨by rfl,?_⟩) ?_ ?_
                rotate_left
                ·intro w'
                 go_simp
                 with_reducible rfl
                rotate_left
                ·simp only [Act.put,List.setIfInBounds_toArray,List.set_cons_zero,List.set_cons_succ,i64_w,i32_w]
                 rfl
                refine last_ (i:=10) (N:=none) #[true,true,true,true,true,true,true,true,true,true,true] rfl rfl (one_of HT_.out (by kernel_rfl)) (by decide) (fun K hK=>?_)
                have hs45:w43.cell? ⟨gb343,0,none⟩ = some (u344000):=(blk_cell BK343.out 0).trans rfl
                have hfs45:=blk_frozen BK343.out 0
                have hns45_0:=NB334_343.out
                have hms45_0:=NB343_334.out
                refine skip_ (w1:=?_) (by rfl) rfl ?_ ?_
                rotate_left
                ·go_simp
                 rfl
                refine hK.out _ _ ?_
                clear hK K
                refine done_ (done_of HT_.out (by kernel_rfl)) ?_
                try go_wp2
                go_roundg k2
                case measure=>have:=HK1.out;have:=HK2.out;omega
                case rel=>exact ⟨(wrap64 (x8_2 + 1)),(x335002_2),(y358),(.slice Ao44 y358.length co44),zmb17_2,H',⟨zmb17_17⟩,⟨by (with_reducible repeat (first|apply Kd.R_alloc|apply Kd.R_drewN|apply Kd.R_drew));exact Kd.R_mono (Kd.R_far (p:=⟨gb343,0,none⟩) (Kd.R_types HO_3.out BK343.out (by decide)) (fun _ hk=>hk.2) (.slice Ao44 y358.length co44)) (fun _ hk=>trivial)⟩,⟨by (with_reducible repeat (first|apply Kd.R_alloc|apply Kd.R_drewN|apply Kd.R_drew));exact Kd.R_mono (Kd.R_far (p:=⟨gb343,0,none⟩) (Kd.R_types HO_4.out BK343.out (by decide)) (fun _ hk=>hk.2) (.slice Ao44 y358.length co44)) (fun _ hk=>hk.1)⟩,⟨by (with_reducible repeat (first|apply Kd.R_alloc|apply Kd.R_drewN|apply Kd.R_drew));exact Kd.R_mono (Kd.R_far (p:=⟨gb343,0,none⟩) (Kd.R_types HO_7.out BK343.out (by decide)) (fun _ hk=>hk.2) (.slice Ao44 y358.length co44)) (fun _ hk=>trivial)⟩,⟨by (with_reducible repeat (first|apply Kd.R_alloc|apply Kd.R_drewN|apply Kd.R_drew));exact Kd.R_mono (Kd.R_far (p:=⟨gb343,0,none⟩) (Kd.R_types HO360.out BK343.out (by decide)) (fun _ hk=>hk.2) (.slice Ao44 y358.length co44)) (fun _ hk=>trivial)⟩,⟨by (with_reducible repeat (first|apply Kd.R_alloc|apply Kd.R_drewN|apply Kd.R_drew));exact Kd.R_mono (Kd.R_far (p:=⟨gb343,0,none⟩) (Kd.R_types HO_344001.out BK343.out (by decide)) (fun _ hk=>hk.2) (.slice Ao44 y358.length co44)) (fun _ hk=>hk.1)⟩,⟨zmb17_18⟩,⟨zmb17_19⟩,⟨zmb17_11⟩⟩
               ·rw [if_neg c39] at H
                exact absurd H (by simp)
           ·rw [if_neg c20] at H
            exact absurd H (by simp)
          ·rw [if_neg c19] at H
           exact absurd H (by simp)
         ·rw [if_neg c18] at H
          have c18b0:(((rd_T46 t344 x8_2).f0) == 3) = false:=beq_eq_false_iff_ne.mpr c18
          have c18b1:(((rd_T46 t344 x8_2).f0) != 3) = true:=bne_iff_ne.mpr c18
          replace H:=Option.bind_eq_some_iff.mp H
          obtain ⟨t362,A460,H⟩:=H
          replace H:(if x344000_2.length < 35184372088832 then (rushlightref05_Assemble.l1 k2 l0 t337 x4_1 x6_1 t344 (wrap64 (x8_2 + 1)) (x344000_2 ++ [t362]) x344001_1 0) else (none)) = some (r1,r2,r3):=H
          have A46:=Aside0.mk A460
          clear A460
          by_cases c47:x344000_2.length < 35184372088832
          ·rw [if_pos c47] at H
           have LMc47:=Aside0.mk c47
           clear c47
           obtain ⟨y363,hy363⟩:∃ y_:List Int,y_ = (x344000_2 ++ [t362]):=⟨_,rfl⟩
           replace H:(rushlightref05_Assemble.l1 k2 l0 t337 x4_1 x6_1 t344 (wrap64 (x8_2 + 1)) y363 x344001_1 0) = some (r1,r2,r3):=by first|(rw [hy363];with_reducible exact H)|(have H2_:=(Option.bind_some _ _).symm.trans H;rw [hy363];with_reducible exact H2_)|(have H2_:=(Option.bind_some _ _).symm.trans H;with_reducible exact H2_)|with_reducible exact H|(rw [hy363];exact H)|exact H
           have Ny363:=Aside0.mk hy363
           clear hy363
           have H':=Aside0.mk H
           clear H
           obtain ⟨Ao48,co48,eo48⟩:=Kd.R_slice HO_7.out
           subst eo48
           have p347:0≤(x8_2:Int):=of_decide_eq_true zmb17_3
           have q347:x8_2 < (t344.length:Int):=of_decide_eq_true zmb17_3
           obtain ⟨ad347,e347,hx347_0,hx347_1,hx347_2,hx347_3,hx347_4⟩:=at_T46 (Kd.R_reads' HO_7.out).2.2 x8_2 p347 q347
           cases e347
           replace p347:=eq_true p347
           replace q347:=eq_true q347
           try go_wp2
           have n0_:=Aside0.mk (Kd.R_drew HO_3.out)
           have n1_:=Aside0.mk (Kd.R_drew HO_4.out)
           have n2_:=Aside0.mk (Kd.R_drew HO_7.out)
           have n3_:=Aside0.mk (Kd.R_drew HO_344000.out)
           have n4_:=Aside0.mk (Kd.R_drew HO_344001.out)
           have n5_:=Aside0.mk (blk_drew BK334.out)
           have n6_:=Aside0.mk (blk_drew BK343.out)
           have n7_:=Aside0.mk (below_drew1 HB.out)
           clear HO_3
           clear HO_4
           clear HO_7
           clear HO_344000
           clear HO_344001
           clear BK334
           clear BK343
           clear HB
           have HO_3:=n0_
           have HO_4:=n1_
           have HO_7:=n2_
           have HO_344000:=n3_
           have HO_344001:=n4_
           have BK334:=n5_
           have BK343:=n6_
           have HB:=n7_
           clear n0_ n1_ n2_ n3_ n4_ n5_ n6_ n7_
           have p361:0≤(x8_2:Int):=of_decide_eq_true zmb17_3
           have q361:x8_2 < (t344.length:Int):=of_decide_eq_true zmb17_3
           obtain ⟨ad361,e361,hx361_0,hx361_1,hx361_2,hx361_3,hx361_4⟩:=at_T46 (Kd.R_reads' HO_7.out).2.2 x8_2 p361 q361
           obtain rfl:ad347 = ad361:=(by injection e361)
           replace p361:=eq_true p361
           replace q361:=eq_true q361
           refine start_ (n:=11) (S:=fun w'=>w'.cell? ⟨gb343,0,none⟩ = some (u344000)∧w'.cell? ⟨gb343,1,none⟩ = some (u344001)∧w'.cell? ⟨gb343,2,none⟩ = some (.int .i64 0)∧w'.cell? (ad347.add ((x8_2).toNat * 5)) = some (.int .i64 ((rd_T46 t344 x8_2).f0))∧w'.cell? ⟨(ad347.add ((x8_2).toNat * 5)).block,(ad347.add ((x8_2).toNat * 5)).off + 1,none⟩ = some (.int .i64 ((rd_T46 t344 x8_2).f1))∧w'.cell? ⟨(ad347.add ((x8_2).toNat * 5)).block,(ad347.add ((x8_2).toNat * 5)).off + 2,none⟩ = some (.int .i64 ((rd_T46 t344 x8_2).f2))∧w'.cell? ⟨(ad347.add ((x8_2).toNat * 5)).block,(ad347.add ((x8_2).toNat * 5)).off + 3,none⟩ = some (.int .i64 ((rd_T46 t344 x8_2).f3))∧w'.cell? ⟨(ad347.add ((x8_2).toNat * 5)).block,(ad347.add ((x8_2).toNat * 5)).off + 4,none⟩ = some (.int .i64 ((rd_T46 t344 x8_2).f4))) (ds:=[8,10]) #[false,false,false,false,false,false,false,false,false,false,false] (by kernel_rfl) rfl rfl ⟨(blk_cell BK343.out 0).trans rfl,(blk_cell BK343.out 1).trans rfl,(blk_cell BK343.out 2).trans rfl,hx361_0,hx361_1,hx361_2,hx361_3,hx361_4⟩ (fun hHeld=>?_);refine with_tabW rushlightref05_Assemble.tab15 rushlightref05_Assemble.bits15 (fun HT_ HW_=>?_)
           generalize wr.drew = w49 at HO_3 HO_4 HO_7 HO_344000 HO_344001 BK334 BK343 HB hx361_0 hx361_1 hx361_2 hx361_3 hx361_4 hHeld ⊢
           refine pure_ (i:=0) (N:=some 68) (v:=?_) (a':=?_) #[true,false,false,false,false,false,false,false,false,false,false] rfl rfl (any_of HT_.out (by kernel_rfl)) (fun _ _ _ h=>h) (Or.inl ⟨by rfl,?_⟩) ?_ ?_
           rotate_left
           ·intro w'
            go_simp
            with_reducible rfl
           rotate_left
           ·simp only [Act.put,List.setIfInBounds_toArray,List.set_cons_zero,List.set_cons_succ,i64_w,i32_w]
            rfl
           refine pure_ (i:=2) (N:=some 70) (v:=?_) (a':=?_) #[true,false,true,false,false,false,false,false,false,false,false] rfl rfl (any_of HT_.out (by kernel_rfl)) (fun _ _ _ h=>h) (Or.inl ⟨by rfl,?_⟩) ?_ ?_
           rotate_left
           ·intro w'
            go_simp
            with_reducible rfl
           rotate_left
           ·simp only [Act.put,List.setIfInBounds_toArray,List.set_cons_zero,List.set_cons_succ,i64_w,i32_w]
            rfl
           refine pure_ (i:=3) (N:=some 71) (v:=?_) (a':=?_) #[true,false,true,true,false,false,false,false,false,false,false] rfl rfl (any_of HT_.out (by kernel_rfl)) (fun _ _ _ h=>h) (Or.inl ⟨by rfl,?_⟩) ?_ ?_
           rotate_left
           ·intro w'
            go_simp
            with_reducible rfl
           rotate_left
           ·simp only [Act.put,List.setIfInBounds_toArray,List.set_cons_zero,List.set_cons_succ,i64_w,i32_w]
            rfl
           refine pure_ (i:=4) (N:=some 72) (v:=?_) (a':=?_) #[true,false,true,true,true,false,false,false,false,false,false] rfl rfl (any_of HT_.out (by kernel_rfl)) (fun _ _ _ h=>h) (Or.inl ⟨by rfl,?_⟩) ?_ ?_
           rotate_left
           ·intro w'
            go_simp
            with_reducible rfl
           rotate_left
           ·simp only [Act.put,List.setIfInBounds_toArray,List.set_cons_zero,List.set_cons_succ,i64_w,i32_w]
            rfl
           refine take_ (i:=1) (N:=some 69) (v:=?_) (a':=?_) #[true,true,true,true,true,false,false,false,false,false,false] rfl rfl (take_ofW HT_.out HW_.out (by kernel_rfl)) (fun _ _ _ h=>h) (Or.inl ⟨by rfl,?_⟩) hHeld ?_ ?_
           rotate_left
           ·rintro w' ⟨s0,s1,s2,s3,s4,s5,s6,s7⟩
            go_simp
            with_reducible rfl
           rotate_left
           ·simp only [Act.put,List.setIfInBounds_toArray,List.set_cons_zero,List.set_cons_succ,i64_w,i32_w]
            rfl
           refine take_ (i:=5) (N:=some 73) (v:=?_) (a':=?_) #[true,true,true,true,true,true,false,false,false,false,false] rfl rfl (take_ofW HT_.out HW_.out (by kernel_rfl)) (fun _ _ _ h=>h) (Or.inl ⟨by rfl,?_⟩) hHeld ?_ ?_
           rotate_left
           ·rintro w' ⟨s0,s1,s2,s3,s4,s5,s6,s7⟩
            go_simp
            with_reducible rfl
           rotate_left
           ·simp only [Act.put,List.setIfInBounds_toArray,List.set_cons_zero,List.set_cons_succ,i64_w,i32_w]
            rfl
           refine one_ (i:=6) (N:=some 74) #[true,true,true,true,true,true,true,false,false,false,false] rfl rfl (one_of HT_.out (by kernel_rfl)) (by decide) (fun K hK=>?_)
           refine goes_ Try.func34 (by kernel_rfl) rfl #[.agg #[.int .i64 ((rd_T46 t344 x8_2).f0),.int .i64 ((rd_T46 t344 x8_2).f1),.int .i64 ((rd_T46 t344 x8_2).f2),.int .i64 ((rd_T46 t344 x8_2).f3),.int .i64 ((rd_T46 t344 x8_2).f4)]] (by rfl) rfl rfl zmb17_5 ?_
           with_reducible refine (rushlightref02_Word.calls k2 ((rd_T46 t344 x8_2).f0) ((rd_T46 t344 x8_2).f1) ((rd_T46 t344 x8_2).f2) ((rd_T46 t344 x8_2).f3) ((rd_T46 t344 x8_2).f4) t362 _ A46.out).mono ?_
           rintro e w50 ⟨rfl,hb⟩
           have HS3_:=(hb.cell (World.block_lt_of_cell? _ _ (hHeld.2.2.2.1))).trans (hHeld.2.2.2.1)
           have HS4_:=(hb.cell (World.block_lt_of_cell? _ _ (hHeld.2.2.2.2.1))).trans (hHeld.2.2.2.2.1)
           have HS5_:=(hb.cell (World.block_lt_of_cell? _ _ (hHeld.2.2.2.2.2.1))).trans (hHeld.2.2.2.2.2.1)
           have HS6_:=(hb.cell (World.block_lt_of_cell? _ _ (hHeld.2.2.2.2.2.2.1))).trans (hHeld.2.2.2.2.2.2.1)
           have HS7_:=(hb.cell (World.block_lt_of_cell? _ _ (hHeld.2.2.2.2.2.2.2))).trans (hHeld.2.2.2.2.2.2.2)
           refine ⟨_,rfl,?_⟩
           have n0_:=Aside0.mk (Kd.R_below zmb17_12 hb)
           have n1_:=Aside0.mk (Kd.R_below zmb17_13 hb)
           have n2_:=Aside0.mk (Kd.R_below zmb17_16 hb)
           have n3_:=Aside0.mk (Kd.R_below zmb17_14 hb)
           have n4_:=Aside0.mk (Kd.R_below zmb17_15 hb)
           have n5_:=Aside0.mk (blk_below (g:=gb334) (o:=.cells #[.slice none 0 0,.slice none 0 0,.int .i64 x335002_2] 31 (0,0)) zmb17_6 hb)
           have n6_:=Aside0.mk (blk_below (g:=gb343) (o:=.cells #[u344000,u344001,.int .i64 0] 31 (0,0)) zmb17_10 hb)
           have n7_:=Aside0.mk (below_step zmb17_11 hb)
           clear HO_3
           clear HO_4
           clear HO_7
           clear HO_344000
           clear HO_344001
           clear BK334
           clear BK343
           clear HB
           have HO_3:=n0_
           have HO_4:=n1_
           have HO_7:=n2_
           have HO_344000:=n3_
           have HO_344001:=n4_
           have BK334:=n5_
           have BK343:=n6_
           have HB:=n7_
           clear n0_ n1_ n2_ n3_ n4_ n5_ n6_ n7_
           (try clear hb)
           (try clear hb2)
           (try clear hk)
           (try clear hi)
           refine hK.out _ _ ⟨(blk_cell BK343.out 0).trans rfl,(blk_cell BK343.out 1).trans rfl,(blk_cell BK343.out 2).trans rfl,HS3_,HS4_,HS5_,HS6_,HS7_⟩ (fun hHeld=>?_)
           clear hK K
           refine norm_ (a':=?_) ?_ ?_
           rotate_left
           ·show Act.put _ (some 74) _ = _
            simp only [Act.put,List.setIfInBounds_toArray,List.set_cons_zero,List.set_cons_succ,i64_w,i32_w]
            rfl
           refine one_ (i:=7) (N:=some 75) #[true,true,true,true,true,true,true,true,false,false,false] rfl rfl (one_of HT_.out (by kernel_rfl)) (by decide) (fun K hK=>?_)
           refine value_ (w1:=?_) (v:=?_) (by rfl) rfl ?_ ?_
           rotate_left 2
           ·go_simp
            constructor
            ·rfl
            ·rfl
           refine hK.out _ _ ⟨(blk_cell (blk_alloc BK343.out _) 0).trans rfl,(blk_cell (blk_alloc BK343.out _) 1).trans rfl,(blk_cell (blk_alloc BK343.out _) 2).trans rfl,(World.cell?_alloc_lt _ _ _ (World.block_lt_of_cell? _ _ (hHeld.2.2.2.1))).trans (hHeld.2.2.2.1),(World.cell?_alloc_lt _ _ _ (World.block_lt_of_cell? _ _ (hHeld.2.2.2.2.1))).trans (hHeld.2.2.2.2.1),(World.cell?_alloc_lt _ _ _ (World.block_lt_of_cell? _ _ (hHeld.2.2.2.2.2.1))).trans (hHeld.2.2.2.2.2.1),(World.cell?_alloc_lt _ _ _ (World.block_lt_of_cell? _ _ (hHeld.2.2.2.2.2.2.1))).trans (hHeld.2.2.2.2.2.2.1),(World.cell?_alloc_lt _ _ _ (World.block_lt_of_cell? _ _ (hHeld.2.2.2.2.2.2.2))).trans (hHeld.2.2.2.2.2.2.2)⟩ (fun hHeld=>?_)
           clear hK K
           refine norm_ (a':=?_) ?_ ?_
           rotate_left
           ·show Act.put _ (some 75) _ = _
            simp only [Act.put,List.setIfInBounds_toArray,List.set_cons_zero,List.set_cons_succ,i64_w,i32_w]
            rfl
           refine last_ (i:=8) (N:=some 76) #[true,true,true,true,true,true,true,true,true,false,false] rfl rfl (one_of HT_.out (by kernel_rfl)) (by decide) (fun K hK=>?_)
           refine Kd.R_append_step (Kd.int .u32) (w0:=w) w.heap.size (by rfl) (.tmp 69) (.tmp 75) 25 35 (.int .u32 0) 4 rfl Try.underlying25 info35 rfl (by decide) (by omega) u344000 x344000_2 t362 [.int .u32 t362] (fun _=>True) (fun _=>False) rfl rfl ?aP (fun _ hk=>hk.elim) ?aF ?aO ?aB ?aS ?aL ?_
           (case aP=>exact rfl)
           (case aB=>exact zmb17_11)
           (case aF=>exact (fun _ _=>trivial))
           (case aO=>exact zmb17_14)
           (case aS=>exact (below_size zmb17_11))
           (case aL=>have:=LMc47.out;omega)
           intro v364 w51 ho hb hg hat
           rw [← Ny363.out] at ho
           have n0_:=Aside0.mk (Kd.R_over' zmb17_12 (Kd.R_typed zmb17_14) (by decide) hg)
           have n1_:=Aside0.mk (Kd.R_over' zmb17_13 (Kd.R_typed zmb17_14) (by decide) hg)
           have n2_:=Aside0.mk (Kd.R_over' zmb17_16 (Kd.R_typed zmb17_14) (by decide) hg)
           have n3_:=Aside0.mk (Kd.R_over' zmb17_15 (Kd.R_typed zmb17_14) (by decide) hg)
           have n4_:=Aside0.mk (blk_grown (g:=gb334) (o:=.cells #[.slice none 0 0,.slice none 0 0,.int .i64 x335002_2] 31 (0,0)) zmb17_6 hg (Kd.R_ne HO_344000.out BK334.out (by decide)))
           have n5_:=Aside0.mk (blk_grown (g:=gb343) (o:=.cells #[u344000,u344001,.int .i64 0] 31 (0,0)) zmb17_10 hg (Kd.R_ne HO_344000.out BK343.out (by decide)))
           have n6_:=Aside0.mk (hb)
           have n7_:=Aside0.mk (ho)
           clear HO_3
           clear HO_4
           clear HO_7
           clear HO_344001
           clear BK334
           clear BK343
           clear HB
           clear HO_344000
           have HO_3:=n0_
           have HO_4:=n1_
           have HO_7:=n2_
           have HO_344001:=n3_
           have BK334:=n4_
           have BK343:=n5_
           have HB:=n6_
           have HO365:=n7_
           clear n0_ n1_ n2_ n3_ n4_ n5_ n6_ n7_
           clear ho hb hg hat
           obtain ⟨Ao52,co52,eo52⟩:=Kd.R_slice HO365.out
           (first|subst eo52|(injection eo52 with f1_ f2_ f3_;have f4_:=f1_.symm;have f5_:=f3_.symm;clear f1_ f2_ f3_;subst f4_;subst f5_))
           refine hK.out _ _ ?_
           clear hK K
           refine norm_ (a':=?_) ?_ ?_
           rotate_left
           ·show Act.put _ (some 76) _ = _
            simp only [Act.put,List.setIfInBounds_toArray,List.set_cons_zero,List.set_cons_succ,i64_w,i32_w]
            rfl
           refine pure_ (i:=9) (N:=some 77) (v:=?_) (a':=?_) #[true,true,true,true,true,true,true,true,true,true,false] rfl rfl (any_of HT_.out (by kernel_rfl)) (fun _ _ _ h=>h) (Or.inl ⟨by rfl,?_⟩) ?_ ?_
           rotate_left
           ·intro w'
            go_simp
            with_reducible rfl
           rotate_left
           ·simp only [Act.put,List.setIfInBounds_toArray,List.set_cons_zero,List.set_cons_succ,i64_w,i32_w]
            rfl
           refine last_ (i:=10) (N:=none) #[true,true,true,true,true,true,true,true,true,true,true] rfl rfl (one_of HT_.out (by kernel_rfl)) (by decide) (fun K hK=>?_)
           have hs53:w51.cell? ⟨gb343,0,none⟩ = some (u344000):=(blk_cell BK343.out 0).trans rfl
           have hfs53:=blk_frozen BK343.out 0
           have hns53_0:=NB334_343.out
           have hms53_0:=NB343_334.out
           refine skip_ (w1:=?_) (by rfl) rfl ?_ ?_
           rotate_left
           ·go_simp
            rfl
           refine hK.out _ _ ?_
           clear hK K
           refine done_ (done_of HT_.out (by kernel_rfl)) ?_
           try go_wp2
           go_roundg k2
           case measure=>have:=HK1.out;have:=HK2.out;omega
           case rel=>exact ⟨(wrap64 (x8_2 + 1)),(x335002_2),(y363),(.slice Ao52 y363.length co52),zmb17_2,H',⟨zmb17_17⟩,⟨by (with_reducible repeat (first|apply Kd.R_alloc|apply Kd.R_drewN|apply Kd.R_drew));exact Kd.R_mono (Kd.R_far (p:=⟨gb343,0,none⟩) (Kd.R_types HO_3.out BK343.out (by decide)) (fun _ hk=>hk.2) (.slice Ao52 y363.length co52)) (fun _ hk=>trivial)⟩,⟨by (with_reducible repeat (first|apply Kd.R_alloc|apply Kd.R_drewN|apply Kd.R_drew));exact Kd.R_mono (Kd.R_far (p:=⟨gb343,0,none⟩) (Kd.R_types HO_4.out BK343.out (by decide)) (fun _ hk=>hk.2) (.slice Ao52 y363.length co52)) (fun _ hk=>hk.1)⟩,⟨by (with_reducible repeat (first|apply Kd.R_alloc|apply Kd.R_drewN|apply Kd.R_drew));exact Kd.R_mono (Kd.R_far (p:=⟨gb343,0,none⟩) (Kd.R_types HO_7.out BK343.out (by decide)) (fun _ hk=>hk.2) (.slice Ao52 y363.length co52)) (fun _ hk=>trivial)⟩,⟨by (with_reducible repeat (first|apply Kd.R_alloc|apply Kd.R_drewN|apply Kd.R_drew));exact Kd.R_mono (Kd.R_far (p:=⟨gb343,0,none⟩) (Kd.R_types HO365.out BK343.out (by decide)) (fun _ hk=>hk.2) (.slice Ao52 y363.length co52)) (fun _ hk=>trivial)⟩,⟨by (with_reducible repeat (first|apply Kd.R_alloc|apply Kd.R_drewN|apply Kd.R_drew));exact Kd.R_mono (Kd.R_far (p:=⟨gb343,0,none⟩) (Kd.R_types HO_344001.out BK343.out (by decide)) (fun _ hk=>hk.2) (.slice Ao52 y363.length co52)) (fun _ hk=>hk.1)⟩,⟨zmb17_18⟩,⟨zmb17_19⟩,⟨zmb17_11⟩⟩
          ·rw [if_neg c47] at H
           exact absurd H (by simp)
        ·rw [if_neg c17] at H
         exact absurd H (by simp)
       ·rw [if_neg c16] at H
        have c16b0:decide (x8_2 < (t344.length:Int)) = false:=decide_eq_false c16
        clear c16
        by_cases c54:0≤x6_1
        ·rw [if_pos c54] at H
         have c54b0:decide (0≤x6_1) = true:=decide_eq_true c54
         clear c54
         by_cases c55:x6_1 < (l0.length:Int)
         ·rw [if_pos c55] at H
          have c55b0:decide (x6_1 < (l0.length:Int)) = true:=decide_eq_true c55
          clear c55
          by_cases c56:((rd_T48 l0 x6_1).f0) = 2
          ·rw [if_pos c56] at H
           have c56b0:(((rd_T48 l0 x6_1).f0) == 2) = true:=beq_iff_eq.mpr c56
           have c56b1:(((rd_T48 l0 x6_1).f0) != 2) = false:=bne_eq_false_iff_eq.mpr c56
           clear c56
           have H':=Aside0.mk H
           clear H
           obtain ⟨Ao57,co57,eo57⟩:=Kd.R_slice HO_7.out
           subst eo57
           have p366:0≤(x6_1:Int):=of_decide_eq_true zmb17_3
           have q366:x6_1 < (l0.length:Int):=of_decide_eq_true zmb17_3
           obtain ⟨ad366,e366,hx366_0,hx366_1,hx366_2,hx366_3,hx366_4,hx366_5,hx366_6⟩:=at_T48 HR0.out x6_1 p366 q366
           cases e366
           replace hx366_0:=(HB.out.cell (World.block_lt_of_cell? w _ hx366_0)).trans hx366_0
           replace hx366_1:=(HB.out.cell (World.block_lt_of_cell? w _ hx366_1)).trans hx366_1
           replace hx366_2:=(HB.out.cell (World.block_lt_of_cell? w _ hx366_2)).trans hx366_2
           replace hx366_3:=(HB.out.cell (World.block_lt_of_cell? w _ hx366_3)).trans hx366_3
           replace hx366_4:=(HB.out.cell (World.block_lt_of_cell? w _ hx366_4)).trans hx366_4
           replace hx366_5:=(HB.out.cell (World.block_lt_of_cell? w _ hx366_5)).trans hx366_5
           replace hx366_6:=(HB.out.cell (World.block_lt_of_cell? w _ hx366_6)).trans hx366_6
           replace p366:=eq_true p366
           replace q366:=eq_true q366
           go_wp2
           go_loopg [] k2 (fun kq w'=>∃ (x344001_3:List Int) (u344001:Value),Aside0 (rushlightref05_Assemble.l2 kq l0 t337 x4_1 x6_1 x344000_2 x344001_3 0 = some (r1,r2,r3))∧Aside0 (kq≤k2)∧Aside0 (Kd.R Kd.bool 4 w' w.heap.size (fun _=>True) (.slice Ao9 t337.length co9) t337)∧Aside0 (Kd.R (Kd.int .i64) 3 w' w.heap.size (fun k_=>some k_≠(u344001:Value).ownBlock) (.slice Ao14 x4_1.length co14) x4_1)∧Aside0 (Kd.R (Kd.int .u32) 35 w' w.heap.size (fun _=>True) u344000 x344000_2)∧Aside0 (Kd.R (Kd.int .i64) 3 w' w.heap.size (fun k_=>some k_≠((.slice Ao14 x4_1.length co14):Value).ownBlock) u344001 x344001_3)∧Aside0 (w'.heap[gb334]? = some (.cells #[(.slice none 0 0),(.slice none 0 0),.int .i64 x335002_2] 31 (0,0)))∧Aside0 (w'.heap[gb343]? = some (.cells #[u344000,u344001,.int .i64 0] 31 (0,0)))∧Aside0 (Below w.heap.size w w'))
           case atStart=>exact ⟨(x344001_1),(u344001),H',⟨Nat.le_refl _⟩,⟨zmb17_12⟩,⟨zmb17_13⟩,⟨zmb17_14⟩,⟨zmb17_15⟩,⟨zmb17_6⟩,⟨zmb17_10⟩,⟨zmb17_11⟩⟩
           case round =>
            clear H'
            try clear c1
            try clear c2
            try clear p2
            try clear c3
            try clear p3
            try clear q3
            try clear hx3
            try clear c4
            try clear c5
            try clear p6
            try clear c16
            try clear c16b0
            try clear c17
            try clear c18
            try clear c18b0
            try clear c18b1
            try clear c19
            try clear c20
            try clear c30
            try clear c30b0
            try clear c34
            try clear c34b0
            try clear p34
            try clear q34
            try clear hx34
            try clear p35
            try clear q35
            try clear hx35
            try clear c36
            try clear p36
            try clear q36
            try clear hx36
            try clear c39
            try clear c47
            try clear c54
            try clear c54b0
            try clear c55
            try clear c55b0
            try clear c56
            try clear c56b0
            try clear c56b1
            try clear hcz37_0
            try clear hcz37_1
            try clear hcz37_2
            try clear hfz37_0
            try clear hfz37_1
            try clear hfz37_2
            try clear hx347_0
            try clear hx347_1
            try clear hx347_2
            try clear hx347_3
            try clear hx347_4
            try clear hx348_0
            try clear hx348_1
            try clear hx348_2
            try clear hx348_3
            try clear hx348_4
            try clear hx348_5
            try clear hx348_6
            try clear hx354_0
            try clear hx354_1
            try clear hx354_2
            try clear hx354_3
            try clear hx354_4
            try clear hx355_0
            try clear hx355_1
            try clear hx355_2
            try clear hx355_3
            try clear hx355_4
            try clear hx356_0
            try clear hx356_1
            try clear hx356_2
            try clear hx356_3
            try clear hx356_4
            try clear hx361_0
            try clear hx361_1
            try clear hx361_2
            try clear hx361_3
            try clear hx361_4
            try clear hx366_0
            try clear hx366_1
            try clear hx366_2
            try clear hx366_3
            try clear hx366_4
            try clear hx366_5
            try clear hx366_6
            try clear p347
            try clear p348
            try clear p354
            try clear p355
            try clear p356
            try clear p361
            try clear p366
            try clear q347
            try clear q348
            try clear q354
            try clear q355
            try clear q356
            try clear q361
            try clear q366
            obtain ⟨x344001_3,u344001,HA,HK3,HO_3,HO_4,HO_344000,HO_344001,BK334,BK343,HB⟩:=hrel
            cases gk with
            | zero=>exact absurd HA.out (by simp [rushlightref05_Assemble.l2])
            | succ k3 =>
             have H:=HA.out
             clear HA
             simp only [rushlightref05_Assemble.l2] at H
             by_cases c58:0≤x6_1
             ·rw [if_pos c58] at H
              have c58b0:decide (0≤x6_1) = true:=decide_eq_true c58
              clear c58
              by_cases c59:x6_1 < (l0.length:Int)
              ·rw [if_pos c59] at H
               have c59b0:decide (x6_1 < (l0.length:Int)) = true:=decide_eq_true c59
               clear c59
               by_cases c60:(x344001_3.length:Int)≤((rd_T48 l0 x6_1).f2)
               ·rw [if_pos c60] at H
                have c60b0:decide ((x344001_3.length:Int)≤((rd_T48 l0 x6_1).f2)) = true:=decide_eq_true c60
                clear c60
                by_cases c61:x344001_3.length < 17592186044416
                ·rw [if_pos c61] at H
                 have LMc61:=Aside0.mk c61
                 clear c61
                 obtain ⟨y368,hy368⟩:∃ y_:List Int,y_ = (x344001_3 ++ [(-1)]):=⟨_,rfl⟩
                 replace H:(rushlightref05_Assemble.l2 k3 l0 t337 x4_1 x6_1 x344000_2 y368 0) = some (r1,r2,r3):=by first|(rw [hy368];with_reducible exact H)|(have H2_:=(Option.bind_some _ _).symm.trans H;rw [hy368];with_reducible exact H2_)|(have H2_:=(Option.bind_some _ _).symm.trans H;with_reducible exact H2_)|with_reducible exact H|(rw [hy368];exact H)|exact H
                 have Ny368:=Aside0.mk hy368
                 clear hy368
                 have H':=Aside0.mk H
                 clear H
                 try go_wp2
                 have n0_:=Aside0.mk (Kd.R_drew HO_3.out)
                 have n1_:=Aside0.mk (Kd.R_drew HO_4.out)
                 have n2_:=Aside0.mk (Kd.R_drew HO_344000.out)
                 have n3_:=Aside0.mk (Kd.R_drew HO_344001.out)
                 have n4_:=Aside0.mk (blk_drew BK334.out)
                 have n5_:=Aside0.mk (blk_drew BK343.out)
                 have n6_:=Aside0.mk (below_drew1 HB.out)
                 clear HO_3
                 clear HO_4
                 clear HO_344000
                 clear HO_344001
                 clear BK334
                 clear BK343
                 clear HB
                 have HO_3:=n0_
                 have HO_4:=n1_
                 have HO_344000:=n2_
                 have HO_344001:=n3_
                 have BK334:=n4_
                 have BK343:=n5_
                 have HB:=n6_
                 clear n0_ n1_ n2_ n3_ n4_ n5_ n6_
                 obtain ⟨Ao63,co63,eo63⟩:=Kd.R_slice HO_344001.out
                 (first|subst eo63|(injection eo63 with f1_ f2_ f3_;have f4_:=f1_.symm;have f5_:=f3_.symm;clear f1_ f2_ f3_;subst f4_;subst f5_))
                 have p367:0≤(x6_1:Int):=of_decide_eq_true zmb17_3
                 have q367:x6_1 < (l0.length:Int):=of_decide_eq_true zmb17_3
                 obtain ⟨ad367,e367,hx367_0,hx367_1,hx367_2,hx367_3,hx367_4,hx367_5,hx367_6⟩:=at_T48 HR0.out x6_1 p367 q367
                 have hw367_6:=hx367_6
                 have hw367_5:=hx367_5
                 have hw367_4:=hx367_4
                 have hw367_3:=hx367_3
                 have hw367_2:=hx367_2
                 have hw367_1:=hx367_1
                 have hw367_0:=hx367_0
                 obtain rfl:ad366 = ad367:=(by injection e367)
                 replace hx367_0:=(HB.out.cell (World.block_lt_of_cell? w _ hx367_0)).trans hx367_0
                 replace hx367_1:=(HB.out.cell (World.block_lt_of_cell? w _ hx367_1)).trans hx367_1
                 replace hx367_2:=(HB.out.cell (World.block_lt_of_cell? w _ hx367_2)).trans hx367_2
                 replace hx367_3:=(HB.out.cell (World.block_lt_of_cell? w _ hx367_3)).trans hx367_3
                 replace hx367_4:=(HB.out.cell (World.block_lt_of_cell? w _ hx367_4)).trans hx367_4
                 replace hx367_5:=(HB.out.cell (World.block_lt_of_cell? w _ hx367_5)).trans hx367_5
                 replace hx367_6:=(HB.out.cell (World.block_lt_of_cell? w _ hx367_6)).trans hx367_6
                 replace p367:=eq_true p367
                 replace q367:=eq_true q367
                 refine start_ (n:=9) (S:=fun w'=>w'.cell? ⟨gb343,0,none⟩ = some (u344000)∧w'.cell? ⟨gb343,1,none⟩ = some (.slice Ao63 x344001_3.length co63)∧w'.cell? ⟨gb343,2,none⟩ = some (.int .i64 0)∧w'.cell? (ad366.add ((x6_1).toNat * 7)) = some (.int .i64 ((rd_T48 l0 x6_1).f0))∧w'.cell? ⟨(ad366.add ((x6_1).toNat * 7)).block,(ad366.add ((x6_1).toNat * 7)).off + 1,none⟩ = some (.int .i64 ((rd_T48 l0 x6_1).f1.f0))∧w'.cell? ⟨(ad366.add ((x6_1).toNat * 7)).block,(ad366.add ((x6_1).toNat * 7)).off + 2,none⟩ = some (.int .i64 ((rd_T48 l0 x6_1).f1.f1))∧w'.cell? ⟨(ad366.add ((x6_1).toNat * 7)).block,(ad366.add ((x6_1).toNat * 7)).off + 3,none⟩ = some (.int .i64 ((rd_T48 l0 x6_1).f1.f2))∧w'.cell? ⟨(ad366.add ((x6_1).toNat * 7)).block,(ad366.add ((x6_1).toNat * 7)).off + 4,none⟩ = some (.int .i64 ((rd_T48 l0 x6_1).f1.f3))∧w'.cell? ⟨(ad366.add ((x6_1).toNat * 7)).block,(ad366.add ((x6_1).toNat * 7)).off + 5,none⟩ = some (.int .i64 ((rd_T48 l0 x6_1).f1.f4))∧w'.cell? ⟨(ad366.add ((x6_1).toNat * 7)).block,(ad366.add ((x6_1).toNat * 7)).off + 6,none⟩ = some (.int .i64 ((rd_T48 l0 x6_1).f2))) (ds:=[]) #[false,false,false,false,false,false,false,false,false] (by kernel_rfl) rfl rfl ⟨(blk_cell BK343.out 0).trans rfl,(blk_cell BK343.out 1).trans rfl,(blk_cell BK343.out 2).trans rfl,((HB.out.cell (World.block_lt_of_cell? w _ hw367_0)).trans hw367_0),((HB.out.cell (World.block_lt_of_cell? w _ hw367_1)).trans hw367_1),((HB.out.cell (World.block_lt_of_cell? w _ hw367_2)).trans hw367_2),((HB.out.cell (World.block_lt_of_cell? w _ hw367_3)).trans hw367_3),((HB.out.cell (World.block_lt_of_cell? w _ hw367_4)).trans hw367_4),((HB.out.cell (World.block_lt_of_cell? w _ hw367_5)).trans hw367_5),((HB.out.cell (World.block_lt_of_cell? w _ hw367_6)).trans hw367_6)⟩ (fun hHeld=>?_);refine with_tabW rushlightref05_Assemble.tab17 rushlightref05_Assemble.bits17 (fun HT_ HW_=>?_)
                 generalize wr.drew = w62 at HO_3 HO_4 HO_344000 HO_344001 BK334 BK343 HB hx367_0 hx367_1 hx367_2 hx367_3 hx367_4 hx367_5 hx367_6 hHeld ⊢
                 refine pure_ (i:=0) (N:=some 84) (v:=?_) (a':=?_) #[true,false,false,false,false,false,false,false,false] rfl rfl (any_of HT_.out (by kernel_rfl)) (fun _ _ _ h=>h) (Or.inl ⟨by rfl,?_⟩) ?_ ?_
                 rotate_left
                 ·intro w'
                  go_simp
                  with_reducible rfl
                 rotate_left
                 ·simp only [Act.put,List.setIfInBounds_toArray,List.set_cons_zero,List.set_cons_succ,i64_w,i32_w]
                  rfl
                 refine pure_ (i:=3) (N:=some 87) (v:=?_) (a':=?_) #[true,false,false,true,false,false,false,false,false] rfl rfl (any_of HT_.out (by kernel_rfl)) (fun _ _ _ h=>h) (Or.inl ⟨by rfl,?_⟩) ?_ ?_
                 rotate_left
                 ·intro w'
                  go_simp
                  with_reducible rfl
                 rotate_left
                 ·simp only [Act.put,List.setIfInBounds_toArray,List.set_cons_zero,List.set_cons_succ,i64_w,i32_w]
                  rfl
                 refine pure_ (i:=4) (N:=some 88) (v:=?_) (a':=?_) #[true,false,false,true,true,false,false,false,false] rfl rfl (any_of HT_.out (by kernel_rfl)) (fun _ _ _ h=>h) (Or.inl ⟨by rfl,?_⟩) ?_ ?_
                 rotate_left
                 ·intro w'
                  go_simp
                  with_reducible rfl
                 rotate_left
                 ·simp only [Act.put,List.setIfInBounds_toArray,List.set_cons_zero,List.set_cons_succ,i64_w,i32_w]
                  rfl
                 refine pure_ (i:=5) (N:=some 89) (v:=?_) (a':=?_) #[true,false,false,true,true,true,false,false,false] rfl rfl (any_of HT_.out (by kernel_rfl)) (fun _ _ _ h=>h) (Or.inl ⟨by rfl,?_⟩) ?_ ?_
                 rotate_left
                 ·intro w'
                  go_simp
                  with_reducible rfl
                 rotate_left
                 ·simp only [Act.put,List.setIfInBounds_toArray,List.set_cons_zero,List.set_cons_succ,i64_w,i32_w]
                  rfl
                 refine pure_ (i:=6) (N:=some 90) (v:=?_) (a':=?_) #[true,false,false,true,true,true,true,false,false] rfl rfl (any_of HT_.out (by kernel_rfl)) (fun _ _ _ h=>h) (Or.inl ⟨by rfl,?_⟩) ?_ ?_
                 rotate_left
                 ·intro w'
                  go_simp
                  with_reducible rfl
                 rotate_left
                 ·simp only [Act.put,List.setIfInBounds_toArray,List.set_cons_zero,List.set_cons_succ,i64_w,i32_w]
                  rfl
                 refine take_ (i:=1) (N:=some 85) (v:=?_) (a':=?_) #[true,true,false,true,true,true,true,false,false] rfl rfl (take_ofW HT_.out HW_.out (by kernel_rfl)) (fun _ _ _ h=>h) (Or.inl ⟨by rfl,?_⟩) hHeld ?_ ?_
                 rotate_left
                 ·rintro w' ⟨s0,s1,s2,s3,s4,s5,s6,s7,s8,s9⟩
                  go_simp
                  with_reducible rfl
                 rotate_left
                 ·simp only [Act.put,List.setIfInBounds_toArray,List.set_cons_zero,List.set_cons_succ,i64_w,i32_w]
                  rfl
                 refine pure_ (i:=2) (N:=some 86) (v:=?_) (a':=?_) #[true,true,true,true,true,true,true,false,false] rfl rfl (any_of HT_.out (by kernel_rfl)) (fun _ _ _ h=>h) (Or.inl ⟨by rfl,?_⟩) ?_ ?_
                 rotate_left
                 ·intro w'
                  go_simp
                  with_reducible rfl
                 rotate_left
                 ·simp only [Act.put,List.setIfInBounds_toArray,List.set_cons_zero,List.set_cons_succ,i64_w,i32_w]
                  rfl
                 refine take_ (i:=7) (N:=some 91) (v:=?_) (a':=?_) #[true,true,true,true,true,true,true,true,false] rfl rfl (take_ofW HT_.out HW_.out (by kernel_rfl)) (fun _ _ _ h=>h) (Or.inl ⟨by rfl,?_⟩) hHeld ?_ ?_
                 rotate_left
                 ·rintro w' ⟨s0,s1,s2,s3,s4,s5,s6,s7,s8,s9⟩
                  go_simp
                  with_reducible rfl
                 rotate_left
                 ·simp only [Act.put,List.setIfInBounds_toArray,List.set_cons_zero,List.set_cons_succ,i64_w,i32_w]
                  rfl
                 refine pure_ (i:=8) (N:=some 92) (v:=?_) (a':=?_) #[true,true,true,true,true,true,true,true,true] rfl rfl (any_of HT_.out (by kernel_rfl)) (fun _ _ _ h=>h) (Or.inl ⟨by rfl,?_⟩) ?_ ?_
                 rotate_left
                 ·intro w'
                  go_simp
                  with_reducible rfl
                 rotate_left
                 ·simp only [Act.put,List.setIfInBounds_toArray,List.set_cons_zero,List.set_cons_succ,i64_w,i32_w]
                  rfl
                 refine done_ (done_of HT_.out (by kernel_rfl)) ?_
                 have hnb64:=NB343_334.out
                 have hnc64:=NB334_343.out
                 have hcz65_0:w62.cell? ⟨gb343,0,none⟩ = some (u344000):=(blk_cell BK343.out 0).trans rfl
                 have hcz65_1:w62.cell? ⟨gb343,1,none⟩ = some (.slice Ao63 x344001_3.length co63):=(blk_cell BK343.out 1).trans rfl
                 have hcz65_2:w62.cell? ⟨gb343,2,none⟩ = some (.int .i64 0):=(blk_cell BK343.out 2).trans rfl
                 have hfz65_0:=blk_frozen BK343.out 0
                 have hfz65_1:=blk_frozen BK343.out 1
                 have hfz65_2:=blk_frozen BK343.out 2
                 try go_wp2_with (first|((with_reducible refine gate_builtin (b:=.append) (xs:=#[.tmp 94,.tmp 95]) rfl ?_);at_builtin;refine Kd.R_append (Kd.int .i64) (w0:=w) w.heap.size rfl (.tmp 94) (.tmp 95) 26 3 (.int .i64 0) 8 rfl Try.underlying26 info3 rfl (by decide) (by omega) (.slice Ao63 x344001_3.length co63) x344001_3 (-1) [.int .i64 (-1)] (fun k_=>some k_≠(.slice Ao14 x4_1.length co14:Value).ownBlock) (fun _=>False) rfl rfl ?aP (fun _ hk=>hk.elim) ?aF ?aO ?aB ?aS ?aL ?_;(case aP=>exact rfl);(case aB=>exact zmb17_11);(case aF=>exact (fun k_ hk=>Kd.fresh' (Kd.R_lt zmb17_13) k_ hk));(case aO=>exact zmb17_15);(case aS=>exact (below_size zmb17_11));(case aL=>have:=LMc61.out;omega);intro v369 w66 ho hb hg hat;rw [← Ny368.out] at ho;have n0_:=Aside0.mk (Kd.R_over' zmb17_12 (Kd.R_typed zmb17_15) (by decide) hg);have n1_:=Aside0.mk (Kd.R_after (ok:=(fun _=>True)) (by (with_reducible repeat (first|apply Kd.R_alloc|apply Kd.R_drewN|apply Kd.R_drew));exact Kd.R_mono HO_4.out (fun _ hk=>⟨trivial,hk⟩)) hg hat);have n2_:=Aside0.mk (Kd.R_over' zmb17_14 (Kd.R_typed zmb17_15) (by decide) hg);have n3_:=Aside0.mk (blk_grown (g:=gb334) (o:=.cells #[.slice none 0 0,.slice none 0 0,.int .i64 x335002_2] 31 (0,0)) zmb17_6 hg (Kd.R_ne HO_344001.out BK334.out (by decide)));have n4_:=Aside0.mk (blk_grown (g:=gb343) (o:=.cells #[u344000,.slice Ao63 x344001_3.length co63,.int .i64 0] 31 (0,0)) zmb17_10 hg (Kd.R_ne HO_344001.out BK343.out (by decide)));have n5_:=Aside0.mk (hb);have n6_:=Aside0.mk (ho);clear HO_3 HO_4 HO_344000 BK334 BK343 HB HO_344001;have HO_3:=n0_;have HO_4:=n1_;have HO_344000:=n2_;have BK334:=n3_;have BK343:=n4_;have HB:=n5_;have HO370:=n6_;clear n0_ n1_ n2_ n3_ n4_ n5_ n6_;clear ho hb hg hat;obtain ⟨Ao67,co67,eo67⟩:=Kd.R_slice HO370.out;subst eo67;have hcz68_0:w66.cell? ⟨gb343,0,none⟩ = some (u344000):=(blk_cell BK343.out 0).trans rfl;have hcz68_1:w66.cell? ⟨gb343,1,none⟩ = some (.slice Ao63 x344001_3.length co63):=(blk_cell BK343.out 1).trans rfl;have hcz68_2:w66.cell? ⟨gb343,2,none⟩ = some (.int .i64 0):=(blk_cell BK343.out 2).trans rfl;have hfz68_0:=blk_frozen BK343.out 0;have hfz68_1:=blk_frozen BK343.out 1;have hfz68_2:=blk_frozen BK343.out 2))
                 go_roundg k3
                 case measure=>have:=HK1.out;have:=HK2.out;have:=HK3.out;omega
                 case rel=>exact ⟨(y368),(.slice Ao67 y368.length co67),H',⟨zmb17_4⟩,⟨by (with_reducible repeat (first|apply Kd.R_alloc|apply Kd.R_drewN|apply Kd.R_drew));exact Kd.R_mono (Kd.R_far (p:=⟨gb343,1,none⟩) (Kd.R_types HO_3.out BK343.out (by decide)) (fun _ hk=>hk.2) (.slice Ao67 y368.length co67)) (fun _ hk=>trivial)⟩,⟨by (with_reducible repeat (first|apply Kd.R_alloc|apply Kd.R_drewN|apply Kd.R_drew));exact Kd.R_mono (Kd.R_far (p:=⟨gb343,1,none⟩) (Kd.R_types HO_4.out BK343.out (by decide)) (fun _ hk=>hk.2) (.slice Ao67 y368.length co67)) (fun _ hk=>hk.1.2)⟩,⟨by (with_reducible repeat (first|apply Kd.R_alloc|apply Kd.R_drewN|apply Kd.R_drew));exact Kd.R_mono (Kd.R_far (p:=⟨gb343,1,none⟩) (Kd.R_types HO_344000.out BK343.out (by decide)) (fun _ hk=>hk.2) (.slice Ao67 y368.length co67)) (fun _ hk=>trivial)⟩,⟨by (with_reducible repeat (first|apply Kd.R_alloc|apply Kd.R_drewN|apply Kd.R_drew));exact Kd.R_mono (Kd.R_far (p:=⟨gb343,1,none⟩) (Kd.R_types HO370.out BK343.out (by decide)) (fun _ hk=>hk.2) (.slice Ao67 y368.length co67)) (fun _ hk=>hk.1)⟩,⟨zmb17_18⟩,⟨by (with_reducible repeat (first|refine blk_drewN ?_ _|refine blk_drew ?_|refine blk_alloc ?_ _));refine blk_put (cs:=#[u344000,.slice Ao63 x344001_3.length co63,.int .i64 0]) ?_ 1 _ rfl;(with_reducible repeat (first|refine blk_drewN ?_ _|refine blk_drew ?_|refine blk_alloc ?_ _));exact BK343.out⟩,⟨zmb17_11⟩⟩
                ·rw [if_neg c61] at H
                 exact absurd H (by simp)
               ·rw [if_neg c60] at H
                have c60b0:decide ((x344001_3.length:Int)≤((rd_T48 l0 x6_1).f2)) = false:=decide_eq_false c60
                clear c60
                by_cases c69:x6_1 < (x4_1.length:Int)
                ·rw [if_pos c69] at H
                 have c69b0:decide (x6_1 < (x4_1.length:Int)) = true:=decide_eq_true c69
                 clear c69
                 by_cases c70:0≤((rd_T48 l0 x6_1).f2)
                 ·rw [if_pos c70] at H
                  have c70b0:decide (0≤((rd_T48 l0 x6_1).f2)) = true:=decide_eq_true c70
                  clear c70
                  by_cases c71:((rd_T48 l0 x6_1).f2) < (x344001_3.length:Int)
                  ·rw [if_pos c71] at H
                   have c71b0:decide (((rd_T48 l0 x6_1).f2) < (x344001_3.length:Int)) = true:=decide_eq_true c71
                   clear c71
                   obtain ⟨y373,hy373⟩:∃ y_:List Int,y_ = (x344001_3.set (((rd_T48 l0 x6_1).f2):Int).toNat (rd x4_1 x6_1)):=⟨_,rfl⟩
                   replace H:(rushlightref05_Assemble.l0 k3 l0 t337 x4_1 (wrap64 (x6_1 + 1)) x344000_2 y373 0) = some (r1,r2,r3):=by first|(rw [hy373];with_reducible exact H)|(have H2_:=(Option.bind_some _ _).symm.trans H;rw [hy373];with_reducible exact H2_)|(have H2_:=(Option.bind_some _ _).symm.trans H;with_reducible exact H2_)|with_reducible exact H|(rw [hy373];exact H)|exact H
                   have Ny373:=Aside0.mk hy373
                   clear hy373
                   have H':=Aside0.mk H
                   clear H
                   try go_wp2
                   have n0_:=Aside0.mk (Kd.R_drew HO_3.out)
                   have n1_:=Aside0.mk (Kd.R_drew HO_4.out)
                   have n2_:=Aside0.mk (Kd.R_drew HO_344000.out)
                   have n3_:=Aside0.mk (Kd.R_drew HO_344001.out)
                   have n4_:=Aside0.mk (blk_drew BK334.out)
                   have n5_:=Aside0.mk (blk_drew BK343.out)
                   have n6_:=Aside0.mk (below_drew1 HB.out)
                   clear HO_3
                   clear HO_4
                   clear HO_344000
                   clear HO_344001
                   clear BK334
                   clear BK343
                   clear HB
                   have HO_3:=n0_
                   have HO_4:=n1_
                   have HO_344000:=n2_
                   have HO_344001:=n3_
                   have BK334:=n4_
                   have BK343:=n5_
                   have HB:=n6_
                   clear n0_ n1_ n2_ n3_ n4_ n5_ n6_
                   obtain ⟨Ao74,co74,eo74⟩:=Kd.R_slice HO_344001.out
                   (first|subst eo74|(injection eo74 with f1_ f2_ f3_;have f4_:=f1_.symm;have f5_:=f3_.symm;clear f1_ f2_ f3_;subst f4_;subst f5_))
                   have p367:0≤(x6_1:Int):=of_decide_eq_true zmb17_3
                   have q367:x6_1 < (l0.length:Int):=of_decide_eq_true zmb17_3
                   obtain ⟨ad367,e367,hx367_0,hx367_1,hx367_2,hx367_3,hx367_4,hx367_5,hx367_6⟩:=at_T48 HR0.out x6_1 p367 q367
                   have hw367_6:=hx367_6
                   have hw367_5:=hx367_5
                   have hw367_4:=hx367_4
                   have hw367_3:=hx367_3
                   have hw367_2:=hx367_2
                   have hw367_1:=hx367_1
                   have hw367_0:=hx367_0
                   obtain rfl:ad366 = ad367:=(by injection e367)
                   replace hx367_0:=(HB.out.cell (World.block_lt_of_cell? w _ hx367_0)).trans hx367_0
                   replace hx367_1:=(HB.out.cell (World.block_lt_of_cell? w _ hx367_1)).trans hx367_1
                   replace hx367_2:=(HB.out.cell (World.block_lt_of_cell? w _ hx367_2)).trans hx367_2
                   replace hx367_3:=(HB.out.cell (World.block_lt_of_cell? w _ hx367_3)).trans hx367_3
                   replace hx367_4:=(HB.out.cell (World.block_lt_of_cell? w _ hx367_4)).trans hx367_4
                   replace hx367_5:=(HB.out.cell (World.block_lt_of_cell? w _ hx367_5)).trans hx367_5
                   replace hx367_6:=(HB.out.cell (World.block_lt_of_cell? w _ hx367_6)).trans hx367_6
                   replace p367:=eq_true p367
                   replace q367:=eq_true q367
                   refine start_ (n:=9) (S:=fun w'=>w'.cell? ⟨gb343,0,none⟩ = some (u344000)∧w'.cell? ⟨gb343,1,none⟩ = some (.slice Ao74 x344001_3.length co74)∧w'.cell? ⟨gb343,2,none⟩ = some (.int .i64 0)∧w'.cell? (ad366.add ((x6_1).toNat * 7)) = some (.int .i64 ((rd_T48 l0 x6_1).f0))∧w'.cell? ⟨(ad366.add ((x6_1).toNat * 7)).block,(ad366.add ((x6_1).toNat * 7)).off + 1,none⟩ = some (.int .i64 ((rd_T48 l0 x6_1).f1.f0))∧w'.cell? ⟨(ad366.add ((x6_1).toNat * 7)).block,(ad366.add ((x6_1).toNat * 7)).off + 2,none⟩ = some (.int .i64 ((rd_T48 l0 x6_1).f1.f1))∧w'.cell? ⟨(ad366.add ((x6_1).toNat * 7)).block,(ad366.add ((x6_1).toNat * 7)).off + 3,none⟩ = some (.int .i64 ((rd_T48 l0 x6_1).f1.f2))∧w'.cell? ⟨(ad366.add ((x6_1).toNat * 7)).block,(ad366.add ((x6_1).toNat * 7)).off + 4,none⟩ = some (.int .i64 ((rd_T48 l0 x6_1).f1.f3))∧w'.cell? ⟨(ad366.add ((x6_1).toNat * 7)).block,(ad366.add ((x6_1).toNat * 7)).off + 5,none⟩ = some (.int .i64 ((rd_T48 l0 x6_1).f1.f4))∧w'.cell? ⟨(ad366.add ((x6_1).toNat * 7)).block,(ad366.add ((x6_1).toNat * 7)).off + 6,none⟩ = some (.int .i64 ((rd_T48 l0 x6_1).f2))) (ds:=[]) #[false,false,false,false,false,false,false,false,false] (by kernel_rfl) rfl rfl ⟨(blk_cell BK343.out 0).trans rfl,(blk_cell BK343.out 1).trans rfl,(blk_cell BK343.out 2).trans rfl,((HB.out.cell (World.block_lt_of_cell? w _ hw367_0)).trans hw367_0),((HB.out.cell (World.block_lt_of_cell? w _ hw367_1)).trans hw367_1),((HB.out.cell (World.block_lt_of_cell? w _ hw367_2)).trans hw367_2),((HB.out.cell (World.block_lt_of_cell? w _ hw367_3)).trans hw367_3),((HB.out.cell (World.block_lt_of_cell? w _ hw367_4)).trans hw367_4),((HB.out.cell (World.block_lt_of_cell? w _ hw367_5)).trans hw367_5),((HB.out.cell (World.block_lt_of_cell? w _ hw367_6)).trans hw367_6)⟩ (fun hHeld=>?_);refine with_tabW rushlightref05_Assemble.tab17 rushlightref05_Assemble.bits17 (fun HT_ HW_=>?_)
                   generalize wr.drew = w73 at HO_3 HO_4 HO_344000 HO_344001 BK334 BK343 HB hx367_0 hx367_1 hx367_2 hx367_3 hx367_4 hx367_5 hx367_6 hHeld ⊢
                   refine pure_ (i:=0) (N:=some 84) (v:=?_) (a':=?_) #[true,false,false,false,false,false,false,false,false] rfl rfl (any_of HT_.out (by kernel_rfl)) (fun _ _ _ h=>h) (Or.inl ⟨by rfl,?_⟩) ?_ ?_
                   rotate_left
                   ·intro w'
                    go_simp
                    with_reducible rfl
                   rotate_left
                   ·simp only [Act.put,List.setIfInBounds_toArray,List.set_cons_zero,List.set_cons_succ,i64_w,i32_w]
                    rfl
                   refine pure_ (i:=3) (N:=some 87) (v:=?_) (a':=?_) #[true,false,false,true,false,false,false,false,false] rfl rfl (any_of HT_.out (by kernel_rfl)) (fun _ _ _ h=>h) (Or.inl ⟨by rfl,?_⟩) ?_ ?_
                   rotate_left
                   ·intro w'
                    go_simp
                    with_reducible rfl
                   rotate_left
                   ·simp only [Act.put,List.setIfInBounds_toArray,List.set_cons_zero,List.set_cons_succ,i64_w,i32_w]
                    rfl
                   refine pure_ (i:=4) (N:=some 88) (v:=?_) (a':=?_) #[true,false,false,true,true,false,false,false,false] rfl rfl (any_of HT_.out (by kernel_rfl)) (fun _ _ _ h=>h) (Or.inl ⟨by rfl,?_⟩) ?_ ?_
                   rotate_left
                   ·intro w'
                    go_simp
                    with_reducible rfl
                   rotate_left
                   ·simp only [Act.put,List.setIfInBounds_toArray,List.set_cons_zero,List.set_cons_succ,i64_w,i32_w]
                    rfl
                   refine pure_ (i:=5) (N:=some 89) (v:=?_) (a':=?_) #[true,false,false,true,true,true,false,false,false] rfl rfl (any_of HT_.out (by kernel_rfl)) (fun _ _ _ h=>h) (Or.inl ⟨by rfl,?_⟩) ?_ ?_
                   rotate_left
                   ·intro w'
                    go_simp
                    with_reducible rfl
                   rotate_left
                   ·simp only [Act.put,List.setIfInBounds_toArray,List.set_cons_zero,List.set_cons_succ,i64_w,i32_w]
                    rfl
                   refine pure_ (i:=6) (N:=some 90) (v:=?_) (a':=?_) #[true,false,false,true,true,true,true,false,false] rfl rfl (any_of HT_.out (by kernel_rfl)) (fun _ _ _ h=>h) (Or.inl ⟨by rfl,?_⟩) ?_ ?_
                   rotate_left
                   ·intro w'
                    go_simp
                    with_reducible rfl
                   rotate_left
                   ·simp only [Act.put,List.setIfInBounds_toArray,List.set_cons_zero,List.set_cons_succ,i64_w,i32_w]
                    rfl
                   refine take_ (i:=1) (N:=some 85) (v:=?_) (a':=?_) #[true,true,false,true,true,true,true,false,false] rfl rfl (take_ofW HT_.out HW_.out (by kernel_rfl)) (fun _ _ _ h=>h) (Or.inl ⟨by rfl,?_⟩) hHeld ?_ ?_
                   rotate_left
                   ·rintro w' ⟨s0,s1,s2,s3,s4,s5,s6,s7,s8,s9⟩
                    go_simp
                    with_reducible rfl
                   rotate_left
                   ·simp only [Act.put,List.setIfInBounds_toArray,List.set_cons_zero,List.set_cons_succ,i64_w,i32_w]
                    rfl
                   refine pure_ (i:=2) (N:=some 86) (v:=?_) (a':=?_) #[true,true,true,true,true,true,true,false,false] rfl rfl (any_of HT_.out (by kernel_rfl)) (fun _ _ _ h=>h) (Or.inl ⟨by rfl,?_⟩) ?_ ?_
                   rotate_left
                   ·intro w'
                    go_simp
                    with_reducible rfl
                   rotate_left
                   ·simp only [Act.put,List.setIfInBounds_toArray,List.set_cons_zero,List.set_cons_succ,i64_w,i32_w]
                    rfl
                   refine take_ (i:=7) (N:=some 91) (v:=?_) (a':=?_) #[true,true,true,true,true,true,true,true,false] rfl rfl (take_ofW HT_.out HW_.out (by kernel_rfl)) (fun _ _ _ h=>h) (Or.inl ⟨by rfl,?_⟩) hHeld ?_ ?_
                   rotate_left
                   ·rintro w' ⟨s0,s1,s2,s3,s4,s5,s6,s7,s8,s9⟩
                    go_simp
                    with_reducible rfl
                   rotate_left
                   ·simp only [Act.put,List.setIfInBounds_toArray,List.set_cons_zero,List.set_cons_succ,i64_w,i32_w]
                    rfl
                   refine pure_ (i:=8) (N:=some 92) (v:=?_) (a':=?_) #[true,true,true,true,true,true,true,true,true] rfl rfl (any_of HT_.out (by kernel_rfl)) (fun _ _ _ h=>h) (Or.inl ⟨by rfl,?_⟩) ?_ ?_
                   rotate_left
                   ·intro w'
                    go_simp
                    with_reducible rfl
                   rotate_left
                   ·simp only [Act.put,List.setIfInBounds_toArray,List.set_cons_zero,List.set_cons_succ,i64_w,i32_w]
                    rfl
                   refine done_ (done_of HT_.out (by kernel_rfl)) ?_
                   try go_wp2
                   have n0_:=Aside0.mk (Kd.R_drew HO_3.out)
                   have n1_:=Aside0.mk (Kd.R_drew HO_4.out)
                   have n2_:=Aside0.mk (Kd.R_drew HO_344000.out)
                   have n3_:=Aside0.mk (Kd.R_drew HO_344001.out)
                   have n4_:=Aside0.mk (blk_drew BK334.out)
                   have n5_:=Aside0.mk (blk_drew BK343.out)
                   have n6_:=Aside0.mk (below_drew1 HB.out)
                   clear HO_3
                   clear HO_4
                   clear HO_344000
                   clear HO_344001
                   clear BK334
                   clear BK343
                   clear HB
                   have HO_3:=n0_
                   have HO_4:=n1_
                   have HO_344000:=n2_
                   have HO_344001:=n3_
                   have BK334:=n4_
                   have BK343:=n5_
                   have HB:=n6_
                   clear n0_ n1_ n2_ n3_ n4_ n5_ n6_
                   have p371:0≤(x6_1:Int):=of_decide_eq_true zmb17_3
                   have q371:x6_1 < (l0.length:Int):=of_decide_eq_true zmb17_3
                   obtain ⟨ad371,e371,hx371_0,hx371_1,hx371_2,hx371_3,hx371_4,hx371_5,hx371_6⟩:=at_T48 HR0.out x6_1 p371 q371
                   have hw371_6:=hx371_6
                   have hw371_5:=hx371_5
                   have hw371_4:=hx371_4
                   have hw371_3:=hx371_3
                   have hw371_2:=hx371_2
                   have hw371_1:=hx371_1
                   have hw371_0:=hx371_0
                   obtain rfl:ad366 = ad371:=(by injection e371)
                   replace hx371_0:=(HB.out.cell (World.block_lt_of_cell? w _ hx371_0)).trans hx371_0
                   replace hx371_1:=(HB.out.cell (World.block_lt_of_cell? w _ hx371_1)).trans hx371_1
                   replace hx371_2:=(HB.out.cell (World.block_lt_of_cell? w _ hx371_2)).trans hx371_2
                   replace hx371_3:=(HB.out.cell (World.block_lt_of_cell? w _ hx371_3)).trans hx371_3
                   replace hx371_4:=(HB.out.cell (World.block_lt_of_cell? w _ hx371_4)).trans hx371_4
                   replace hx371_5:=(HB.out.cell (World.block_lt_of_cell? w _ hx371_5)).trans hx371_5
                   replace hx371_6:=(HB.out.cell (World.block_lt_of_cell? w _ hx371_6)).trans hx371_6
                   replace p371:=eq_true p371
                   replace q371:=eq_true q371
                   have p372:0≤(x6_1:Int):=of_decide_eq_true zmb17_3
                   have q372:x6_1 < (x4_1.length:Int):=of_decide_eq_true zmb17_3
                   obtain ⟨ad372,e372,hx372_0⟩:=Kd.at_int (Kd.R_reads' HO_4.out).2.2 x6_1 p372 q372
                   cases e372
                   replace p372:=eq_true p372
                   replace q372:=eq_true q372
                   have p72:0≤(((rd_T48 l0 x6_1).f2):Int):=of_decide_eq_true zmb17_3
                   have q72:(((rd_T48 l0 x6_1).f2):Int) < ((x344001_3.length:Int):Int):=of_decide_eq_true zmb17_3
                   obtain ⟨go72,co72,eo72,gb72,gl72,cl72,HG72⟩:=Kd.R_form HO_344001.out (by omega)
                   (first|cases eo72|(injection eo72 with ea_ en_ ec_;(first|subst ea_|(injection ea_ with ea_;subst ea_));subst ec_;clear en_))
                   have GB72:=Aside0.mk gb72
                   have GG72:=Aside0.mk HG72
                   clear gb72 gl72 HG72
                   obtain ⟨hx72_0,hf72_0⟩:=Kd.R_celln 0 HO_344001.out (((rd_T48 l0 x6_1).f2):Int) p72 q72
                   replace p72:=eq_true p72
                   replace q72:=eq_true q72
                   have HP76:=Kd.R_putn HO_344001.out (((rd_T48 l0 x6_1).f2):Int) (rd x4_1 x6_1)
                   rw [← Ny373.out] at HP76
                   have HQ76:=Aside0.mk HP76
                   clear HP76
                   refine start_ (n:=13) (S:=fun w'=>w'.cell? ⟨gb343,0,none⟩ = some (u344000)∧w'.cell? ⟨gb343,1,none⟩ = some (.slice (some ⟨go72,0,none⟩) x344001_3.length co74)∧w'.cell? ⟨gb343,2,none⟩ = some (.int .i64 0)∧w'.cell? (ad366.add ((x6_1).toNat * 7)) = some (.int .i64 ((rd_T48 l0 x6_1).f0))∧w'.cell? ⟨(ad366.add ((x6_1).toNat * 7)).block,(ad366.add ((x6_1).toNat * 7)).off + 1,none⟩ = some (.int .i64 ((rd_T48 l0 x6_1).f1.f0))∧w'.cell? ⟨(ad366.add ((x6_1).toNat * 7)).block,(ad366.add ((x6_1).toNat * 7)).off + 2,none⟩ = some (.int .i64 ((rd_T48 l0 x6_1).f1.f1))∧w'.cell? ⟨(ad366.add ((x6_1).toNat * 7)).block,(ad366.add ((x6_1).toNat * 7)).off + 3,none⟩ = some (.int .i64 ((rd_T48 l0 x6_1).f1.f2))∧w'.cell? ⟨(ad366.add ((x6_1).toNat * 7)).block,(ad366.add ((x6_1).toNat * 7)).off + 4,none⟩ = some (.int .i64 ((rd_T48 l0 x6_1).f1.f3))∧w'.cell? ⟨(ad366.add ((x6_1).toNat * 7)).block,(ad366.add ((x6_1).toNat * 7)).off + 5,none⟩ = some (.int .i64 ((rd_T48 l0 x6_1).f1.f4))∧w'.cell? ⟨(ad366.add ((x6_1).toNat * 7)).block,(ad366.add ((x6_1).toNat * 7)).off + 6,none⟩ = some (.int .i64 ((rd_T48 l0 x6_1).f2))∧w'.cell? (ad372.add (x6_1).toNat) = some (.int .i64 (rd x4_1 x6_1))) (ds:=[12]) #[false,false,false,false,false,false,false,false,false,false,false,false,false] (by kernel_rfl) rfl rfl ⟨(blk_cell BK343.out 0).trans rfl,(blk_cell BK343.out 1).trans rfl,(blk_cell BK343.out 2).trans rfl,((HB.out.cell (World.block_lt_of_cell? w _ hw371_0)).trans hw371_0),((HB.out.cell (World.block_lt_of_cell? w _ hw371_1)).trans hw371_1),((HB.out.cell (World.block_lt_of_cell? w _ hw371_2)).trans hw371_2),((HB.out.cell (World.block_lt_of_cell? w _ hw371_3)).trans hw371_3),((HB.out.cell (World.block_lt_of_cell? w _ hw371_4)).trans hw371_4),((HB.out.cell (World.block_lt_of_cell? w _ hw371_5)).trans hw371_5),((HB.out.cell (World.block_lt_of_cell? w _ hw371_6)).trans hw371_6),hx372_0⟩ (fun hHeld=>?_);refine with_tabW rushlightref05_Assemble.tab19 rushlightref05_Assemble.bits19 (fun HT_ HW_=>?_)
                   generalize w73.drew = w75 at HO_3 HO_4 HO_344000 HO_344001 BK334 BK343 HB GG72 HQ76 hf72_0 hx371_0 hx371_1 hx371_2 hx371_3 hx371_4 hx371_5 hx371_6 hx372_0 hx72_0 hHeld ⊢
                   refine pure_ (i:=0) (N:=some 98) (v:=?_) (a':=?_) #[true,false,false,false,false,false,false,false,false,false,false,false,false] rfl rfl (any_of HT_.out (by kernel_rfl)) (fun _ _ _ h=>h) (Or.inl ⟨by rfl,?_⟩) ?_ ?_
                   rotate_left
                   ·intro w'
                    go_simp
                    with_reducible rfl
                   rotate_left
                   ·simp only [Act.put,List.setIfInBounds_toArray,List.set_cons_zero,List.set_cons_succ,i64_w,i32_w]
                    rfl
                   refine pure_ (i:=2) (N:=some 100) (v:=?_) (a':=?_) #[true,false,true,false,false,false,false,false,false,false,false,false,false] rfl rfl (any_of HT_.out (by kernel_rfl)) (fun _ _ _ h=>h) (Or.inl ⟨by rfl,?_⟩) ?_ ?_
                   rotate_left
                   ·intro w'
                    go_simp
                    with_reducible rfl
                   rotate_left
                   ·simp only [Act.put,List.setIfInBounds_toArray,List.set_cons_zero,List.set_cons_succ,i64_w,i32_w]
                    rfl
                   refine pure_ (i:=3) (N:=some 101) (v:=?_) (a':=?_) #[true,false,true,true,false,false,false,false,false,false,false,false,false] rfl rfl (any_of HT_.out (by kernel_rfl)) (fun _ _ _ h=>h) (Or.inl ⟨by rfl,?_⟩) ?_ ?_
                   rotate_left
                   ·intro w'
                    go_simp
                    with_reducible rfl
                   rotate_left
                   ·simp only [Act.put,List.setIfInBounds_toArray,List.set_cons_zero,List.set_cons_succ,i64_w,i32_w]
                    rfl
                   refine pure_ (i:=4) (N:=some 102) (v:=?_) (a':=?_) #[true,false,true,true,true,false,false,false,false,false,false,false,false] rfl rfl (any_of HT_.out (by kernel_rfl)) (fun _ _ _ h=>h) (Or.inl ⟨by rfl,?_⟩) ?_ ?_
                   rotate_left
                   ·intro w'
                    go_simp
                    with_reducible rfl
                   rotate_left
                   ·simp only [Act.put,List.setIfInBounds_toArray,List.set_cons_zero,List.set_cons_succ,i64_w,i32_w]
                    rfl
                   refine pure_ (i:=5) (N:=some 103) (v:=?_) (a':=?_) #[true,false,true,true,true,true,false,false,false,false,false,false,false] rfl rfl (any_of HT_.out (by kernel_rfl)) (fun _ _ _ h=>h) (Or.inl ⟨by rfl,?_⟩) ?_ ?_
                   rotate_left
                   ·intro w'
                    go_simp
                    with_reducible rfl
                   rotate_left
                   ·simp only [Act.put,List.setIfInBounds_toArray,List.set_cons_zero,List.set_cons_succ,i64_w,i32_w]
                    rfl
                   refine pure_ (i:=7) (N:=some 105) (v:=?_) (a':=?_) #[true,false,true,true,true,true,false,true,false,false,false,false,false] rfl rfl (any_of HT_.out (by kernel_rfl)) (fun _ _ _ h=>h) (Or.inl ⟨by rfl,?_⟩) ?_ ?_
                   rotate_left
                   ·intro w'
                    go_simp
                    with_reducible rfl
                   rotate_left
                   ·simp only [Act.put,List.setIfInBounds_toArray,List.set_cons_zero,List.set_cons_succ,i64_w,i32_w]
                    rfl
                   refine pure_ (i:=8) (N:=some 106) (v:=?_) (a':=?_) #[true,false,true,true,true,true,false,true,true,false,false,false,false] rfl rfl (any_of HT_.out (by kernel_rfl)) (fun _ _ _ h=>h) (Or.inl ⟨by rfl,?_⟩) ?_ ?_
                   rotate_left
                   ·intro w'
                    go_simp
                    with_reducible rfl
                   rotate_left
                   ·simp only [Act.put,List.setIfInBounds_toArray,List.set_cons_zero,List.set_cons_succ,i64_w,i32_w]
                    rfl
                   refine pure_ (i:=9) (N:=some 107) (v:=?_) (a':=?_) #[true,false,true,true,true,true,false,true,true,true,false,false,false] rfl rfl (any_of HT_.out (by kernel_rfl)) (fun _ _ _ h=>h) (Or.inl ⟨by rfl,?_⟩) ?_ ?_
                   rotate_left
                   ·intro w'
                    go_simp
                    with_reducible rfl
                   rotate_left
                   ·simp only [Act.put,List.setIfInBounds_toArray,List.set_cons_zero,List.set_cons_succ,i64_w,i32_w]
                    rfl
                   refine take_ (i:=1) (N:=some 99) (v:=?_) (a':=?_) #[true,true,true,true,true,true,false,true,true,true,false,false,false] rfl rfl (take_ofW HT_.out HW_.out (by kernel_rfl)) (fun _ _ _ h=>h) (Or.inl ⟨by rfl,?_⟩) hHeld ?_ ?_
                   rotate_left
                   ·rintro w' ⟨s0,s1,s2,s3,s4,s5,s6,s7,s8,s9,s10⟩
                    go_simp
                    with_reducible rfl
                   rotate_left
                   ·simp only [Act.put,List.setIfInBounds_toArray,List.set_cons_zero,List.set_cons_succ,i64_w,i32_w]
                    rfl
                   refine take_ (i:=6) (N:=some 104) (v:=?_) (a':=?_) #[true,true,true,true,true,true,true,true,true,true,false,false,false] rfl rfl (take_ofW HT_.out HW_.out (by kernel_rfl)) (fun _ _ _ h=>h) (Or.inl ⟨by rfl,?_⟩) hHeld ?_ ?_
                   rotate_left
                   ·rintro w' ⟨s0,s1,s2,s3,s4,s5,s6,s7,s8,s9,s10⟩
                    go_simp
                    with_reducible rfl
                   rotate_left
                   ·simp only [Act.put,List.setIfInBounds_toArray,List.set_cons_zero,List.set_cons_succ,i64_w,i32_w]
                    rfl
                   refine take_ (i:=10) (N:=some 108) (v:=?_) (a':=?_) #[true,true,true,true,true,true,true,true,true,true,true,false,false] rfl rfl (take_ofW HT_.out HW_.out (by kernel_rfl)) (fun _ _ _ h=>h) (Or.inl ⟨by rfl,?_⟩) hHeld ?_ ?_
                   rotate_left
                   ·rintro w' ⟨s0,s1,s2,s3,s4,s5,s6,s7,s8,s9,s10⟩
                    go_simp
                    with_reducible rfl
                   rotate_left
                   ·simp only [Act.put,List.setIfInBounds_toArray,List.set_cons_zero,List.set_cons_succ,i64_w,i32_w]
                    rfl
                   refine pure_ (i:=11) (N:=some 109) (v:=?_) (a':=?_) #[true,true,true,true,true,true,true,true,true,true,true,true,false] rfl rfl (any_of HT_.out (by kernel_rfl)) (fun _ _ _ h=>h) (Or.inl ⟨by rfl,?_⟩) ?_ ?_
                   rotate_left
                   ·intro w'
                    go_simp
                    with_reducible rfl
                   rotate_left
                   ·simp only [Act.put,List.setIfInBounds_toArray,List.set_cons_zero,List.set_cons_succ,i64_w,i32_w]
                    rfl
                   refine last_ (i:=12) (N:=none) #[true,true,true,true,true,true,true,true,true,true,true,true,true] rfl rfl (one_of HT_.out (by kernel_rfl)) (by decide) (fun K hK=>?_)
                   refine skip_ (w1:=?_) (by rfl) rfl ?_ ?_
                   rotate_left
                   ·go_simp
                    rfl
                   refine hK.out _ _ ?_
                   clear hK K
                   refine done_ (done_of HT_.out (by kernel_rfl)) ?_
                   try go_wp2
                   go_roundg k3
                   case measure=>have:=HK1.out;have:=HK2.out;have:=HK3.out;omega
                   case rel=>exact ⟨(x4_1),(wrap64 (x6_1 + 1)),(x335002_2),(x344000_2),(y373),(u344000),(.slice (some ⟨go72,0,none⟩) x344001_3.length co74),zmb17_2,H',⟨zmb17_4⟩,⟨by (with_reducible repeat (first|apply Kd.R_alloc|apply Kd.R_drewN|apply Kd.R_drew));exact Kd.R_mono (Kd.R_far (p:=⟨go72,(((rd_T48 l0 x6_1).f2):Int).toNat,none⟩) (Kd.R_types HO_3.out GG72.out (by decide)) (fun _ hk=>hk.2) (.int .i64 (rd x4_1 x6_1))) (fun _ hk=>trivial)⟩,⟨by (with_reducible repeat (first|apply Kd.R_alloc|apply Kd.R_drewN|apply Kd.R_drew));exact Kd.R_mono (Kd.R_far (p:=⟨go72,(((rd_T48 l0 x6_1).f2):Int).toNat,none⟩) (Kd.R_mono HO_4.out (fun k_ hk=>(⟨hk,fun e_=>hk (by rw [e_];rfl)⟩:_∧k_≠go72))) (fun _ hk=>hk.2) (.int .i64 (rd x4_1 x6_1))) (fun _ hk=>hk.1)⟩,⟨by (with_reducible repeat (first|apply Kd.R_alloc|apply Kd.R_drewN|apply Kd.R_drew));exact Kd.R_mono (Kd.R_far (p:=⟨go72,(((rd_T48 l0 x6_1).f2):Int).toNat,none⟩) (Kd.R_types HO_344000.out GG72.out (by decide)) (fun _ hk=>hk.2) (.int .i64 (rd x4_1 x6_1))) (fun _ hk=>trivial)⟩,⟨by (with_reducible repeat (first|apply Kd.R_alloc|apply Kd.R_drewN|apply Kd.R_drew));exact HQ76.out⟩,⟨by (with_reducible repeat (first|refine blk_drewN ?_ _|refine blk_drew ?_|refine blk_alloc ?_ _));refine blk_far ?_ (by have h_:=Kd.R_ne HO_344001.out BK334.out (by decide);intro e_;exact h_ (by rw [e_];rfl)) _;(with_reducible repeat (first|refine blk_drewN ?_ _|refine blk_drew ?_|refine blk_alloc ?_ _));exact BK334.out⟩,⟨by (with_reducible repeat (first|refine blk_drewN ?_ _|refine blk_drew ?_|refine blk_alloc ?_ _));refine blk_far ?_ (by have h_:=Kd.R_ne HO_344001.out BK343.out (by decide);intro e_;exact h_ (by rw [e_];rfl)) _;(with_reducible repeat (first|refine blk_drewN ?_ _|refine blk_drew ?_|refine blk_alloc ?_ _));exact BK343.out⟩,⟨by repeat (first|(with_reducible first|exact HB.out|apply below_alloc|apply pw_below_drewN|apply below_drew1|refine below_set ?_ GB72.out|refine below_set ?_ GE334.out|refine below_set ?_ GE343.out)|exact HB.out)⟩⟩
                  ·rw [if_neg c71] at H
                   exact absurd H (by simp)
                 ·rw [if_neg c70] at H
                  exact absurd H (by simp)
                ·rw [if_neg c69] at H
                 exact absurd H (by simp)
              ·rw [if_neg c59] at H
               exact absurd H (by simp)
             ·rw [if_neg c58] at H
              exact absurd H (by simp)
          ·rw [if_neg c56] at H
           have c56b0:(((rd_T48 l0 x6_1).f0) == 2) = false:=beq_eq_false_iff_ne.mpr c56
           have c56b1:(((rd_T48 l0 x6_1).f0) != 2) = true:=bne_iff_ne.mpr c56
           have H':=Aside0.mk H
           clear H
           obtain ⟨Ao77,co77,eo77⟩:=Kd.R_slice HO_7.out
           subst eo77
           have p366:0≤(x6_1:Int):=of_decide_eq_true zmb17_3
           have q366:x6_1 < (l0.length:Int):=of_decide_eq_true zmb17_3
           obtain ⟨ad366,e366,hx366_0,hx366_1,hx366_2,hx366_3,hx366_4,hx366_5,hx366_6⟩:=at_T48 HR0.out x6_1 p366 q366
           cases e366
           replace hx366_0:=(HB.out.cell (World.block_lt_of_cell? w _ hx366_0)).trans hx366_0
           replace hx366_1:=(HB.out.cell (World.block_lt_of_cell? w _ hx366_1)).trans hx366_1
           replace hx366_2:=(HB.out.cell (World.block_lt_of_cell? w _ hx366_2)).trans hx366_2
           replace hx366_3:=(HB.out.cell (World.block_lt_of_cell? w _ hx366_3)).trans hx366_3
           replace hx366_4:=(HB.out.cell (World.block_lt_of_cell? w _ hx366_4)).trans hx366_4
           replace hx366_5:=(HB.out.cell (World.block_lt_of_cell? w _ hx366_5)).trans hx366_5
           replace hx366_6:=(HB.out.cell (World.block_lt_of_cell? w _ hx366_6)).trans hx366_6
           replace p366:=eq_true p366
           replace q366:=eq_true q366
           go_wp2
           go_roundg k2
           case measure=>have:=HK1.out;have:=HK2.out;omega
           case rel=>exact ⟨(x4_1),(wrap64 (x6_1 + 1)),(x335002_2),(x344000_2),(x344001_1),(u344000),(u344001),zmb17_2,H',⟨zmb17_17⟩,⟨zmb17_12⟩,⟨zmb17_13⟩,⟨zmb17_14⟩,⟨zmb17_15⟩,⟨zmb17_6⟩,⟨zmb17_10⟩,⟨zmb17_11⟩⟩
         ·rw [if_neg c55] at H
          exact absurd H (by simp)
        ·rw [if_neg c54] at H
         exact absurd H (by simp)
    ·rw [if_neg c12] at H
     have c12b0:decide (x6_1 < (l0.length:Int)) = false:=decide_eq_false c12
     clear c12
     simp only [Option.some.injEq,Prod.mk.injEq] at H
     obtain ⟨rfl,rfl,rfl⟩:=H
     have hnb78:=NB343_334.out
     have hnc78:=NB334_343.out
     have hcz79_0:wr.cell? ⟨gb343,0,none⟩ = some (u344000):=(blk_cell BK343.out 0).trans rfl
     have hcz79_1:wr.cell? ⟨gb343,1,none⟩ = some (u344001):=(blk_cell BK343.out 1).trans rfl
     have hcz79_2:wr.cell? ⟨gb343,2,none⟩ = some (.int .i64 0):=(blk_cell BK343.out 2).trans rfl
     have hfz79_0:=blk_frozen BK343.out 0
     have hfz79_1:=blk_frozen BK343.out 1
     have hfz79_2:=blk_frozen BK343.out 2
     obtain ⟨Ao80,co80,eo80⟩:=Kd.R_slice HO_344000.out
     subst eo80
     have hcz81_0:wr.cell? ⟨gb334,0,none⟩ = some (.slice none 0 0):=(blk_cell BK334.out 0).trans rfl
     have hcz81_1:wr.cell? ⟨gb334,1,none⟩ = some (.slice none 0 0):=(blk_cell BK334.out 1).trans rfl
     have hcz81_2:wr.cell? ⟨gb334,2,none⟩ = some (.int .i64 x335002_1):=(blk_cell BK334.out 2).trans rfl
     have hfz81_0:=blk_frozen BK334.out 0
     have hfz81_1:=blk_frozen BK334.out 1
     have hfz81_2:=blk_frozen BK334.out 2
     obtain ⟨Ao82,co82,eo82⟩:=Kd.R_slice HO_344001.out
     subst eo82
     go_wp2
     refine bodyPost_ret (results_cell_row rfl _ _ gb334 31 #[.slice Ao80 x344000_1.length co80,.slice Ao82 x344001_1.length co82,.int .i64 0] (0,0) _ rfl (by (with_reducible repeat (first|refine blk_drewN ?_ _|refine blk_drew ?_|refine blk_alloc ?_ _));refine blk_put (cs:=#[.slice Ao80 x344000_1.length co80,.slice Ao82 x344001_1.length co82,.int .i64 x335002_1]) ?_ 2 _ rfl;(with_reducible repeat (first|refine blk_drewN ?_ _|refine blk_drew ?_|refine blk_alloc ?_ _));refine blk_put (cs:=#[.slice Ao80 x344000_1.length co80,.slice none 0 0,.int .i64 x335002_1]) ?_ 1 _ rfl;(with_reducible repeat (first|refine blk_drewN ?_ _|refine blk_drew ?_|refine blk_alloc ?_ _));refine blk_put (cs:=#[.slice none 0 0,.slice none 0 0,.int .i64 x335002_1]) ?_ 0 _ rfl;(with_reducible repeat (first|refine blk_drewN ?_ _|refine blk_drew ?_|refine blk_alloc ?_ _));exact BK334.out) Try.underlying31 rfl (by kernel_rfl)) rfl ?_
     exact ⟨_,_,zmb17_0,by (with_reducible repeat (first|apply Kd.R_alloc|apply Kd.R_drewN|apply Kd.R_drew));exact Kd.R_mono (Kd.R_far (p:=⟨gb334,2,none⟩) (Kd.R_far (p:=⟨gb334,1,none⟩) (Kd.R_far (p:=⟨gb334,0,none⟩) (Kd.R_types HO_344000.out BK334.out (by decide)) (fun _ hk=>hk.2) (.slice Ao80 x344000_1.length co80)) (fun _ hk=>hk.2) (.slice Ao82 x344001_1.length co82)) (fun _ hk=>hk.2) (.int .i64 0)) (fun _ hk=>trivial),by (with_reducible repeat (first|apply Kd.R_alloc|apply Kd.R_drewN|apply Kd.R_drew));exact Kd.R_mono (Kd.R_far (p:=⟨gb334,2,none⟩) (Kd.R_far (p:=⟨gb334,1,none⟩) (Kd.R_far (p:=⟨gb334,0,none⟩) (Kd.R_types HO_344001.out BK334.out (by decide)) (fun _ hk=>hk.2) (.slice Ao80 x344000_1.length co80)) (fun _ hk=>hk.2) (.slice Ao82 x344001_1.length co82)) (fun _ hk=>hk.2) (.int .i64 0)) (fun _ hk=>trivial),zmb17_11⟩
 ·rw [if_neg c3] at H
  have c3b0:(t335 == 0) = false:=beq_eq_false_iff_ne.mpr c3
  have c3b1:(t335 != 0) = true:=bne_iff_ne.mpr c3
  replace H:=Option.bind_eq_some_iff.mp H
  obtain ⟨t336,A830,H⟩:=H
  replace H:(some (([]:List Int),([]:List Int),t336)) = some (r1,r2,r3):=H
  have A83:=Aside0.mk A830
  clear A830
  simp only [Option.some.injEq,Prod.mk.injEq] at H
  obtain ⟨rfl,rfl,rfl⟩:=H
  go_enter Try.func11,Try.ntmps11
  go_wp2_with (first|((with_reducible refine gate_dst (N:=2) rfl ?_);refine box_event ?hg (N:=2) ?hd (cs:=#[.slice none 0 0,.slice none 0 0,.int .i64 0]) (t:=31) ?hr ?_;(case hd=>rfl);(case hg=>rfl);(case hr=>first|(go_simp;done)|(go_simp;rfl));intro gb334 hg w84 hbox hb;have n0_:=Aside0.mk (below_step zmb17_1 hb);have n1_:=Aside0.mk (hbox);have n2_:=Aside0.mk ((by rw [hg];exact (below_size zmb17_1):w.heap.size≤gb334));have n3_:=Aside0.mk ((by rw [hg];exact (below_size zmb17_1):w.heap.size≤gb334));clear HB;have HB:=n0_;have BK334:=n1_;have GW334:=n2_;have GE334:=n3_;clear n0_ n1_ n2_ n3_;clear hb hbox hg)|((with_reducible refine gate_callee (f:=30) rfl ?_);refine goesL_ (some 10) rfl rfl Try.func30 (by kernel_rfl) rfl #[.slice A0 l0.length c0] rfl zmb17_5 ?_;(with_reducible refine (rushlightref05_May.calls k _ _ l0 t335 _ ?side1 ?side2 A2.out).mono ?_);(case side1=>repeat (first|exact (Kd.C_below HR0.out HB.out)|(with_reducible refine Kd.C_alloc ?_ _)|(with_reducible refine Kd.C_drewN ?_ _)|(with_reducible refine Kd.C_drew ?_)));(case side2=>exact HC0.out);rintro e w85 ⟨rfl,hb⟩;refine ⟨_,rfl,?_⟩;have n0_:=Aside0.mk (blk_below (g:=gb334) (o:=.cells #[.slice none 0 0,.slice none 0 0,.int .i64 0] 31 (0,0)) zmb17_6 hb);have n1_:=Aside0.mk (below_step zmb17_7 hb);clear BK334 HB;have BK334:=n0_;have HB:=n1_;clear n0_ n1_;(try clear hb);(try clear hb2);(try clear hk);(try clear hi))|((with_reducible refine gate_callee (f:=30) rfl ?_);refine goesL_ (some 13) rfl rfl Try.func30 (by kernel_rfl) rfl #[.slice A0 l0.length c0] rfl zmb17_5 ?_;(with_reducible refine (rushlightref05_May.calls k _ _ l0 t336 _ ?side1 ?side2 A83.out).mono ?_);(case side1=>repeat (first|exact (Kd.C_below HR0.out HB.out)|(with_reducible refine Kd.C_alloc ?_ _)|(with_reducible refine Kd.C_drewN ?_ _)|(with_reducible refine Kd.C_drew ?_)));(case side2=>exact HC0.out);rintro e w86 ⟨rfl,hb⟩;refine ⟨_,rfl,?_⟩;have n0_:=Aside0.mk (blk_below (g:=gb334) (o:=.cells #[.slice none 0 0,.slice none 0 0,.int .i64 0] 31 (0,0)) zmb17_6 hb);have n1_:=Aside0.mk (below_step zmb17_7 hb);clear BK334 HB;have BK334:=n0_;have HB:=n1_;clear n0_ n1_;(try clear hb);(try clear hb2);(try clear hk);(try clear hi);have hcz87_0:w86.cell? ⟨gb334,0,none⟩ = some (.slice none 0 0):=(blk_cell BK334.out 0).trans rfl;have hcz87_1:w86.cell? ⟨gb334,1,none⟩ = some (.slice none 0 0):=(blk_cell BK334.out 1).trans rfl;have hcz87_2:w86.cell? ⟨gb334,2,none⟩ = some (.int .i64 0):=(blk_cell BK334.out 2).trans rfl;have hfz87_0:=blk_frozen BK334.out 0;have hfz87_1:=blk_frozen BK334.out 1;have hfz87_2:=blk_frozen BK334.out 2))
  refine bodyPost_ret (results_cell_row rfl _ _ gb334 31 #[.slice none 0 0,.slice none 0 0,.int .i64 t336] (0,0) _ rfl (by (with_reducible repeat (first|refine blk_drewN ?_ _|refine blk_drew ?_|refine blk_alloc ?_ _));refine blk_put (cs:=#[.slice none 0 0,.slice none 0 0,.int .i64 0]) ?_ 2 _ rfl;(with_reducible repeat (first|refine blk_drewN ?_ _|refine blk_drew ?_|refine blk_alloc ?_ _));refine blk_put (cs:=#[.slice none 0 0,.slice none 0 0,.int .i64 0]) ?_ 1 _ rfl;(with_reducible repeat (first|refine blk_drewN ?_ _|refine blk_drew ?_|refine blk_alloc ?_ _));refine blk_put (cs:=#[.slice none 0 0,.slice none 0 0,.int .i64 0]) ?_ 0 _ rfl;(with_reducible repeat (first|refine blk_drewN ?_ _|refine blk_drew ?_|refine blk_alloc ?_ _));exact BK334.out) Try.underlying31 rfl (by kernel_rfl)) rfl ?_
  exact ⟨_,_,zmb17_0,zmb17_9,zmb17_9,zmb17_7⟩
end Go.Proofs.Ytecbponmpinnoaa.P
end
