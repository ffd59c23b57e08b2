/- A claim's text, put together by a program of this session (wip/tools/shake.py): the declarations that the claim needs. -/
import Derived.Test.YtecbponmpinnoaaNb0
import Derived.Test.YtecbponmpinnoaaNb1
import Derived.Test.YtecbponmpinnoaaNb2
import Derived.Test.YtecbponmpinnoaaNb3
import Derived.Test.YtecbponmpinnoaaNb4
import Derived.Test.YtecbponmpinnoaaNb5
import Derived.Test.YtecbponmpinnoaaNb6
import Derived.Test.YtecbponmpinnoaaNb7
import Derived.Test.YtecbponmpinnoaaProg
import Derived.Below
import Derived.Deep.Draws
import Derived.Deep.AppendLies
import Derived.Maps.AppendAt
import Derived.OwnWalk
import Derived.Laws.BytesArg
import Derived.Laws.MakeOwn
import Derived.Laws.OwnMore
import Derived.Deep.OwnRows
import Derived.Tactics
import Derived.Lib.ConvBytes
import Derived.Laws.Slices
import Derived.WalkKit
import Derived.KernelRfl
import Derived.RowKit3
import Derived.Deep.LoopGhost
import Derived.Deep.QuietTactic
import Derived.BigQuiet
import Derived.WideLaws
import Derived.Deep.DeepCutAuto
import Derived.Deep.CutBlock
import Derived.Deep.RegionHeld3
import Derived.Laws.Rows
import Derived.Lib.AppendStr
import Derived.ArgAppend
import Derived.Laws.IdiomCopy
import Derived.OrdersHeld
import Derived.Laws.BitsLemmas
import Derived.RowKit
import Derived.Deep.WholeRow
import Derived.Outline
import Derived.WalkMore
import Derived.ScopeJumps
import Derived.Deep.DeepFit
import Derived.Maps.OwnOps
import Derived.Maps.Views
import Derived.Carry
import Derived.WalkArith
import Derived.Laws.StructEq
set_option linter.unusedVariables false
set_option linter.unusedSimpArgs false
section
namespace Go.Proofs.Ytecbponmpinnoaa.P
open Go.RowKit Go.Proofs.YtecbponmpinnoaaW.PrintWords Go.Proofs.YtecbponmpinnoaaW.PrintLast Go.Proofs.YtecbponmpinnoaaW.PrintMore
attribute [local go_sem] max2_int min2_int max_two min_two max_three min_three max_four min_four   
set_option linter.unusedVariables false
set_option linter.unusedSimpArgs false
def inst_fits.j0 : Nat → Int → Bool → ByteArray → Int → Int → Int → Int → Option (Bool)
  | 0, _, _, _, _, _, _, _ => none
  | k + 1, x1, x11, x420000, x420001, x420002, x420003, x420004 => if x11 = true then (some true) else ((inst_bits.f x1 12 3).bind fun t420 => (if t420 = x420003 then (if x420001 = 82 then (some ((x1 / 33554432) == x420004)) else (if x420001 = 72 then (some ((x1 / 33554432) == x420004)) else (some true))) else (some false)))
def inst_fits.f (k : Nat) (a0_0 : ByteArray) (a0_1 : Int) (a0_2 : Int) (a0_3 : Int) (a0_4 : Int) (a1 : Int) : Option (Bool) := if (Go.bits .and .u32 a1 127) = a0_2 then (if a0_1 = 85 then (inst_fits.j0 k a1 true a0_0 a0_1 a0_2 a0_3 a0_4) else (inst_fits.j0 k a1 (a0_1 == 74) a0_0 a0_1 a0_2 a0_3 a0_4)) else (some false)
set_option maxHeartbeats 8000000 in
set_option maxRecDepth 100000 in
theorem inst_fits.calls (k : Nat) (a0_0 : ByteArray) (a0_1 : Int) (a0_2 : Int) (a0_3 : Int) (a0_4 : Int) (a1 : Int) (r : Bool) (w : World) (h : inst_fits.f k a0_0 a0_1 a0_2 a0_3 a0_4 a1 = some r) :
    Calls Try.prog 39 #[.agg #[.string a0_0, .int .u8 a0_1, .int .u32 a0_2, .int .u32 a0_3, .int .u32 a0_4], .int .u32 a1] w fun e w' => e = .returned (.bool r) ∧ Below w.heap.size w w' := by
  have hu80 := Try.underlying80
  have HB := Aside0.mk (Below.refl w.heap.size w)
  have H : (if (Go.bits .and .u32 a1 127) = a0_2 then (if a0_1 = 85 then (inst_fits.j0 k a1 true a0_0 a0_1 a0_2 a0_3 a0_4) else (inst_fits.j0 k a1 (a0_1 == 74) a0_0 a0_1 a0_2 a0_3 a0_4)) else (some false)) = some r := h
  clear h
  by_cases c3 : (Go.bits .and .u32 a1 127) = a0_2
  · rw [if_pos c3] at H
    have c3b0 : ((Go.bits .and .u32 a1 127) == a0_2) = true := beq_iff_eq.mpr c3
    have c3b1 : ((Go.bits .and .u32 a1 127) != a0_2) = false := bne_eq_false_iff_eq.mpr c3
    clear c3
    have HC4 := Aside0.mk H
    clear H
    go_enter Try.func39, Try.ntmps39
    go_upto_region 3 with (first | ((with_reducible refine gate_dst (N := 2) rfl ?_); refine box_event ?hg (N := 2) ?hd (cs := #[.string a0_0, .int .u8 a0_1, .int .u32 a0_2, .int .u32 a0_3, .int .u32 a0_4]) (t := 80) ?hr ?_; (case hd => rfl); (case hg => rfl); (case hr => first | (go_simp; done) | (go_simp; rfl)); intro gb419 hg w5 hbox hb; have n0_ := Aside0.mk (below_step (by repeat (first | (with_reducible first | exact HB.out | apply below_alloc | apply pw_below_drewN | apply below_drew1) | exact HB.out)) hb); have n1_ := Aside0.mk (hbox); have n2_ := Aside0.mk ((by rw [hg]; exact (below_size (by repeat (first | (with_reducible first | exact HB.out | apply below_alloc | apply pw_below_drewN | apply below_drew1) | exact HB.out))) : w.heap.size ≤ gb419)); have n3_ := Aside0.mk ((by rw [hg]; exact (below_size (by repeat (first | (with_reducible first | exact HB.out | apply below_alloc | apply pw_below_drewN | apply below_drew1) | exact HB.out))) : w.heap.size ≤ gb419)); clear HB; have HB := n0_; have BK419 := n1_; have GW419 := n2_; have GE419 := n3_; clear n0_ n1_ n2_ n3_; clear hb hbox hg; have hcz6_0 : w5.cell? ⟨gb419, 0, none⟩ = some (.string a0_0) := (blk_cell BK419.out 0).trans rfl; have hcz6_1 : w5.cell? ⟨gb419, 1, none⟩ = some (.int .u8 a0_1) := (blk_cell BK419.out 1).trans rfl; have hcz6_2 : w5.cell? ⟨gb419, 2, none⟩ = some (.int .u32 a0_2) := (blk_cell BK419.out 2).trans rfl; have hcz6_3 : w5.cell? ⟨gb419, 3, none⟩ = some (.int .u32 a0_3) := (blk_cell BK419.out 3).trans rfl; have hcz6_4 : w5.cell? ⟨gb419, 4, none⟩ = some (.int .u32 a0_4) := (blk_cell BK419.out 4).trans rfl; have hfz6_0 := blk_frozen BK419.out 0; have hfz6_1 := blk_frozen BK419.out 1; have hfz6_2 := blk_frozen BK419.out 2; have hfz6_3 := blk_frozen BK419.out 3; have hfz6_4 := blk_frozen BK419.out 4))
    repeat (go_quiet (first | ((with_reducible refine gate_dst (N := 2) rfl ?_); refine box_event ?hg (N := 2) ?hd (cs := #[.string a0_0, .int .u8 a0_1, .int .u32 a0_2, .int .u32 a0_3, .int .u32 a0_4]) (t := 80) ?hr ?_; (case hd => rfl); (case hg => rfl); (case hr => first | (go_simp; done) | (go_simp; rfl)); intro gb419 hg w5 hbox hb; have n0_ := Aside0.mk (below_step (by repeat (first | (with_reducible first | exact HB.out | apply below_alloc | apply pw_below_drewN | apply below_drew1) | exact HB.out)) hb); have n1_ := Aside0.mk (hbox); have n2_ := Aside0.mk ((by rw [hg]; exact (below_size (by repeat (first | (with_reducible first | exact HB.out | apply below_alloc | apply pw_below_drewN | apply below_drew1) | exact HB.out))) : w.heap.size ≤ gb419)); have n3_ := Aside0.mk ((by rw [hg]; exact (below_size (by repeat (first | (with_reducible first | exact HB.out | apply below_alloc | apply pw_below_drewN | apply below_drew1) | exact HB.out))) : w.heap.size ≤ gb419)); clear HB; have HB := n0_; have BK419 := n1_; have GW419 := n2_; have GE419 := n3_; clear n0_ n1_ n2_ n3_; clear hb hbox hg; have hcz6_0 : w5.cell? ⟨gb419, 0, none⟩ = some (.string a0_0) := (blk_cell BK419.out 0).trans rfl; have hcz6_1 : w5.cell? ⟨gb419, 1, none⟩ = some (.int .u8 a0_1) := (blk_cell BK419.out 1).trans rfl; have hcz6_2 : w5.cell? ⟨gb419, 2, none⟩ = some (.int .u32 a0_2) := (blk_cell BK419.out 2).trans rfl; have hcz6_3 : w5.cell? ⟨gb419, 3, none⟩ = some (.int .u32 a0_3) := (blk_cell BK419.out 3).trans rfl; have hcz6_4 : w5.cell? ⟨gb419, 4, none⟩ = some (.int .u32 a0_4) := (blk_cell BK419.out 4).trans rfl; have hfz6_0 := blk_frozen BK419.out 0; have hfz6_1 := blk_frozen BK419.out 1; have hfz6_2 := blk_frozen BK419.out 2; have hfz6_3 := blk_frozen BK419.out 3; have hfz6_4 := blk_frozen BK419.out 4)); go_upto_region 3 with (first | ((with_reducible refine gate_dst (N := 2) rfl ?_); refine box_event ?hg (N := 2) ?hd (cs := #[.string a0_0, .int .u8 a0_1, .int .u32 a0_2, .int .u32 a0_3, .int .u32 a0_4]) (t := 80) ?hr ?_; (case hd => rfl); (case hg => rfl); (case hr => first | (go_simp; done) | (go_simp; rfl)); intro gb419 hg w5 hbox hb; have n0_ := Aside0.mk (below_step (by repeat (first | (with_reducible first | exact HB.out | apply below_alloc | apply pw_below_drewN | apply below_drew1) | exact HB.out)) hb); have n1_ := Aside0.mk (hbox); have n2_ := Aside0.mk ((by rw [hg]; exact (below_size (by repeat (first | (with_reducible first | exact HB.out | apply below_alloc | apply pw_below_drewN | apply below_drew1) | exact HB.out))) : w.heap.size ≤ gb419)); have n3_ := Aside0.mk ((by rw [hg]; exact (below_size (by repeat (first | (with_reducible first | exact HB.out | apply below_alloc | apply pw_below_drewN | apply below_drew1) | exact HB.out))) : w.heap.size ≤ gb419)); clear HB; have HB := n0_; have BK419 := n1_; have GW419 := n2_; have GE419 := n3_; clear n0_ n1_ n2_ n3_; clear hb hbox hg; have hcz6_0 : w5.cell? ⟨gb419, 0, none⟩ = some (.string a0_0) := (blk_cell BK419.out 0).trans rfl; have hcz6_1 : w5.cell? ⟨gb419, 1, none⟩ = some (.int .u8 a0_1) := (blk_cell BK419.out 1).trans rfl; have hcz6_2 : w5.cell? ⟨gb419, 2, none⟩ = some (.int .u32 a0_2) := (blk_cell BK419.out 2).trans rfl; have hcz6_3 : w5.cell? ⟨gb419, 3, none⟩ = some (.int .u32 a0_3) := (blk_cell BK419.out 3).trans rfl; have hcz6_4 : w5.cell? ⟨gb419, 4, none⟩ = some (.int .u32 a0_4) := (blk_cell BK419.out 4).trans rfl; have hfz6_0 := blk_frozen BK419.out 0; have hfz6_1 := blk_frozen BK419.out 1; have hfz6_2 := blk_frozen BK419.out 2; have hfz6_3 := blk_frozen BK419.out 3; have hfz6_4 := blk_frozen BK419.out 4)))
    (try simp only [Act.put, List.setIfInBounds_toArray, List.set_cons_zero, List.set_cons_succ])
    go_cut [11] (fun v11 wc => ∃ (kq : Nat) (x11_3 : Bool), v11 = .bool x11_3 ∧ Aside0 (inst_fits.j0 kq a1 x11_3 a0_0 a0_1 a0_2 a0_3 a0_4 = some r) ∧ Aside0 (kq ≤ k) ∧ Aside0 (wc.heap[gb419]? = some (.cells #[.string a0_0, .int .u8 a0_1, .int .u32 a0_2, .int .u32 a0_3, .int .u32 a0_4] 80 (0, 0))) ∧ Aside0 (Below w.heap.size w wc))
    case first =>
      have H := HC4.out
      clear HC4
      by_cases c7 : a0_1 = 85
      · rw [if_pos c7] at H
        have c7b0 : (a0_1 == 85) = true := beq_iff_eq.mpr c7
        have c7b1 : (a0_1 != 85) = false := bne_eq_false_iff_eq.mpr c7
        clear c7
        (first | rw [c7b0] | (simp only [i64_w, i32_w]; rw [c7b0]) | skip)
        have H' := Aside0.mk H
        clear H
        have hcz8_0 : w5.cell? ⟨gb419, 0, none⟩ = some (.string a0_0) := (blk_cell BK419.out 0).trans rfl
        have hcz8_1 : w5.cell? ⟨gb419, 1, none⟩ = some (.int .u8 a0_1) := (blk_cell BK419.out 1).trans rfl
        have hcz8_2 : w5.cell? ⟨gb419, 2, none⟩ = some (.int .u32 a0_2) := (blk_cell BK419.out 2).trans rfl
        have hcz8_3 : w5.cell? ⟨gb419, 3, none⟩ = some (.int .u32 a0_3) := (blk_cell BK419.out 3).trans rfl
        have hcz8_4 : w5.cell? ⟨gb419, 4, none⟩ = some (.int .u32 a0_4) := (blk_cell BK419.out 4).trans rfl
        have hfz8_0 := blk_frozen BK419.out 0
        have hfz8_1 := blk_frozen BK419.out 1
        have hfz8_2 := blk_frozen BK419.out 2
        have hfz8_3 := blk_frozen BK419.out 3
        have hfz8_4 := blk_frozen BK419.out 4
        go_wp2
        repeat (go_quiet (fail); try go_wp2)
        go_meet
        case rel => exact ⟨_, (true), (by first | rfl | (simp; done) | (simp [*]; done)), H', ⟨by first | omega | exact Nat.le_refl _⟩, ⟨by (with_reducible repeat (first | refine blk_drewN ?_ _ | refine blk_drew ?_ | refine blk_alloc ?_ _)); exact BK419.out⟩, ⟨by repeat (first | (with_reducible first | exact HB.out | apply below_alloc | apply pw_below_drewN | apply below_drew1 | refine below_set ?_ GE419.out) | exact HB.out)⟩⟩
      · rw [if_neg c7] at H
        have c7b0 : (a0_1 == 85) = false := beq_eq_false_iff_ne.mpr c7
        have c7b1 : (a0_1 != 85) = true := bne_iff_ne.mpr c7
        (first | rw [c7b0] | (simp only [i64_w, i32_w]; rw [c7b0]) | skip)
        have H' := Aside0.mk H
        clear H
        have hcz9_0 : w5.cell? ⟨gb419, 0, none⟩ = some (.string a0_0) := (blk_cell BK419.out 0).trans rfl
        have hcz9_1 : w5.cell? ⟨gb419, 1, none⟩ = some (.int .u8 a0_1) := (blk_cell BK419.out 1).trans rfl
        have hcz9_2 : w5.cell? ⟨gb419, 2, none⟩ = some (.int .u32 a0_2) := (blk_cell BK419.out 2).trans rfl
        have hcz9_3 : w5.cell? ⟨gb419, 3, none⟩ = some (.int .u32 a0_3) := (blk_cell BK419.out 3).trans rfl
        have hcz9_4 : w5.cell? ⟨gb419, 4, none⟩ = some (.int .u32 a0_4) := (blk_cell BK419.out 4).trans rfl
        have hfz9_0 := blk_frozen BK419.out 0
        have hfz9_1 := blk_frozen BK419.out 1
        have hfz9_2 := blk_frozen BK419.out 2
        have hfz9_3 := blk_frozen BK419.out 3
        have hfz9_4 := blk_frozen BK419.out 4
        go_wp2
        repeat (go_quiet (fail); try go_wp2)
        go_meet
        case rel => exact ⟨_, ((a0_1 == 74)), (by first | rfl | (simp; done) | (simp [*]; done)), H', ⟨by first | omega | exact Nat.le_refl _⟩, ⟨by (with_reducible repeat (first | refine blk_drewN ?_ _ | refine blk_drew ?_ | refine blk_alloc ?_ _)); exact BK419.out⟩, ⟨by repeat (first | (with_reducible first | exact HB.out | apply below_alloc | apply pw_below_drewN | apply below_drew1 | refine below_set ?_ GE419.out) | exact HB.out)⟩⟩
    case rest =>
      clear HC4
      try clear p2
      try clear c3
      try clear c3b0
      try clear c3b1
      try clear c7
      try clear c7b0
      try clear c7b1
      try clear hcz6_0
      try clear hcz6_1
      try clear hcz6_2
      try clear hcz6_3
      try clear hcz6_4
      try clear hcz8_0
      try clear hcz8_1
      try clear hcz8_2
      try clear hcz8_3
      try clear hcz8_4
      try clear hcz9_0
      try clear hcz9_1
      try clear hcz9_2
      try clear hcz9_3
      try clear hcz9_4
      try clear hfz6_0
      try clear hfz6_1
      try clear hfz6_2
      try clear hfz6_3
      try clear hfz6_4
      try clear hfz8_0
      try clear hfz8_1
      try clear hfz8_2
      try clear hfz8_3
      try clear hfz8_4
      try clear hfz9_0
      try clear hfz9_1
      try clear hfz9_2
      try clear hfz9_3
      try clear hfz9_4
      obtain ⟨kq, x11_3, rfl, HA, HJ3, BK419, HB⟩ := hcut
      cases kq with
      | zero => exact absurd HA.out (by simp [inst_fits.j0])
      | succ kj3 =>
        have H := HA.out
        clear HA
        simp only [inst_fits.j0] at H
        by_cases c10 : x11_3 = true
        · subst c10
          have H1 : (some true) = some r := by rw [if_pos rfl] at H; exact H
          clear H
          have H := H1
          clear H1
          obtain rfl := Option.some.inj H
          go_wp2
          repeat (go_quiet (fail); try go_wp2)
          go_ret
          exact ⟨by first | rfl | (simp [errW_none, errW_some] <;> rfl) | (simp [*, errW_none, errW_some] <;> rfl), by repeat (first | (with_reducible first | exact HB.out | apply below_alloc | apply pw_below_drewN | apply below_drew1 | refine below_set ?_ GE419.out) | exact HB.out)⟩
        · replace c10 := Bool.eq_false_iff.mpr c10
          subst c10
          have H1 : ((inst_bits.f a1 12 3).bind fun t420 => (if t420 = a0_3 then (if a0_1 = 82 then (some ((a1 / 33554432) == a0_4)) else (if a0_1 = 72 then (some ((a1 / 33554432) == a0_4)) else (some true))) else (some false))) = some r := by rw [if_neg (show ¬ (false = true) by decide)] at H; exact H
          clear H
          have H := H1
          clear H1
          replace H := Option.bind_eq_some_iff.mp H
          obtain ⟨t420, A110, H⟩ := H
          replace H : (if t420 = a0_3 then (if a0_1 = 82 then (some ((a1 / 33554432) == a0_4)) else (if a0_1 = 72 then (some ((a1 / 33554432) == a0_4)) else (some true))) else (some false)) = some r := H
          have A11 := Aside0.mk A110
          clear A110
          by_cases c12 : t420 = a0_3
          · rw [if_pos c12] at H
            have c12b0 : (t420 == a0_3) = true := beq_iff_eq.mpr c12
            have c12b1 : (t420 != a0_3) = false := bne_eq_false_iff_eq.mpr c12
            clear c12
            by_cases c13 : a0_1 = 82
            · rw [if_pos c13] at H
              have c13b0 : (a0_1 == 82) = true := beq_iff_eq.mpr c13
              have c13b1 : (a0_1 != 82) = false := bne_eq_false_iff_eq.mpr c13
              clear c13
              obtain rfl := Option.some.inj H
              go_wp2_with (first | (go_at_call 42; (with_reducible refine (inst_bits.calls a1 12 3 t420 _ A11.out).mono ?_); rintro e w' ⟨rfl, ⟨nd, rfl⟩⟩; (try first | exact ⟨rfl, _, World.drewN_drewN _ _ _⟩ | exact ⟨rfl, _, Eq.trans (World.drewN_drewN _ _ _) (congrArg (World.drewN _) (Nat.add_assoc _ _ _))⟩); have hcz14_0 : wc.cell? ⟨gb419, 0, none⟩ = some (.string a0_0) := (blk_cell BK419.out 0).trans rfl; have hcz14_1 : wc.cell? ⟨gb419, 1, none⟩ = some (.int .u8 a0_1) := (blk_cell BK419.out 1).trans rfl; have hcz14_2 : wc.cell? ⟨gb419, 2, none⟩ = some (.int .u32 a0_2) := (blk_cell BK419.out 2).trans rfl; have hcz14_3 : wc.cell? ⟨gb419, 3, none⟩ = some (.int .u32 a0_3) := (blk_cell BK419.out 3).trans rfl; have hcz14_4 : wc.cell? ⟨gb419, 4, none⟩ = some (.int .u32 a0_4) := (blk_cell BK419.out 4).trans rfl; have hfz14_0 := blk_frozen BK419.out 0; have hfz14_1 := blk_frozen BK419.out 1; have hfz14_2 := blk_frozen BK419.out 2; have hfz14_3 := blk_frozen BK419.out 3; have hfz14_4 := blk_frozen BK419.out 4))
              repeat (go_quiet (first | (go_at_call 42; (with_reducible refine (inst_bits.calls a1 12 3 t420 _ A11.out).mono ?_); rintro e w' ⟨rfl, ⟨nd, rfl⟩⟩; (try first | exact ⟨rfl, _, World.drewN_drewN _ _ _⟩ | exact ⟨rfl, _, Eq.trans (World.drewN_drewN _ _ _) (congrArg (World.drewN _) (Nat.add_assoc _ _ _))⟩); have hcz14_0 : wc.cell? ⟨gb419, 0, none⟩ = some (.string a0_0) := (blk_cell BK419.out 0).trans rfl; have hcz14_1 : wc.cell? ⟨gb419, 1, none⟩ = some (.int .u8 a0_1) := (blk_cell BK419.out 1).trans rfl; have hcz14_2 : wc.cell? ⟨gb419, 2, none⟩ = some (.int .u32 a0_2) := (blk_cell BK419.out 2).trans rfl; have hcz14_3 : wc.cell? ⟨gb419, 3, none⟩ = some (.int .u32 a0_3) := (blk_cell BK419.out 3).trans rfl; have hcz14_4 : wc.cell? ⟨gb419, 4, none⟩ = some (.int .u32 a0_4) := (blk_cell BK419.out 4).trans rfl; have hfz14_0 := blk_frozen BK419.out 0; have hfz14_1 := blk_frozen BK419.out 1; have hfz14_2 := blk_frozen BK419.out 2; have hfz14_3 := blk_frozen BK419.out 3; have hfz14_4 := blk_frozen BK419.out 4)); try go_wp2_with (first | (go_at_call 42; (with_reducible refine (inst_bits.calls a1 12 3 t420 _ A11.out).mono ?_); rintro e w' ⟨rfl, ⟨nd, rfl⟩⟩; (try first | exact ⟨rfl, _, World.drewN_drewN _ _ _⟩ | exact ⟨rfl, _, Eq.trans (World.drewN_drewN _ _ _) (congrArg (World.drewN _) (Nat.add_assoc _ _ _))⟩); have hcz14_0 : wc.cell? ⟨gb419, 0, none⟩ = some (.string a0_0) := (blk_cell BK419.out 0).trans rfl; have hcz14_1 : wc.cell? ⟨gb419, 1, none⟩ = some (.int .u8 a0_1) := (blk_cell BK419.out 1).trans rfl; have hcz14_2 : wc.cell? ⟨gb419, 2, none⟩ = some (.int .u32 a0_2) := (blk_cell BK419.out 2).trans rfl; have hcz14_3 : wc.cell? ⟨gb419, 3, none⟩ = some (.int .u32 a0_3) := (blk_cell BK419.out 3).trans rfl; have hcz14_4 : wc.cell? ⟨gb419, 4, none⟩ = some (.int .u32 a0_4) := (blk_cell BK419.out 4).trans rfl; have hfz14_0 := blk_frozen BK419.out 0; have hfz14_1 := blk_frozen BK419.out 1; have hfz14_2 := blk_frozen BK419.out 2; have hfz14_3 := blk_frozen BK419.out 3; have hfz14_4 := blk_frozen BK419.out 4)))
              go_ret
              exact ⟨by first | rfl | (simp [errW_none, errW_some] <;> rfl) | (simp [*, errW_none, errW_some] <;> rfl), by repeat (first | (with_reducible first | exact HB.out | apply below_alloc | apply pw_below_drewN | apply below_drew1 | refine below_set ?_ GE419.out) | exact HB.out)⟩
            · rw [if_neg c13] at H
              have c13b0 : (a0_1 == 82) = false := beq_eq_false_iff_ne.mpr c13
              have c13b1 : (a0_1 != 82) = true := bne_iff_ne.mpr c13
              by_cases c15 : a0_1 = 72
              · rw [if_pos c15] at H
                have c15b0 : (a0_1 == 72) = true := beq_iff_eq.mpr c15
                have c15b1 : (a0_1 != 72) = false := bne_eq_false_iff_eq.mpr c15
                clear c15
                obtain rfl := Option.some.inj H
                go_wp2_with (first | (go_at_call 42; (with_reducible refine (inst_bits.calls a1 12 3 t420 _ A11.out).mono ?_); rintro e w' ⟨rfl, ⟨nd, rfl⟩⟩; (try first | exact ⟨rfl, _, World.drewN_drewN _ _ _⟩ | exact ⟨rfl, _, Eq.trans (World.drewN_drewN _ _ _) (congrArg (World.drewN _) (Nat.add_assoc _ _ _))⟩); have hcz16_0 : wc.cell? ⟨gb419, 0, none⟩ = some (.string a0_0) := (blk_cell BK419.out 0).trans rfl; have hcz16_1 : wc.cell? ⟨gb419, 1, none⟩ = some (.int .u8 a0_1) := (blk_cell BK419.out 1).trans rfl; have hcz16_2 : wc.cell? ⟨gb419, 2, none⟩ = some (.int .u32 a0_2) := (blk_cell BK419.out 2).trans rfl; have hcz16_3 : wc.cell? ⟨gb419, 3, none⟩ = some (.int .u32 a0_3) := (blk_cell BK419.out 3).trans rfl; have hcz16_4 : wc.cell? ⟨gb419, 4, none⟩ = some (.int .u32 a0_4) := (blk_cell BK419.out 4).trans rfl; have hfz16_0 := blk_frozen BK419.out 0; have hfz16_1 := blk_frozen BK419.out 1; have hfz16_2 := blk_frozen BK419.out 2; have hfz16_3 := blk_frozen BK419.out 3; have hfz16_4 := blk_frozen BK419.out 4))
                repeat (go_quiet (first | (go_at_call 42; (with_reducible refine (inst_bits.calls a1 12 3 t420 _ A11.out).mono ?_); rintro e w' ⟨rfl, ⟨nd, rfl⟩⟩; (try first | exact ⟨rfl, _, World.drewN_drewN _ _ _⟩ | exact ⟨rfl, _, Eq.trans (World.drewN_drewN _ _ _) (congrArg (World.drewN _) (Nat.add_assoc _ _ _))⟩); have hcz16_0 : wc.cell? ⟨gb419, 0, none⟩ = some (.string a0_0) := (blk_cell BK419.out 0).trans rfl; have hcz16_1 : wc.cell? ⟨gb419, 1, none⟩ = some (.int .u8 a0_1) := (blk_cell BK419.out 1).trans rfl; have hcz16_2 : wc.cell? ⟨gb419, 2, none⟩ = some (.int .u32 a0_2) := (blk_cell BK419.out 2).trans rfl; have hcz16_3 : wc.cell? ⟨gb419, 3, none⟩ = some (.int .u32 a0_3) := (blk_cell BK419.out 3).trans rfl; have hcz16_4 : wc.cell? ⟨gb419, 4, none⟩ = some (.int .u32 a0_4) := (blk_cell BK419.out 4).trans rfl; have hfz16_0 := blk_frozen BK419.out 0; have hfz16_1 := blk_frozen BK419.out 1; have hfz16_2 := blk_frozen BK419.out 2; have hfz16_3 := blk_frozen BK419.out 3; have hfz16_4 := blk_frozen BK419.out 4)); try go_wp2_with (first | (go_at_call 42; (with_reducible refine (inst_bits.calls a1 12 3 t420 _ A11.out).mono ?_); rintro e w' ⟨rfl, ⟨nd, rfl⟩⟩; (try first | exact ⟨rfl, _, World.drewN_drewN _ _ _⟩ | exact ⟨rfl, _, Eq.trans (World.drewN_drewN _ _ _) (congrArg (World.drewN _) (Nat.add_assoc _ _ _))⟩); have hcz16_0 : wc.cell? ⟨gb419, 0, none⟩ = some (.string a0_0) := (blk_cell BK419.out 0).trans rfl; have hcz16_1 : wc.cell? ⟨gb419, 1, none⟩ = some (.int .u8 a0_1) := (blk_cell BK419.out 1).trans rfl; have hcz16_2 : wc.cell? ⟨gb419, 2, none⟩ = some (.int .u32 a0_2) := (blk_cell BK419.out 2).trans rfl; have hcz16_3 : wc.cell? ⟨gb419, 3, none⟩ = some (.int .u32 a0_3) := (blk_cell BK419.out 3).trans rfl; have hcz16_4 : wc.cell? ⟨gb419, 4, none⟩ = some (.int .u32 a0_4) := (blk_cell BK419.out 4).trans rfl; have hfz16_0 := blk_frozen BK419.out 0; have hfz16_1 := blk_frozen BK419.out 1; have hfz16_2 := blk_frozen BK419.out 2; have hfz16_3 := blk_frozen BK419.out 3; have hfz16_4 := blk_frozen BK419.out 4)))
                go_ret
                exact ⟨by first | rfl | (simp [errW_none, errW_some] <;> rfl) | (simp [*, errW_none, errW_some] <;> rfl), by repeat (first | (with_reducible first | exact HB.out | apply below_alloc | apply pw_below_drewN | apply below_drew1 | refine below_set ?_ GE419.out) | exact HB.out)⟩
              · rw [if_neg c15] at H
                have c15b0 : (a0_1 == 72) = false := beq_eq_false_iff_ne.mpr c15
                have c15b1 : (a0_1 != 72) = true := bne_iff_ne.mpr c15
                obtain rfl := Option.some.inj H
                go_wp2_with (first | (go_at_call 42; (with_reducible refine (inst_bits.calls a1 12 3 t420 _ A11.out).mono ?_); rintro e w' ⟨rfl, ⟨nd, rfl⟩⟩; (try first | exact ⟨rfl, _, World.drewN_drewN _ _ _⟩ | exact ⟨rfl, _, Eq.trans (World.drewN_drewN _ _ _) (congrArg (World.drewN _) (Nat.add_assoc _ _ _))⟩); have hcz17_0 : wc.cell? ⟨gb419, 0, none⟩ = some (.string a0_0) := (blk_cell BK419.out 0).trans rfl; have hcz17_1 : wc.cell? ⟨gb419, 1, none⟩ = some (.int .u8 a0_1) := (blk_cell BK419.out 1).trans rfl; have hcz17_2 : wc.cell? ⟨gb419, 2, none⟩ = some (.int .u32 a0_2) := (blk_cell BK419.out 2).trans rfl; have hcz17_3 : wc.cell? ⟨gb419, 3, none⟩ = some (.int .u32 a0_3) := (blk_cell BK419.out 3).trans rfl; have hcz17_4 : wc.cell? ⟨gb419, 4, none⟩ = some (.int .u32 a0_4) := (blk_cell BK419.out 4).trans rfl; have hfz17_0 := blk_frozen BK419.out 0; have hfz17_1 := blk_frozen BK419.out 1; have hfz17_2 := blk_frozen BK419.out 2; have hfz17_3 := blk_frozen BK419.out 3; have hfz17_4 := blk_frozen BK419.out 4))
                repeat (go_quiet (first | (go_at_call 42; (with_reducible refine (inst_bits.calls a1 12 3 t420 _ A11.out).mono ?_); rintro e w' ⟨rfl, ⟨nd, rfl⟩⟩; (try first | exact ⟨rfl, _, World.drewN_drewN _ _ _⟩ | exact ⟨rfl, _, Eq.trans (World.drewN_drewN _ _ _) (congrArg (World.drewN _) (Nat.add_assoc _ _ _))⟩); have hcz17_0 : wc.cell? ⟨gb419, 0, none⟩ = some (.string a0_0) := (blk_cell BK419.out 0).trans rfl; have hcz17_1 : wc.cell? ⟨gb419, 1, none⟩ = some (.int .u8 a0_1) := (blk_cell BK419.out 1).trans rfl; have hcz17_2 : wc.cell? ⟨gb419, 2, none⟩ = some (.int .u32 a0_2) := (blk_cell BK419.out 2).trans rfl; have hcz17_3 : wc.cell? ⟨gb419, 3, none⟩ = some (.int .u32 a0_3) := (blk_cell BK419.out 3).trans rfl; have hcz17_4 : wc.cell? ⟨gb419, 4, none⟩ = some (.int .u32 a0_4) := (blk_cell BK419.out 4).trans rfl; have hfz17_0 := blk_frozen BK419.out 0; have hfz17_1 := blk_frozen BK419.out 1; have hfz17_2 := blk_frozen BK419.out 2; have hfz17_3 := blk_frozen BK419.out 3; have hfz17_4 := blk_frozen BK419.out 4)); try go_wp2_with (first | (go_at_call 42; (with_reducible refine (inst_bits.calls a1 12 3 t420 _ A11.out).mono ?_); rintro e w' ⟨rfl, ⟨nd, rfl⟩⟩; (try first | exact ⟨rfl, _, World.drewN_drewN _ _ _⟩ | exact ⟨rfl, _, Eq.trans (World.drewN_drewN _ _ _) (congrArg (World.drewN _) (Nat.add_assoc _ _ _))⟩); have hcz17_0 : wc.cell? ⟨gb419, 0, none⟩ = some (.string a0_0) := (blk_cell BK419.out 0).trans rfl; have hcz17_1 : wc.cell? ⟨gb419, 1, none⟩ = some (.int .u8 a0_1) := (blk_cell BK419.out 1).trans rfl; have hcz17_2 : wc.cell? ⟨gb419, 2, none⟩ = some (.int .u32 a0_2) := (blk_cell BK419.out 2).trans rfl; have hcz17_3 : wc.cell? ⟨gb419, 3, none⟩ = some (.int .u32 a0_3) := (blk_cell BK419.out 3).trans rfl; have hcz17_4 : wc.cell? ⟨gb419, 4, none⟩ = some (.int .u32 a0_4) := (blk_cell BK419.out 4).trans rfl; have hfz17_0 := blk_frozen BK419.out 0; have hfz17_1 := blk_frozen BK419.out 1; have hfz17_2 := blk_frozen BK419.out 2; have hfz17_3 := blk_frozen BK419.out 3; have hfz17_4 := blk_frozen BK419.out 4)))
                go_ret
                exact ⟨by first | rfl | (simp [errW_none, errW_some] <;> rfl) | (simp [*, errW_none, errW_some] <;> rfl), by repeat (first | (with_reducible first | exact HB.out | apply below_alloc | apply pw_below_drewN | apply below_drew1 | refine below_set ?_ GE419.out) | exact HB.out)⟩
          · rw [if_neg c12] at H
            have c12b0 : (t420 == a0_3) = false := beq_eq_false_iff_ne.mpr c12
            have c12b1 : (t420 != a0_3) = true := bne_iff_ne.mpr c12
            obtain rfl := Option.some.inj H
            go_wp2_with (first | (go_at_call 42; (with_reducible refine (inst_bits.calls a1 12 3 t420 _ A11.out).mono ?_); rintro e w' ⟨rfl, ⟨nd, rfl⟩⟩; (try first | exact ⟨rfl, _, World.drewN_drewN _ _ _⟩ | exact ⟨rfl, _, Eq.trans (World.drewN_drewN _ _ _) (congrArg (World.drewN _) (Nat.add_assoc _ _ _))⟩); have hcz18_0 : wc.cell? ⟨gb419, 0, none⟩ = some (.string a0_0) := (blk_cell BK419.out 0).trans rfl; have hcz18_1 : wc.cell? ⟨gb419, 1, none⟩ = some (.int .u8 a0_1) := (blk_cell BK419.out 1).trans rfl; have hcz18_2 : wc.cell? ⟨gb419, 2, none⟩ = some (.int .u32 a0_2) := (blk_cell BK419.out 2).trans rfl; have hcz18_3 : wc.cell? ⟨gb419, 3, none⟩ = some (.int .u32 a0_3) := (blk_cell BK419.out 3).trans rfl; have hcz18_4 : wc.cell? ⟨gb419, 4, none⟩ = some (.int .u32 a0_4) := (blk_cell BK419.out 4).trans rfl; have hfz18_0 := blk_frozen BK419.out 0; have hfz18_1 := blk_frozen BK419.out 1; have hfz18_2 := blk_frozen BK419.out 2; have hfz18_3 := blk_frozen BK419.out 3; have hfz18_4 := blk_frozen BK419.out 4))
            repeat (go_quiet (first | (go_at_call 42; (with_reducible refine (inst_bits.calls a1 12 3 t420 _ A11.out).mono ?_); rintro e w' ⟨rfl, ⟨nd, rfl⟩⟩; (try first | exact ⟨rfl, _, World.drewN_drewN _ _ _⟩ | exact ⟨rfl, _, Eq.trans (World.drewN_drewN _ _ _) (congrArg (World.drewN _) (Nat.add_assoc _ _ _))⟩); have hcz18_0 : wc.cell? ⟨gb419, 0, none⟩ = some (.string a0_0) := (blk_cell BK419.out 0).trans rfl; have hcz18_1 : wc.cell? ⟨gb419, 1, none⟩ = some (.int .u8 a0_1) := (blk_cell BK419.out 1).trans rfl; have hcz18_2 : wc.cell? ⟨gb419, 2, none⟩ = some (.int .u32 a0_2) := (blk_cell BK419.out 2).trans rfl; have hcz18_3 : wc.cell? ⟨gb419, 3, none⟩ = some (.int .u32 a0_3) := (blk_cell BK419.out 3).trans rfl; have hcz18_4 : wc.cell? ⟨gb419, 4, none⟩ = some (.int .u32 a0_4) := (blk_cell BK419.out 4).trans rfl; have hfz18_0 := blk_frozen BK419.out 0; have hfz18_1 := blk_frozen BK419.out 1; have hfz18_2 := blk_frozen BK419.out 2; have hfz18_3 := blk_frozen BK419.out 3; have hfz18_4 := blk_frozen BK419.out 4)); try go_wp2_with (first | (go_at_call 42; (with_reducible refine (inst_bits.calls a1 12 3 t420 _ A11.out).mono ?_); rintro e w' ⟨rfl, ⟨nd, rfl⟩⟩; (try first | exact ⟨rfl, _, World.drewN_drewN _ _ _⟩ | exact ⟨rfl, _, Eq.trans (World.drewN_drewN _ _ _) (congrArg (World.drewN _) (Nat.add_assoc _ _ _))⟩); have hcz18_0 : wc.cell? ⟨gb419, 0, none⟩ = some (.string a0_0) := (blk_cell BK419.out 0).trans rfl; have hcz18_1 : wc.cell? ⟨gb419, 1, none⟩ = some (.int .u8 a0_1) := (blk_cell BK419.out 1).trans rfl; have hcz18_2 : wc.cell? ⟨gb419, 2, none⟩ = some (.int .u32 a0_2) := (blk_cell BK419.out 2).trans rfl; have hcz18_3 : wc.cell? ⟨gb419, 3, none⟩ = some (.int .u32 a0_3) := (blk_cell BK419.out 3).trans rfl; have hcz18_4 : wc.cell? ⟨gb419, 4, none⟩ = some (.int .u32 a0_4) := (blk_cell BK419.out 4).trans rfl; have hfz18_0 := blk_frozen BK419.out 0; have hfz18_1 := blk_frozen BK419.out 1; have hfz18_2 := blk_frozen BK419.out 2; have hfz18_3 := blk_frozen BK419.out 3; have hfz18_4 := blk_frozen BK419.out 4)))
            go_ret
            exact ⟨by first | rfl | (simp [errW_none, errW_some] <;> rfl) | (simp [*, errW_none, errW_some] <;> rfl), by repeat (first | (with_reducible first | exact HB.out | apply below_alloc | apply pw_below_drewN | apply below_drew1 | refine below_set ?_ GE419.out) | exact HB.out)⟩
  · rw [if_neg c3] at H
    have c3b0 : ((Go.bits .and .u32 a1 127) == a0_2) = false := beq_eq_false_iff_ne.mpr c3
    have c3b1 : ((Go.bits .and .u32 a1 127) != a0_2) = true := bne_iff_ne.mpr c3
    obtain rfl := Option.some.inj H
    go_enter Try.func39, Try.ntmps39
    go_wp2_with (first | ((with_reducible refine gate_dst (N := 2) rfl ?_); refine box_event ?hg (N := 2) ?hd (cs := #[.string a0_0, .int .u8 a0_1, .int .u32 a0_2, .int .u32 a0_3, .int .u32 a0_4]) (t := 80) ?hr ?_; (case hd => rfl); (case hg => rfl); (case hr => first | (go_simp; done) | (go_simp; rfl)); intro gb419 hg w19 hbox hb; have n0_ := Aside0.mk (below_step (by repeat (first | (with_reducible first | exact HB.out | apply below_alloc | apply pw_below_drewN | apply below_drew1) | exact HB.out)) hb); have n1_ := Aside0.mk (hbox); have n2_ := Aside0.mk ((by rw [hg]; exact (below_size (by repeat (first | (with_reducible first | exact HB.out | apply below_alloc | apply pw_below_drewN | apply below_drew1) | exact HB.out))) : w.heap.size ≤ gb419)); have n3_ := Aside0.mk ((by rw [hg]; exact (below_size (by repeat (first | (with_reducible first | exact HB.out | apply below_alloc | apply pw_below_drewN | apply below_drew1) | exact HB.out))) : w.heap.size ≤ gb419)); clear HB; have HB := n0_; have BK419 := n1_; have GW419 := n2_; have GE419 := n3_; clear n0_ n1_ n2_ n3_; clear hb hbox hg; have hcz20_0 : w19.cell? ⟨gb419, 0, none⟩ = some (.string a0_0) := (blk_cell BK419.out 0).trans rfl; have hcz20_1 : w19.cell? ⟨gb419, 1, none⟩ = some (.int .u8 a0_1) := (blk_cell BK419.out 1).trans rfl; have hcz20_2 : w19.cell? ⟨gb419, 2, none⟩ = some (.int .u32 a0_2) := (blk_cell BK419.out 2).trans rfl; have hcz20_3 : w19.cell? ⟨gb419, 3, none⟩ = some (.int .u32 a0_3) := (blk_cell BK419.out 3).trans rfl; have hcz20_4 : w19.cell? ⟨gb419, 4, none⟩ = some (.int .u32 a0_4) := (blk_cell BK419.out 4).trans rfl; have hfz20_0 := blk_frozen BK419.out 0; have hfz20_1 := blk_frozen BK419.out 1; have hfz20_2 := blk_frozen BK419.out 2; have hfz20_3 := blk_frozen BK419.out 3; have hfz20_4 := blk_frozen BK419.out 4))
    repeat (go_quiet (first | ((with_reducible refine gate_dst (N := 2) rfl ?_); refine box_event ?hg (N := 2) ?hd (cs := #[.string a0_0, .int .u8 a0_1, .int .u32 a0_2, .int .u32 a0_3, .int .u32 a0_4]) (t := 80) ?hr ?_; (case hd => rfl); (case hg => rfl); (case hr => first | (go_simp; done) | (go_simp; rfl)); intro gb419 hg w19 hbox hb; have n0_ := Aside0.mk (below_step (by repeat (first | (with_reducible first | exact HB.out | apply below_alloc | apply pw_below_drewN | apply below_drew1) | exact HB.out)) hb); have n1_ := Aside0.mk (hbox); have n2_ := Aside0.mk ((by rw [hg]; exact (below_size (by repeat (first | (with_reducible first | exact HB.out | apply below_alloc | apply pw_below_drewN | apply below_drew1) | exact HB.out))) : w.heap.size ≤ gb419)); have n3_ := Aside0.mk ((by rw [hg]; exact (below_size (by repeat (first | (with_reducible first | exact HB.out | apply below_alloc | apply pw_below_drewN | apply below_drew1) | exact HB.out))) : w.heap.size ≤ gb419)); clear HB; have HB := n0_; have BK419 := n1_; have GW419 := n2_; have GE419 := n3_; clear n0_ n1_ n2_ n3_; clear hb hbox hg; have hcz20_0 : w19.cell? ⟨gb419, 0, none⟩ = some (.string a0_0) := (blk_cell BK419.out 0).trans rfl; have hcz20_1 : w19.cell? ⟨gb419, 1, none⟩ = some (.int .u8 a0_1) := (blk_cell BK419.out 1).trans rfl; have hcz20_2 : w19.cell? ⟨gb419, 2, none⟩ = some (.int .u32 a0_2) := (blk_cell BK419.out 2).trans rfl; have hcz20_3 : w19.cell? ⟨gb419, 3, none⟩ = some (.int .u32 a0_3) := (blk_cell BK419.out 3).trans rfl; have hcz20_4 : w19.cell? ⟨gb419, 4, none⟩ = some (.int .u32 a0_4) := (blk_cell BK419.out 4).trans rfl; have hfz20_0 := blk_frozen BK419.out 0; have hfz20_1 := blk_frozen BK419.out 1; have hfz20_2 := blk_frozen BK419.out 2; have hfz20_3 := blk_frozen BK419.out 3; have hfz20_4 := blk_frozen BK419.out 4)); try go_wp2_with (first | ((with_reducible refine gate_dst (N := 2) rfl ?_); refine box_event ?hg (N := 2) ?hd (cs := #[.string a0_0, .int .u8 a0_1, .int .u32 a0_2, .int .u32 a0_3, .int .u32 a0_4]) (t := 80) ?hr ?_; (case hd => rfl); (case hg => rfl); (case hr => first | (go_simp; done) | (go_simp; rfl)); intro gb419 hg w19 hbox hb; have n0_ := Aside0.mk (below_step (by repeat (first | (with_reducible first | exact HB.out | apply below_alloc | apply pw_below_drewN | apply below_drew1) | exact HB.out)) hb); have n1_ := Aside0.mk (hbox); have n2_ := Aside0.mk ((by rw [hg]; exact (below_size (by repeat (first | (with_reducible first | exact HB.out | apply below_alloc | apply pw_below_drewN | apply below_drew1) | exact HB.out))) : w.heap.size ≤ gb419)); have n3_ := Aside0.mk ((by rw [hg]; exact (below_size (by repeat (first | (with_reducible first | exact HB.out | apply below_alloc | apply pw_below_drewN | apply below_drew1) | exact HB.out))) : w.heap.size ≤ gb419)); clear HB; have HB := n0_; have BK419 := n1_; have GW419 := n2_; have GE419 := n3_; clear n0_ n1_ n2_ n3_; clear hb hbox hg; have hcz20_0 : w19.cell? ⟨gb419, 0, none⟩ = some (.string a0_0) := (blk_cell BK419.out 0).trans rfl; have hcz20_1 : w19.cell? ⟨gb419, 1, none⟩ = some (.int .u8 a0_1) := (blk_cell BK419.out 1).trans rfl; have hcz20_2 : w19.cell? ⟨gb419, 2, none⟩ = some (.int .u32 a0_2) := (blk_cell BK419.out 2).trans rfl; have hcz20_3 : w19.cell? ⟨gb419, 3, none⟩ = some (.int .u32 a0_3) := (blk_cell BK419.out 3).trans rfl; have hcz20_4 : w19.cell? ⟨gb419, 4, none⟩ = some (.int .u32 a0_4) := (blk_cell BK419.out 4).trans rfl; have hfz20_0 := blk_frozen BK419.out 0; have hfz20_1 := blk_frozen BK419.out 1; have hfz20_2 := blk_frozen BK419.out 2; have hfz20_3 := blk_frozen BK419.out 3; have hfz20_4 := blk_frozen BK419.out 4)))
    go_ret
    exact ⟨by first | rfl | (simp [errW_none, errW_some] <;> rfl) | (simp [*, errW_none, errW_some] <;> rfl), by repeat (first | (with_reducible first | exact HB.out | apply below_alloc | apply pw_below_drewN | apply below_drew1 | refine below_set ?_ GE419.out) | exact HB.out)⟩
def inst_told.f (a0 : Int) (a1 : Int) : Option (Int) := if a0 = 85 then (some (wrap64 (wrap32 (Go.bits .andNot .u32 a1 4095)))) else (if a0 = 74 then ((inst_bits.f a1 31 1).bind fun t421 => ((inst_bits.f a1 21 10).bind fun t422 => ((inst_bits.f a1 20 1).bind fun t423 => ((inst_bits.f a1 12 8).bind fun t424 => ((word_Sign.f (Go.bits .or .u32 (Go.bits .or .u32 (Go.bits .or .u32 ((t421 * 1048576) % 4294967296) ((t422 * 2) % 4294967296)) ((t423 * 2048) % 4294967296)) ((t424 * 4096) % 4294967296)) 21).bind fun t425 => (some (wrap64 (wrap32 (t425))))))))) else (if a0 = 73 then (some (wrap64 ((wrap32 (a1)) / 1048576))) else (if a0 = 72 then ((inst_bits.f a1 20 5).bind fun t426 => (some (wrap64 (t426)))) else (if a0 = 83 then ((inst_bits.f a1 25 7).bind fun t427 => ((inst_bits.f a1 7 5).bind fun t428 => ((word_Sign.f (Go.bits .or .u32 ((t427 * 32) % 4294967296) t428) 12).bind fun t429 => (some (wrap64 (wrap32 (t429))))))) else (if a0 = 66 then ((inst_bits.f a1 31 1).bind fun t430 => ((inst_bits.f a1 25 6).bind fun t431 => ((inst_bits.f a1 8 4).bind fun t432 => ((inst_bits.f a1 7 1).bind fun t433 => ((word_Sign.f (Go.bits .or .u32 (Go.bits .or .u32 (Go.bits .or .u32 ((t430 * 4096) % 4294967296) ((t431 * 32) % 4294967296)) ((t432 * 2) % 4294967296)) ((t433 * 2048) % 4294967296)) 13).bind fun t434 => (some (wrap64 (wrap32 (t434))))))))) else (some 0))))))
set_option maxHeartbeats 8000000 in
set_option maxRecDepth 100000 in
theorem inst_told.calls (a0 : Int) (a1 : Int) (r : Int) (w : World) (h : inst_told.f a0 a1 = some r) :
    Calls Try.prog 40 #[.int .u8 a0, .int .u32 a1] w fun e w' => e = .returned (.int .i64 r) ∧ Drawn0 w w' := by
  have H : (if a0 = 85 then (some (wrap64 (wrap32 (Go.bits .andNot .u32 a1 4095)))) else (if a0 = 74 then ((inst_bits.f a1 31 1).bind fun t421 => ((inst_bits.f a1 21 10).bind fun t422 => ((inst_bits.f a1 20 1).bind fun t423 => ((inst_bits.f a1 12 8).bind fun t424 => ((word_Sign.f (Go.bits .or .u32 (Go.bits .or .u32 (Go.bits .or .u32 ((t421 * 1048576) % 4294967296) ((t422 * 2) % 4294967296)) ((t423 * 2048) % 4294967296)) ((t424 * 4096) % 4294967296)) 21).bind fun t425 => (some (wrap64 (wrap32 (t425))))))))) else (if a0 = 73 then (some (wrap64 ((wrap32 (a1)) / 1048576))) else (if a0 = 72 then ((inst_bits.f a1 20 5).bind fun t426 => (some (wrap64 (t426)))) else (if a0 = 83 then ((inst_bits.f a1 25 7).bind fun t427 => ((inst_bits.f a1 7 5).bind fun t428 => ((word_Sign.f (Go.bits .or .u32 ((t427 * 32) % 4294967296) t428) 12).bind fun t429 => (some (wrap64 (wrap32 (t429))))))) else (if a0 = 66 then ((inst_bits.f a1 31 1).bind fun t430 => ((inst_bits.f a1 25 6).bind fun t431 => ((inst_bits.f a1 8 4).bind fun t432 => ((inst_bits.f a1 7 1).bind fun t433 => ((word_Sign.f (Go.bits .or .u32 (Go.bits .or .u32 (Go.bits .or .u32 ((t430 * 4096) % 4294967296) ((t431 * 32) % 4294967296)) ((t432 * 2) % 4294967296)) ((t433 * 2048) % 4294967296)) 13).bind fun t434 => (some (wrap64 (wrap32 (t434))))))))) else (some 0))))))) = some r := h
  clear h
  by_cases c3 : a0 = 85
  · rw [if_pos c3] at H
    have c3b0 : (a0 == 85) = true := beq_iff_eq.mpr c3
    have c3b1 : (a0 != 85) = false := bne_eq_false_iff_eq.mpr c3
    clear c3
    obtain rfl := Option.some.inj H
    go_enter Try.func40, Try.ntmps40
    go_wp2
    go_ret
    exact ⟨by first | rfl | (simp; done) | (simp [*]; done), by repeat (first | exact Drawn0.refl _ | apply Drawn0.step)⟩
  · rw [if_neg c3] at H
    have c3b0 : (a0 == 85) = false := beq_eq_false_iff_ne.mpr c3
    have c3b1 : (a0 != 85) = true := bne_iff_ne.mpr c3
    by_cases c4 : a0 = 74
    · rw [if_pos c4] at H
      have c4b0 : (a0 == 74) = true := beq_iff_eq.mpr c4
      have c4b1 : (a0 != 74) = false := bne_eq_false_iff_eq.mpr c4
      clear c4
      replace H := Option.bind_eq_some_iff.mp H
      obtain ⟨t421, A50, H⟩ := H
      replace H : ((inst_bits.f a1 21 10).bind fun t422 => ((inst_bits.f a1 20 1).bind fun t423 => ((inst_bits.f a1 12 8).bind fun t424 => ((word_Sign.f (Go.bits .or .u32 (Go.bits .or .u32 (Go.bits .or .u32 ((t421 * 1048576) % 4294967296) ((t422 * 2) % 4294967296)) ((t423 * 2048) % 4294967296)) ((t424 * 4096) % 4294967296)) 21).bind fun t425 => (some (wrap64 (wrap32 (t425)))))))) = some r := H
      have A5 := Aside0.mk A50
      clear A50
      replace H := Option.bind_eq_some_iff.mp H
      obtain ⟨t422, A60, H⟩ := H
      replace H : ((inst_bits.f a1 20 1).bind fun t423 => ((inst_bits.f a1 12 8).bind fun t424 => ((word_Sign.f (Go.bits .or .u32 (Go.bits .or .u32 (Go.bits .or .u32 ((t421 * 1048576) % 4294967296) ((t422 * 2) % 4294967296)) ((t423 * 2048) % 4294967296)) ((t424 * 4096) % 4294967296)) 21).bind fun t425 => (some (wrap64 (wrap32 (t425))))))) = some r := H
      have A6 := Aside0.mk A60
      clear A60
      replace H := Option.bind_eq_some_iff.mp H
      obtain ⟨t423, A70, H⟩ := H
      replace H : ((inst_bits.f a1 12 8).bind fun t424 => ((word_Sign.f (Go.bits .or .u32 (Go.bits .or .u32 (Go.bits .or .u32 ((t421 * 1048576) % 4294967296) ((t422 * 2) % 4294967296)) ((t423 * 2048) % 4294967296)) ((t424 * 4096) % 4294967296)) 21).bind fun t425 => (some (wrap64 (wrap32 (t425)))))) = some r := H
      have A7 := Aside0.mk A70
      clear A70
      replace H := Option.bind_eq_some_iff.mp H
      obtain ⟨t424, A80, H⟩ := H
      replace H : ((word_Sign.f (Go.bits .or .u32 (Go.bits .or .u32 (Go.bits .or .u32 ((t421 * 1048576) % 4294967296) ((t422 * 2) % 4294967296)) ((t423 * 2048) % 4294967296)) ((t424 * 4096) % 4294967296)) 21).bind fun t425 => (some (wrap64 (wrap32 (t425))))) = some r := H
      have A8 := Aside0.mk A80
      clear A80
      replace H := Option.bind_eq_some_iff.mp H
      obtain ⟨t425, A90, H⟩ := H
      replace H : (some (wrap64 (wrap32 (t425)))) = some r := H
      have A9 := Aside0.mk A90
      clear A90
      obtain rfl := Option.some.inj H
      go_enter Try.func40, Try.ntmps40
      go_wp2_with (first | ((with_reducible refine gate_callee (f := 42) rfl ?_); refine goesL_ (some 17) rfl rfl Try.func42 (by kernel_rfl) rfl #[.int .u32 a1, .int .i64 31, .int .i64 1] rfl (by (try simp only [List.map_toArray, List.map_cons, List.map_nil]); first | done | rfl | (simp only [List.length_drop, List.length_take]; rfl)) ?_; (with_reducible refine (inst_bits.calls a1 31 1 t421 _ A5.out).mono ?_); rintro e w' ⟨rfl, ⟨nd, rfl⟩⟩; refine ⟨_, rfl, ?_⟩) | ((with_reducible refine gate_callee (f := 42) rfl ?_); refine goesL_ (some 20) rfl rfl Try.func42 (by kernel_rfl) rfl #[.int .u32 a1, .int .i64 21, .int .i64 10] rfl (by (try simp only [List.map_toArray, List.map_cons, List.map_nil]); first | done | rfl | (simp only [List.length_drop, List.length_take]; rfl)) ?_; (with_reducible refine (inst_bits.calls a1 21 10 t422 _ A6.out).mono ?_); rintro e w' ⟨rfl, ⟨nd, rfl⟩⟩; refine ⟨_, rfl, ?_⟩) | ((with_reducible refine gate_callee (f := 42) rfl ?_); refine goesL_ (some 24) rfl rfl Try.func42 (by kernel_rfl) rfl #[.int .u32 a1, .int .i64 20, .int .i64 1] rfl (by (try simp only [List.map_toArray, List.map_cons, List.map_nil]); first | done | rfl | (simp only [List.length_drop, List.length_take]; rfl)) ?_; (with_reducible refine (inst_bits.calls a1 20 1 t423 _ A7.out).mono ?_); rintro e w' ⟨rfl, ⟨nd, rfl⟩⟩; refine ⟨_, rfl, ?_⟩) | ((with_reducible refine gate_callee (f := 42) rfl ?_); refine goesL_ (some 28) rfl rfl Try.func42 (by kernel_rfl) rfl #[.int .u32 a1, .int .i64 12, .int .i64 8] rfl (by (try simp only [List.map_toArray, List.map_cons, List.map_nil]); first | done | rfl | (simp only [List.length_drop, List.length_take]; rfl)) ?_; (with_reducible refine (inst_bits.calls a1 12 8 t424 _ A8.out).mono ?_); rintro e w' ⟨rfl, ⟨nd, rfl⟩⟩; refine ⟨_, rfl, ?_⟩) | ((with_reducible refine gate_callee (f := 64) rfl ?_); refine goesL_ (some 32) rfl rfl Try.func64 (by kernel_rfl) rfl #[.int .u32 (Go.bits .or .u32 (Go.bits .or .u32 (Go.bits .or .u32 ((t421 * 1048576) % 4294967296) ((t422 * 2) % 4294967296)) ((t423 * 2048) % 4294967296)) ((t424 * 4096) % 4294967296)), .int .i64 21] rfl (by (try simp only [List.map_toArray, List.map_cons, List.map_nil]); first | done | rfl | (simp only [List.length_drop, List.length_take]; rfl)) ?_; (with_reducible refine (word_Sign.calls (Go.bits .or .u32 (Go.bits .or .u32 (Go.bits .or .u32 ((t421 * 1048576) % 4294967296) ((t422 * 2) % 4294967296)) ((t423 * 2048) % 4294967296)) ((t424 * 4096) % 4294967296)) 21 t425 _ A9.out).mono ?_); rintro e w' ⟨rfl, ⟨nd, rfl⟩⟩; refine ⟨_, rfl, ?_⟩))
      go_ret
      exact ⟨by first | rfl | (simp; done) | (simp [*]; done), by repeat (first | exact Drawn0.refl _ | apply Drawn0.step)⟩
    · rw [if_neg c4] at H
      have c4b0 : (a0 == 74) = false := beq_eq_false_iff_ne.mpr c4
      have c4b1 : (a0 != 74) = true := bne_iff_ne.mpr c4
      by_cases c10 : a0 = 73
      · rw [if_pos c10] at H
        have c10b0 : (a0 == 73) = true := beq_iff_eq.mpr c10
        have c10b1 : (a0 != 73) = false := bne_eq_false_iff_eq.mpr c10
        clear c10
        obtain rfl := Option.some.inj H
        go_enter Try.func40, Try.ntmps40
        go_wp2
        go_ret
        exact ⟨by first | rfl | (simp; done) | (simp [*]; done), by repeat (first | exact Drawn0.refl _ | apply Drawn0.step)⟩
      · rw [if_neg c10] at H
        have c10b0 : (a0 == 73) = false := beq_eq_false_iff_ne.mpr c10
        have c10b1 : (a0 != 73) = true := bne_iff_ne.mpr c10
        by_cases c11 : a0 = 72
        · rw [if_pos c11] at H
          have c11b0 : (a0 == 72) = true := beq_iff_eq.mpr c11
          have c11b1 : (a0 != 72) = false := bne_eq_false_iff_eq.mpr c11
          clear c11
          replace H := Option.bind_eq_some_iff.mp H
          obtain ⟨t426, A120, H⟩ := H
          replace H : (some (wrap64 (t426))) = some r := H
          have A12 := Aside0.mk A120
          clear A120
          obtain rfl := Option.some.inj H
          go_enter Try.func40, Try.ntmps40
          go_wp2_with (first | ((with_reducible refine gate_callee (f := 42) rfl ?_); refine goesL_ (some 44) rfl rfl Try.func42 (by kernel_rfl) rfl #[.int .u32 a1, .int .i64 20, .int .i64 5] rfl (by (try simp only [List.map_toArray, List.map_cons, List.map_nil]); first | done | rfl | (simp only [List.length_drop, List.length_take]; rfl)) ?_; (with_reducible refine (inst_bits.calls a1 20 5 t426 _ A12.out).mono ?_); rintro e w' ⟨rfl, ⟨nd, rfl⟩⟩; refine ⟨_, rfl, ?_⟩))
          go_ret
          exact ⟨by first | rfl | (simp; done) | (simp [*]; done), by repeat (first | exact Drawn0.refl _ | apply Drawn0.step)⟩
        · rw [if_neg c11] at H
          have c11b0 : (a0 == 72) = false := beq_eq_false_iff_ne.mpr c11
          have c11b1 : (a0 != 72) = true := bne_iff_ne.mpr c11
          by_cases c13 : a0 = 83
          · rw [if_pos c13] at H
            have c13b0 : (a0 == 83) = true := beq_iff_eq.mpr c13
            have c13b1 : (a0 != 83) = false := bne_eq_false_iff_eq.mpr c13
            clear c13
            replace H := Option.bind_eq_some_iff.mp H
            obtain ⟨t427, A140, H⟩ := H
            replace H : ((inst_bits.f a1 7 5).bind fun t428 => ((word_Sign.f (Go.bits .or .u32 ((t427 * 32) % 4294967296) t428) 12).bind fun t429 => (some (wrap64 (wrap32 (t429)))))) = some r := H
            have A14 := Aside0.mk A140
            clear A140
            replace H := Option.bind_eq_some_iff.mp H
            obtain ⟨t428, A150, H⟩ := H
            replace H : ((word_Sign.f (Go.bits .or .u32 ((t427 * 32) % 4294967296) t428) 12).bind fun t429 => (some (wrap64 (wrap32 (t429))))) = some r := H
            have A15 := Aside0.mk A150
            clear A150
            replace H := Option.bind_eq_some_iff.mp H
            obtain ⟨t429, A160, H⟩ := H
            replace H : (some (wrap64 (wrap32 (t429)))) = some r := H
            have A16 := Aside0.mk A160
            clear A160
            obtain rfl := Option.some.inj H
            go_enter Try.func40, Try.ntmps40
            go_wp2_with (first | ((with_reducible refine gate_callee (f := 42) rfl ?_); refine goesL_ (some 49) rfl rfl Try.func42 (by kernel_rfl) rfl #[.int .u32 a1, .int .i64 25, .int .i64 7] rfl (by (try simp only [List.map_toArray, List.map_cons, List.map_nil]); first | done | rfl | (simp only [List.length_drop, List.length_take]; rfl)) ?_; (with_reducible refine (inst_bits.calls a1 25 7 t427 _ A14.out).mono ?_); rintro e w' ⟨rfl, ⟨nd, rfl⟩⟩; refine ⟨_, rfl, ?_⟩) | ((with_reducible refine gate_callee (f := 42) rfl ?_); refine goesL_ (some 52) rfl rfl Try.func42 (by kernel_rfl) rfl #[.int .u32 a1, .int .i64 7, .int .i64 5] rfl (by (try simp only [List.map_toArray, List.map_cons, List.map_nil]); first | done | rfl | (simp only [List.length_drop, List.length_take]; rfl)) ?_; (with_reducible refine (inst_bits.calls a1 7 5 t428 _ A15.out).mono ?_); rintro e w' ⟨rfl, ⟨nd, rfl⟩⟩; refine ⟨_, rfl, ?_⟩) | ((with_reducible refine gate_callee (f := 64) rfl ?_); refine goesL_ (some 54) rfl rfl Try.func64 (by kernel_rfl) rfl #[.int .u32 (Go.bits .or .u32 ((t427 * 32) % 4294967296) t428), .int .i64 12] rfl (by (try simp only [List.map_toArray, List.map_cons, List.map_nil]); first | done | rfl | (simp only [List.length_drop, List.length_take]; rfl)) ?_; (with_reducible refine (word_Sign.calls (Go.bits .or .u32 ((t427 * 32) % 4294967296) t428) 12 t429 _ A16.out).mono ?_); rintro e w' ⟨rfl, ⟨nd, rfl⟩⟩; refine ⟨_, rfl, ?_⟩))
            go_ret
            exact ⟨by first | rfl | (simp; done) | (simp [*]; done), by repeat (first | exact Drawn0.refl _ | apply Drawn0.step)⟩
          · rw [if_neg c13] at H
            have c13b0 : (a0 == 83) = false := beq_eq_false_iff_ne.mpr c13
            have c13b1 : (a0 != 83) = true := bne_iff_ne.mpr c13
            by_cases c17 : a0 = 66
            · rw [if_pos c17] at H
              have c17b0 : (a0 == 66) = true := beq_iff_eq.mpr c17
              have c17b1 : (a0 != 66) = false := bne_eq_false_iff_eq.mpr c17
              clear c17
              replace H := Option.bind_eq_some_iff.mp H
              obtain ⟨t430, A180, H⟩ := H
              replace H : ((inst_bits.f a1 25 6).bind fun t431 => ((inst_bits.f a1 8 4).bind fun t432 => ((inst_bits.f a1 7 1).bind fun t433 => ((word_Sign.f (Go.bits .or .u32 (Go.bits .or .u32 (Go.bits .or .u32 ((t430 * 4096) % 4294967296) ((t431 * 32) % 4294967296)) ((t432 * 2) % 4294967296)) ((t433 * 2048) % 4294967296)) 13).bind fun t434 => (some (wrap64 (wrap32 (t434)))))))) = some r := H
              have A18 := Aside0.mk A180
              clear A180
              replace H := Option.bind_eq_some_iff.mp H
              obtain ⟨t431, A190, H⟩ := H
              replace H : ((inst_bits.f a1 8 4).bind fun t432 => ((inst_bits.f a1 7 1).bind fun t433 => ((word_Sign.f (Go.bits .or .u32 (Go.bits .or .u32 (Go.bits .or .u32 ((t430 * 4096) % 4294967296) ((t431 * 32) % 4294967296)) ((t432 * 2) % 4294967296)) ((t433 * 2048) % 4294967296)) 13).bind fun t434 => (some (wrap64 (wrap32 (t434))))))) = some r := H
              have A19 := Aside0.mk A190
              clear A190
              replace H := Option.bind_eq_some_iff.mp H
              obtain ⟨t432, A200, H⟩ := H
              replace H : ((inst_bits.f a1 7 1).bind fun t433 => ((word_Sign.f (Go.bits .or .u32 (Go.bits .or .u32 (Go.bits .or .u32 ((t430 * 4096) % 4294967296) ((t431 * 32) % 4294967296)) ((t432 * 2) % 4294967296)) ((t433 * 2048) % 4294967296)) 13).bind fun t434 => (some (wrap64 (wrap32 (t434)))))) = some r := H
              have A20 := Aside0.mk A200
              clear A200
              replace H := Option.bind_eq_some_iff.mp H
              obtain ⟨t433, A210, H⟩ := H
              replace H : ((word_Sign.f (Go.bits .or .u32 (Go.bits .or .u32 (Go.bits .or .u32 ((t430 * 4096) % 4294967296) ((t431 * 32) % 4294967296)) ((t432 * 2) % 4294967296)) ((t433 * 2048) % 4294967296)) 13).bind fun t434 => (some (wrap64 (wrap32 (t434))))) = some r := H
              have A21 := Aside0.mk A210
              clear A210
              replace H := Option.bind_eq_some_iff.mp H
              obtain ⟨t434, A220, H⟩ := H
              replace H : (some (wrap64 (wrap32 (t434)))) = some r := H
              have A22 := Aside0.mk A220
              clear A220
              obtain rfl := Option.some.inj H
              go_enter Try.func40, Try.ntmps40
              go_wp2_with (first | ((with_reducible refine gate_callee (f := 42) rfl ?_); refine goesL_ (some 60) rfl rfl Try.func42 (by kernel_rfl) rfl #[.int .u32 a1, .int .i64 31, .int .i64 1] rfl (by (try simp only [List.map_toArray, List.map_cons, List.map_nil]); first | done | rfl | (simp only [List.length_drop, List.length_take]; rfl)) ?_; (with_reducible refine (inst_bits.calls a1 31 1 t430 _ A18.out).mono ?_); rintro e w' ⟨rfl, ⟨nd, rfl⟩⟩; refine ⟨_, rfl, ?_⟩) | ((with_reducible refine gate_callee (f := 42) rfl ?_); refine goesL_ (some 63) rfl rfl Try.func42 (by kernel_rfl) rfl #[.int .u32 a1, .int .i64 25, .int .i64 6] rfl (by (try simp only [List.map_toArray, List.map_cons, List.map_nil]); first | done | rfl | (simp only [List.length_drop, List.length_take]; rfl)) ?_; (with_reducible refine (inst_bits.calls a1 25 6 t431 _ A19.out).mono ?_); rintro e w' ⟨rfl, ⟨nd, rfl⟩⟩; refine ⟨_, rfl, ?_⟩) | ((with_reducible refine gate_callee (f := 42) rfl ?_); refine goesL_ (some 67) rfl rfl Try.func42 (by kernel_rfl) rfl #[.int .u32 a1, .int .i64 8, .int .i64 4] rfl (by (try simp only [List.map_toArray, List.map_cons, List.map_nil]); first | done | rfl | (simp only [List.length_drop, List.length_take]; rfl)) ?_; (with_reducible refine (inst_bits.calls a1 8 4 t432 _ A20.out).mono ?_); rintro e w' ⟨rfl, ⟨nd, rfl⟩⟩; refine ⟨_, rfl, ?_⟩) | ((with_reducible refine gate_callee (f := 42) rfl ?_); refine goesL_ (some 71) rfl rfl Try.func42 (by kernel_rfl) rfl #[.int .u32 a1, .int .i64 7, .int .i64 1] rfl (by (try simp only [List.map_toArray, List.map_cons, List.map_nil]); first | done | rfl | (simp only [List.length_drop, List.length_take]; rfl)) ?_; (with_reducible refine (inst_bits.calls a1 7 1 t433 _ A21.out).mono ?_); rintro e w' ⟨rfl, ⟨nd, rfl⟩⟩; refine ⟨_, rfl, ?_⟩) | ((with_reducible refine gate_callee (f := 64) rfl ?_); refine goesL_ (some 75) rfl rfl Try.func64 (by kernel_rfl) rfl #[.int .u32 (Go.bits .or .u32 (Go.bits .or .u32 (Go.bits .or .u32 ((t430 * 4096) % 4294967296) ((t431 * 32) % 4294967296)) ((t432 * 2) % 4294967296)) ((t433 * 2048) % 4294967296)), .int .i64 13] rfl (by (try simp only [List.map_toArray, List.map_cons, List.map_nil]); first | done | rfl | (simp only [List.length_drop, List.length_take]; rfl)) ?_; (with_reducible refine (word_Sign.calls (Go.bits .or .u32 (Go.bits .or .u32 (Go.bits .or .u32 ((t430 * 4096) % 4294967296) ((t431 * 32) % 4294967296)) ((t432 * 2) % 4294967296)) ((t433 * 2048) % 4294967296)) 13 t434 _ A22.out).mono ?_); rintro e w' ⟨rfl, ⟨nd, rfl⟩⟩; refine ⟨_, rfl, ?_⟩))
              go_ret
              exact ⟨by first | rfl | (simp; done) | (simp [*]; done), by repeat (first | exact Drawn0.refl _ | apply Drawn0.step)⟩
            · rw [if_neg c17] at H
              have c17b0 : (a0 == 66) = false := beq_eq_false_iff_ne.mpr c17
              have c17b1 : (a0 != 66) = true := bne_iff_ne.mpr c17
              obtain rfl := Option.some.inj H
              go_enter Try.func40, Try.ntmps40
              go_wp2
              go_ret
              exact ⟨by first | rfl | (simp; done) | (simp [*]; done), by repeat (first | exact Drawn0.refl _ | apply Drawn0.step)⟩
def inst_Decode.found (k : Nat) (a0 x : Int) (s : List UInt8 × Int × Int × Int × Int) : Option (Int × Int × Int × Int × Int × Int) :=
  (inst_told.f s.2.1 a0).bind fun m => (inst_needs.f k s.2.1).bind fun b =>
    (if b.1 = true then (inst_bits.f a0 7 5).bind (fun t => some (wrap64 t)) else some 0).bind fun rd =>
    (if b.2.1 = true then (inst_bits.f a0 15 5).bind (fun t => some (wrap64 t)) else some 0).bind fun rs1 =>
    (if b.2.2.1 = true then (inst_bits.f a0 20 5).bind (fun t => some (wrap64 t)) else some 0).bind fun rs2 =>
    some (x, rd, rs1, rs2, m, 0)
def inst_Decode.l0 : Nat → Int → Int → Option (Int × Int × Int × Int × Int × Int)
  | 0, _, _ => none
  | k + 1, a0, x => if x ≤ 45 then
      (inst_fits.f k ⟨(shapeOf x).1.toArray⟩ (shapeOf x).2.1 (shapeOf x).2.2.1 (shapeOf x).2.2.2.1 (shapeOf x).2.2.2.2 a0).bind fun t =>
        if t = true then inst_Decode.found k a0 x (shapeOf x) else inst_Decode.l0 k a0 (x + 1)
    else some (0, 0, 0, 0, 0, 3)
def inst_Decode.f (k : Nat) (a0 : Int) : Option (Int × Int × Int × Int × Int × Int) := inst_Decode.l0 k a0 1
theorem flat5 {α : Type} (f : α → List Value) (hf : ∀ x, (f x).length = 5) (z : α) : ∀ (l : List α) (n j : Nat), n < l.length → j < 5 → ((l.map f).flatten)[n * 5 + j]? = (f (l.getD n z))[j]? := by
  intro l
  induction l with
  | nil => intro n j h; simp at h
  | cons x xs ih =>
    intro n j h hj
    have hx := hf x
    cases n with
    | zero =>
      simp only [List.map_cons, List.flatten_cons, Nat.zero_mul, Nat.zero_add, List.getD_cons_zero]
      rw [List.getElem?_append_left (by omega)]
    | succ n =>
      simp only [List.map_cons, List.flatten_cons, List.getD_cons_succ]
      rw [List.getElem?_append_right (by omega)]
      rw [show (n + 1) * 5 + j - (f x).length = n * 5 + j from by omega]
      exact ih n j (by simpa using h) hj
theorem shapes_parts (n : Nat) (hn : n < 46) (j : Nat) (hj : j < 5) : shapes230[n * 5 + j]? = (shapeRow (shapes.getD n noShape))[j]? := by
  unfold shapes230
  rw [List.getElem?_toArray]
  exact flat5 shapeRow (fun x => rfl) noShape shapes n j (by simpa [shapes] using hn) hj
set_option maxHeartbeats 1000000 in
set_option maxRecDepth 100000 in
theorem inst_Decode.calls (k : Nat) (a0 : Int) (r1 : Int) (r2 : Int) (r3 : Int) (r4 : Int) (r5 : Int) (r6 : Int) (w : World) (h : inst_Decode.f k a0 = some (r1, r2, r3, r4, r5, r6)) :
    Calls Try.prog 22 #[.int .u32 a0] w fun e w' => e = .returned (.tuple #[.agg #[.int .i64 r1, .int .i64 r2, .int .i64 r3, .int .i64 r4, .int .i64 r5], .int .i64 r6]) ∧ Below w.heap.size w w' := by
  have hu39 := Try.underlying39
  have hu80 := Try.underlying80
  have hz := (zero_of_info info52).1
  have H := Aside0.mk h
  clear h
  go_enter Try.func22, Try.ntmps22
  go_wp2_with (go_at_call 38; refine (table_calls _).mono ?_; rintro e w' ⟨rfl, hb⟩; have HB := Aside0.mk hb; clear hb; have hst := run_storeCells_new (P := Try.prog) w' 81 zeros230 shapes230 size52 rfl one52)

  clear hst
  have hgT : w.heap.size < w'.heap.size := by have := HB.out.size; simp at this; omega
  have HR := Aside0.mk (show (w'.alloc (.cells shapes230 81)).heap[w.heap.size]? = some (.cells #[.int .i64 0, .int .i64 0, .int .i64 0, .int .i64 0, .int .i64 0] 39 (0, 0)) from blk_alloc ((HB.out.block _ (by simp)).trans (heap_alloc_last w _)) _)
  have HT := Aside0.mk (show (w'.alloc (.cells shapes230 81)).heap[w'.heap.size]? = some (.cells shapes230 81 (0, 0)) from heap_alloc_last w' _)
  have HW := Aside0.mk (show Below w.heap.size w (w'.alloc (.cells shapes230 81)) from below_alloc (((Below.refl _ _).alloc (Nat.le_refl _) _).trans (HB.out.mono (by simp))) _)
  clear HB
  generalize hgt : w'.heap.size = gT at *
  clear hgt
  go_loopw [5] (fun v wr => ∃ (n kq : Nat), v = .int .i64 (n : Int) ∧ 1 ≤ n ∧ n ≤ 46 ∧ Aside0 (inst_Decode.l0 kq a0 (n : Int) = some (r1, r2, r3, r4, r5, r6)) ∧ Aside0 (wr.heap[w.heap.size]? = some (.cells #[.int .i64 0, .int .i64 0, .int .i64 0, .int .i64 0, .int .i64 0] 39 (0, 0))) ∧ Aside0 (wr.heap[gT]? = some (.cells shapes230 81 (0, 0))) ∧ Aside0 (Below w.heap.size w wr)) (fun v _ => 46 - (intOf v).toNat)
  case atStart => exact ⟨1, k, rfl, by omega, by omega, H, HR, HT, HW⟩
  case round =>
    clear H HR HT HW
    obtain ⟨n, kq, rfl, hn1, hn2, H, HR, HT, HB⟩ := hrel
    cases kq with
    | zero => exact absurd H.out (by simp [inst_Decode.l0])
    | succ kq =>
    by_cases hn : n < 46
    · have h0 := H.out
      clear H
      simp only [inst_Decode.l0] at h0
      rw [if_pos (by omega)] at h0
      have hsh : shapeOf (n : Int) = shapes.getD n noShape := if_pos (by omega)
      rw [hsh] at h0
      clear hsh
      have hc : ∀ j, j < 5 → wr.cell? ⟨gT, n * 5 + j, none⟩ = (shapeRow (shapes.getD n noShape))[j]? := fun j hj => (blk_cell HT.out _).trans (shapes_parts n hn j hj)
      generalize shapes.getD n noShape = s at *
      obtain ⟨s1, s2, s3, s4, s5⟩ := s
      have hc0 : wr.cell? ⟨gT, n * 5, none⟩ = some (.string ⟨s1.toArray⟩) := hc 0 (by omega)
      have hc1 : wr.cell? ⟨gT, n * 5 + 1, none⟩ = some (.int .u8 s2) := hc 1 (by omega)
      have hc2 : wr.cell? ⟨gT, n * 5 + 2, none⟩ = some (.int .u32 s3) := hc 2 (by omega)
      have hc3 : wr.cell? ⟨gT, n * 5 + 3, none⟩ = some (.int .u32 s4) := hc 3 (by omega)
      have hc4 : wr.cell? ⟨gT, n * 5 + 4, none⟩ = some (.int .u32 s5) := hc 4 (by omega)
      clear hc
      dsimp only at h0
      replace h0 := Option.bind_eq_some_iff.mp h0
      obtain ⟨t, ht, h0⟩ := h0
      have HF := Aside0.mk ht
      clear ht
      have H := Aside0.mk h0
      clear h0
      cases t with
      | false =>
        have h1 := H.out
        clear H
        have H := Aside0.mk (show inst_Decode.l0 kq a0 ((n + 1 : Nat) : Int) = some (r1, r2, r3, r4, r5, r6) from h1)
        clear h1
        go_wp2_with (go_at_call 39; refine (inst_fits.calls kq _ _ _ _ _ _ _ _ HF.out).mono ?_; rintro e w3 ⟨rfl, hb3⟩; have HB3 := Aside0.mk hb3; clear hb3)
        go_roundw
        case rel =>
          have hb := HB3.out
          refine ⟨n + 1, kq, by go_num, by omega, by omega, H, ⟨blk_below (blk_alloc HR.out _) hb⟩, ⟨blk_below (blk_alloc HT.out _) hb⟩, ⟨below_then (below_alloc HB.out _) (by have := HB.out.size; simp; omega) hb⟩⟩
        case measure => simp [intOf]; omega
      | true =>
        have h1 : inst_Decode.found kq a0 (n : Int) (s1, s2, s3, s4, s5) = some (r1, r2, r3, r4, r5, r6) := H.out
        clear H
        simp only [inst_Decode.found] at h1
        replace h1 := Option.bind_eq_some_iff.mp h1
        obtain ⟨m, hm, h1⟩ := h1
        replace h1 := Option.bind_eq_some_iff.mp h1
        obtain ⟨⟨b1, b2, b3, b4⟩, hnd, h1⟩ := h1
        replace h1 := Option.bind_eq_some_iff.mp h1
        obtain ⟨d1, hd1, h1⟩ := h1
        replace h1 := Option.bind_eq_some_iff.mp h1
        obtain ⟨d2, hd2, h1⟩ := h1
        replace h1 := Option.bind_eq_some_iff.mp h1
        obtain ⟨d3, hd3, h1⟩ := h1
        simp only [Option.some.injEq, Prod.mk.injEq] at h1
        obtain ⟨rfl, rfl, rfl, rfl, rfl, rfl⟩ := h1
        have HM := Aside0.mk hm
        have HN := Aside0.mk hnd
        have HD1 := Aside0.mk hd1
        have HD2 := Aside0.mk hd2
        have HD3 := Aside0.mk hd3
        clear hm hnd hd1 hd2 hd3
        cases b1 <;> cases b2 <;> cases b3
        · have hx1 : True := trivial
          have h1 := HD1.out
          clear HD1
          rw [if_neg (by simp)] at h1
          obtain rfl := Option.some.inj h1
          have h2 := HD2.out
          clear HD2
          rw [if_neg (by simp)] at h2
          obtain rfl := Option.some.inj h2
          have h3 := HD3.out
          clear HD3
          rw [if_neg (by simp)] at h3
          obtain rfl := Option.some.inj h3
          go_wp2_with (first | (go_at_call 39; refine (inst_fits.calls kq _ _ _ _ _ _ _ _ HF.out).mono ?_; rintro e w3 ⟨rfl, hb3⟩; have HX := Aside0.mk ((hb3.block _ (by simp)).trans (heap_alloc_last wr _)); have HR3 := Aside0.mk (blk_below (blk_alloc HR.out _) hb3); have HB3 := Aside0.mk (below_then (below_alloc HB.out _) (by have := HB.out.size; simp; omega) hb3); clear hb3 hx1; have hx1 := blk_cell HX.out 1) | (go_at_call 40; refine (inst_told.calls s2 a0 _ _ HM.out).mono ?_; rintro e w4 ⟨rfl, hd4⟩; have HX4 := Aside0.mk (blk_below HX.out hd4.below); have HR4 := Aside0.mk (blk_below HR3.out hd4.below); have HB4 := Aside0.mk (below_then HB3.out HB3.out.size hd4.below); have hlt4 : w.heap.size < w4.heap.size := blk_lt HR4.out; clear hd4 hx1; have hx1 := blk_cell HX4.out 1; have hx2 := blk_lt HX4.out) | (go_at_call 41; refine (inst_needs.calls kq s2 _ _ _ _ _ HN.out).mono ?_; rintro e w5 ⟨rfl, hd5⟩; have HI5 := Aside0.mk (blk_below (heap_alloc_last w4 _) hd5.below); have HR5 := Aside0.mk (blk_below (blk_alloc HR4.out _) hd5.below); have HB5 := Aside0.mk (below_then (below_alloc HB4.out _) (by have := HB4.out.size; simp; omega) hd5.below); clear hd5 hx1 hx2; have hi0 := blk_cell HI5.out 0; have hi1 := blk_cell HI5.out 1; have hi2 := blk_cell HI5.out 2; have hi3 := blk_cell HI5.out 3; have hi4 := blk_cell HI5.out 4; have hj1 := blk_frozen HI5.out 1; have hj2 := blk_frozen HI5.out 2; have hj3 := blk_frozen HI5.out 3; have hr0 := blk_cell HR5.out 0; have hs0 := blk_frozen HR5.out 0; have hr1 := blk_cell HR5.out 1; have hs1 := blk_frozen HR5.out 1; have hr2 := blk_cell HR5.out 2; have hs2 := blk_frozen HR5.out 2; have hr3 := blk_cell HR5.out 3; have hs3 := blk_frozen HR5.out 3; have hr4 := blk_cell HR5.out 4; have hs4 := blk_frozen HR5.out 4))
          have hz := HR5.out
          replace hz := blk_set hz 0 (.int .i64 ((n : Int)))
          replace hz := blk_set hz 1 (.int .i64 (0))
          replace hz := blk_set hz 2 (.int .i64 (0))
          replace hz := blk_set hz 3 (.int .i64 (0))
          replace hz := blk_set hz 4 (.int .i64 (m))
          have hw := HB5.out
          refine bodyPost_ret (results_ct rfl _ _ w.heap.size 39 _ (0, 0) _ rfl (by simpa using hz) Try.underlying39 rfl (by kernel_rfl)) rfl ⟨rfl, ?_⟩
          exact ((((hw.setCell (Nat.le_refl _) _).setCell (Nat.le_refl _) _).setCell (Nat.le_refl _) _).setCell (Nat.le_refl _) _).setCell (Nat.le_refl _) _
        · have hx1 : True := trivial
          have h1 := HD1.out
          clear HD1
          rw [if_neg (by simp)] at h1
          obtain rfl := Option.some.inj h1
          have h2 := HD2.out
          clear HD2
          rw [if_neg (by simp)] at h2
          obtain rfl := Option.some.inj h2
          have h3 := HD3.out
          clear HD3
          rw [if_pos rfl] at h3
          replace h3 := Option.bind_eq_some_iff.mp h3
          obtain ⟨q3, h3, h3_⟩ := h3
          obtain rfl := Option.some.inj h3_
          have HD3 := Aside0.mk h3
          clear h3
          go_wp2_with (first | (go_at_call 39; refine (inst_fits.calls kq _ _ _ _ _ _ _ _ HF.out).mono ?_; rintro e w3 ⟨rfl, hb3⟩; have HX := Aside0.mk ((hb3.block _ (by simp)).trans (heap_alloc_last wr _)); have HR3 := Aside0.mk (blk_below (blk_alloc HR.out _) hb3); have HB3 := Aside0.mk (below_then (below_alloc HB.out _) (by have := HB.out.size; simp; omega) hb3); clear hb3 hx1; have hx1 := blk_cell HX.out 1) | (go_at_call 40; refine (inst_told.calls s2 a0 _ _ HM.out).mono ?_; rintro e w4 ⟨rfl, hd4⟩; have HX4 := Aside0.mk (blk_below HX.out hd4.below); have HR4 := Aside0.mk (blk_below HR3.out hd4.below); have HB4 := Aside0.mk (below_then HB3.out HB3.out.size hd4.below); have hlt4 : w.heap.size < w4.heap.size := blk_lt HR4.out; clear hd4 hx1; have hx1 := blk_cell HX4.out 1; have hx2 := blk_lt HX4.out) | (go_at_call 41; refine (inst_needs.calls kq s2 _ _ _ _ _ HN.out).mono ?_; rintro e w5 ⟨rfl, hd5⟩; have HI5 := Aside0.mk (blk_below (heap_alloc_last w4 _) hd5.below); have HR5 := Aside0.mk (blk_below (blk_alloc HR4.out _) hd5.below); have HB5 := Aside0.mk (below_then (below_alloc HB4.out _) (by have := HB4.out.size; simp; omega) hd5.below); clear hd5 hx1 hx2; have hi0 := blk_cell HI5.out 0; have hi1 := blk_cell HI5.out 1; have hi2 := blk_cell HI5.out 2; have hi3 := blk_cell HI5.out 3; have hi4 := blk_cell HI5.out 4; have hj1 := blk_frozen HI5.out 1; have hj2 := blk_frozen HI5.out 2; have hj3 := blk_frozen HI5.out 3; have hr0 := blk_cell HR5.out 0; have hs0 := blk_frozen HR5.out 0; have hr1 := blk_cell HR5.out 1; have hs1 := blk_frozen HR5.out 1; have hr2 := blk_cell HR5.out 2; have hs2 := blk_frozen HR5.out 2; have hr3 := blk_cell HR5.out 3; have hs3 := blk_frozen HR5.out 3; have hr4 := blk_cell HR5.out 4; have hs4 := blk_frozen HR5.out 4) | (go_at_call 42; (with_reducible refine (inst_bits.calls a0 20 5 _ _ HD3.out).mono ?_); rintro e w6 ⟨rfl, hd⟩; have HI6 := Aside0.mk (blk_below (HI5.out) hd.below); have HR6 := Aside0.mk (blk_below (HR5.out) hd.below); have HB6 := Aside0.mk (below_then (HB5.out) (below_size (HB5.out)) hd.below); clear hd; clear hi0 hi1 hi2 hi3 hi4 hj1 hj2 hj3 hr0 hr1 hr2 hr3 hr4 hs0 hs1 hs2 hs3 hs4; have hi0 := blk_cell HI6.out 0; have hi1 := blk_cell HI6.out 1; have hi2 := blk_cell HI6.out 2; have hi3 := blk_cell HI6.out 3; have hi4 := blk_cell HI6.out 4; have hj1 := blk_frozen HI6.out 1; have hj2 := blk_frozen HI6.out 2; have hj3 := blk_frozen HI6.out 3; have hr0 := blk_cell HR6.out 0; have hs0 := blk_frozen HR6.out 0; have hr1 := blk_cell HR6.out 1; have hs1 := blk_frozen HR6.out 1; have hr2 := blk_cell HR6.out 2; have hs2 := blk_frozen HR6.out 2; have hr3 := blk_cell HR6.out 3; have hs3 := blk_frozen HR6.out 3; have hr4 := blk_cell HR6.out 4; have hs4 := blk_frozen HR6.out 4))
          have hz := blk_far HR6.out (p := ⟨w4.heap.size, 3, none⟩) (Nat.ne_of_lt hlt4) (.int .i64 (wrap64 q3))
          replace hz := blk_set hz 0 (.int .i64 ((n : Int)))
          replace hz := blk_set hz 1 (.int .i64 (0))
          replace hz := blk_set hz 2 (.int .i64 (0))
          replace hz := blk_set hz 3 (.int .i64 (wrap64 q3))
          replace hz := blk_set hz 4 (.int .i64 (m))
          have hw := below_set (j := 3) (v := .int .i64 (wrap64 q3)) HB6.out (Nat.le_of_lt hlt4)
          refine bodyPost_ret (results_ct rfl _ _ w.heap.size 39 _ (0, 0) _ rfl (by simpa using hz) Try.underlying39 rfl (by kernel_rfl)) rfl ⟨rfl, ?_⟩
          exact ((((hw.setCell (Nat.le_refl _) _).setCell (Nat.le_refl _) _).setCell (Nat.le_refl _) _).setCell (Nat.le_refl _) _).setCell (Nat.le_refl _) _
        · have hx1 : True := trivial
          have h1 := HD1.out
          clear HD1
          rw [if_neg (by simp)] at h1
          obtain rfl := Option.some.inj h1
          have h2 := HD2.out
          clear HD2
          rw [if_pos rfl] at h2
          replace h2 := Option.bind_eq_some_iff.mp h2
          obtain ⟨q2, h2, h2_⟩ := h2
          obtain rfl := Option.some.inj h2_
          have HD2 := Aside0.mk h2
          clear h2
          have h3 := HD3.out
          clear HD3
          rw [if_neg (by simp)] at h3
          obtain rfl := Option.some.inj h3
          go_wp2_with (first | (go_at_call 39; refine (inst_fits.calls kq _ _ _ _ _ _ _ _ HF.out).mono ?_; rintro e w3 ⟨rfl, hb3⟩; have HX := Aside0.mk ((hb3.block _ (by simp)).trans (heap_alloc_last wr _)); have HR3 := Aside0.mk (blk_below (blk_alloc HR.out _) hb3); have HB3 := Aside0.mk (below_then (below_alloc HB.out _) (by have := HB.out.size; simp; omega) hb3); clear hb3 hx1; have hx1 := blk_cell HX.out 1) | (go_at_call 40; refine (inst_told.calls s2 a0 _ _ HM.out).mono ?_; rintro e w4 ⟨rfl, hd4⟩; have HX4 := Aside0.mk (blk_below HX.out hd4.below); have HR4 := Aside0.mk (blk_below HR3.out hd4.below); have HB4 := Aside0.mk (below_then HB3.out HB3.out.size hd4.below); have hlt4 : w.heap.size < w4.heap.size := blk_lt HR4.out; clear hd4 hx1; have hx1 := blk_cell HX4.out 1; have hx2 := blk_lt HX4.out) | (go_at_call 41; refine (inst_needs.calls kq s2 _ _ _ _ _ HN.out).mono ?_; rintro e w5 ⟨rfl, hd5⟩; have HI5 := Aside0.mk (blk_below (heap_alloc_last w4 _) hd5.below); have HR5 := Aside0.mk (blk_below (blk_alloc HR4.out _) hd5.below); have HB5 := Aside0.mk (below_then (below_alloc HB4.out _) (by have := HB4.out.size; simp; omega) hd5.below); clear hd5 hx1 hx2; have hi0 := blk_cell HI5.out 0; have hi1 := blk_cell HI5.out 1; have hi2 := blk_cell HI5.out 2; have hi3 := blk_cell HI5.out 3; have hi4 := blk_cell HI5.out 4; have hj1 := blk_frozen HI5.out 1; have hj2 := blk_frozen HI5.out 2; have hj3 := blk_frozen HI5.out 3; have hr0 := blk_cell HR5.out 0; have hs0 := blk_frozen HR5.out 0; have hr1 := blk_cell HR5.out 1; have hs1 := blk_frozen HR5.out 1; have hr2 := blk_cell HR5.out 2; have hs2 := blk_frozen HR5.out 2; have hr3 := blk_cell HR5.out 3; have hs3 := blk_frozen HR5.out 3; have hr4 := blk_cell HR5.out 4; have hs4 := blk_frozen HR5.out 4) | (go_at_call 42; (with_reducible refine (inst_bits.calls a0 15 5 _ _ HD2.out).mono ?_); rintro e w6 ⟨rfl, hd⟩; have HI6 := Aside0.mk (blk_below (HI5.out) hd.below); have HR6 := Aside0.mk (blk_below (HR5.out) hd.below); have HB6 := Aside0.mk (below_then (HB5.out) (below_size (HB5.out)) hd.below); clear hd; clear hi0 hi1 hi2 hi3 hi4 hj1 hj2 hj3 hr0 hr1 hr2 hr3 hr4 hs0 hs1 hs2 hs3 hs4; have hi0 := blk_cell HI6.out 0; have hi1 := blk_cell HI6.out 1; have hi2 := blk_cell HI6.out 2; have hi3 := blk_cell HI6.out 3; have hi4 := blk_cell HI6.out 4; have hj1 := blk_frozen HI6.out 1; have hj2 := blk_frozen HI6.out 2; have hj3 := blk_frozen HI6.out 3; have hr0 := blk_cell HR6.out 0; have hs0 := blk_frozen HR6.out 0; have hr1 := blk_cell HR6.out 1; have hs1 := blk_frozen HR6.out 1; have hr2 := blk_cell HR6.out 2; have hs2 := blk_frozen HR6.out 2; have hr3 := blk_cell HR6.out 3; have hs3 := blk_frozen HR6.out 3; have hr4 := blk_cell HR6.out 4; have hs4 := blk_frozen HR6.out 4))
          have hz := blk_far HR6.out (p := ⟨w4.heap.size, 2, none⟩) (Nat.ne_of_lt hlt4) (.int .i64 (wrap64 q2))
          replace hz := blk_set hz 0 (.int .i64 ((n : Int)))
          replace hz := blk_set hz 1 (.int .i64 (0))
          replace hz := blk_set hz 2 (.int .i64 (wrap64 q2))
          replace hz := blk_set hz 3 (.int .i64 (0))
          replace hz := blk_set hz 4 (.int .i64 (m))
          have hw := below_set (j := 2) (v := .int .i64 (wrap64 q2)) HB6.out (Nat.le_of_lt hlt4)
          refine bodyPost_ret (results_ct rfl _ _ w.heap.size 39 _ (0, 0) _ rfl (by simpa using hz) Try.underlying39 rfl (by kernel_rfl)) rfl ⟨rfl, ?_⟩
          exact ((((hw.setCell (Nat.le_refl _) _).setCell (Nat.le_refl _) _).setCell (Nat.le_refl _) _).setCell (Nat.le_refl _) _).setCell (Nat.le_refl _) _
        · have hx1 : True := trivial
          have h1 := HD1.out
          clear HD1
          rw [if_neg (by simp)] at h1
          obtain rfl := Option.some.inj h1
          have h2 := HD2.out
          clear HD2
          rw [if_pos rfl] at h2
          replace h2 := Option.bind_eq_some_iff.mp h2
          obtain ⟨q2, h2, h2_⟩ := h2
          obtain rfl := Option.some.inj h2_
          have HD2 := Aside0.mk h2
          clear h2
          have h3 := HD3.out
          clear HD3
          rw [if_pos rfl] at h3
          replace h3 := Option.bind_eq_some_iff.mp h3
          obtain ⟨q3, h3, h3_⟩ := h3
          obtain rfl := Option.some.inj h3_
          have HD3 := Aside0.mk h3
          clear h3
          go_wp2_with (first | (go_at_call 39; refine (inst_fits.calls kq _ _ _ _ _ _ _ _ HF.out).mono ?_; rintro e w3 ⟨rfl, hb3⟩; have HX := Aside0.mk ((hb3.block _ (by simp)).trans (heap_alloc_last wr _)); have HR3 := Aside0.mk (blk_below (blk_alloc HR.out _) hb3); have HB3 := Aside0.mk (below_then (below_alloc HB.out _) (by have := HB.out.size; simp; omega) hb3); clear hb3 hx1; have hx1 := blk_cell HX.out 1) | (go_at_call 40; refine (inst_told.calls s2 a0 _ _ HM.out).mono ?_; rintro e w4 ⟨rfl, hd4⟩; have HX4 := Aside0.mk (blk_below HX.out hd4.below); have HR4 := Aside0.mk (blk_below HR3.out hd4.below); have HB4 := Aside0.mk (below_then HB3.out HB3.out.size hd4.below); have hlt4 : w.heap.size < w4.heap.size := blk_lt HR4.out; clear hd4 hx1; have hx1 := blk_cell HX4.out 1; have hx2 := blk_lt HX4.out) | (go_at_call 41; refine (inst_needs.calls kq s2 _ _ _ _ _ HN.out).mono ?_; rintro e w5 ⟨rfl, hd5⟩; have HI5 := Aside0.mk (blk_below (heap_alloc_last w4 _) hd5.below); have HR5 := Aside0.mk (blk_below (blk_alloc HR4.out _) hd5.below); have HB5 := Aside0.mk (below_then (below_alloc HB4.out _) (by have := HB4.out.size; simp; omega) hd5.below); clear hd5 hx1 hx2; have hi0 := blk_cell HI5.out 0; have hi1 := blk_cell HI5.out 1; have hi2 := blk_cell HI5.out 2; have hi3 := blk_cell HI5.out 3; have hi4 := blk_cell HI5.out 4; have hj1 := blk_frozen HI5.out 1; have hj2 := blk_frozen HI5.out 2; have hj3 := blk_frozen HI5.out 3; have hr0 := blk_cell HR5.out 0; have hs0 := blk_frozen HR5.out 0; have hr1 := blk_cell HR5.out 1; have hs1 := blk_frozen HR5.out 1; have hr2 := blk_cell HR5.out 2; have hs2 := blk_frozen HR5.out 2; have hr3 := blk_cell HR5.out 3; have hs3 := blk_frozen HR5.out 3; have hr4 := blk_cell HR5.out 4; have hs4 := blk_frozen HR5.out 4) | (go_at_call 42; (with_reducible refine (inst_bits.calls a0 15 5 _ _ HD2.out).mono ?_); rintro e w6 ⟨rfl, hd⟩; have HI6 := Aside0.mk (blk_below (HI5.out) hd.below); have HR6 := Aside0.mk (blk_below (HR5.out) hd.below); have HB6 := Aside0.mk (below_then (HB5.out) (below_size (HB5.out)) hd.below); clear hd; clear hi0 hi1 hi2 hi3 hi4 hj1 hj2 hj3 hr0 hr1 hr2 hr3 hr4 hs0 hs1 hs2 hs3 hs4; have hi0 := blk_cell HI6.out 0; have hi1 := blk_cell HI6.out 1; have hi2 := blk_cell HI6.out 2; have hi3 := blk_cell HI6.out 3; have hi4 := blk_cell HI6.out 4; have hj1 := blk_frozen HI6.out 1; have hj2 := blk_frozen HI6.out 2; have hj3 := blk_frozen HI6.out 3; have hr0 := blk_cell HR6.out 0; have hs0 := blk_frozen HR6.out 0; have hr1 := blk_cell HR6.out 1; have hs1 := blk_frozen HR6.out 1; have hr2 := blk_cell HR6.out 2; have hs2 := blk_frozen HR6.out 2; have hr3 := blk_cell HR6.out 3; have hs3 := blk_frozen HR6.out 3; have hr4 := blk_cell HR6.out 4; have hs4 := blk_frozen HR6.out 4) | (go_at_call 42; (with_reducible refine (inst_bits.calls a0 20 5 _ _ HD3.out).mono ?_); rintro e w7 ⟨rfl, hd⟩; have HI7 := Aside0.mk (blk_below (blk_set HI6.out 2 (.int .i64 (wrap64 q2))) hd.below); have HR7 := Aside0.mk (blk_below (blk_far HR6.out (p := ⟨w4.heap.size, 2, none⟩) (Nat.ne_of_lt hlt4) (.int .i64 (wrap64 q2))) hd.below); have HB7 := Aside0.mk (below_then (below_set (j := 2) (v := .int .i64 (wrap64 q2)) HB6.out (Nat.le_of_lt hlt4)) (below_size (below_set (j := 2) (v := .int .i64 (wrap64 q2)) HB6.out (Nat.le_of_lt hlt4))) hd.below); clear hd; clear hi0 hi1 hi2 hi3 hi4 hj1 hj2 hj3 hr0 hr1 hr2 hr3 hr4 hs0 hs1 hs2 hs3 hs4; have hi0 := blk_cell HI7.out 0; have hi1 := blk_cell HI7.out 1; have hi2 := blk_cell HI7.out 2; have hi3 := blk_cell HI7.out 3; have hi4 := blk_cell HI7.out 4; have hj1 := blk_frozen HI7.out 1; have hj2 := blk_frozen HI7.out 2; have hj3 := blk_frozen HI7.out 3; have hr0 := blk_cell HR7.out 0; have hs0 := blk_frozen HR7.out 0; have hr1 := blk_cell HR7.out 1; have hs1 := blk_frozen HR7.out 1; have hr2 := blk_cell HR7.out 2; have hs2 := blk_frozen HR7.out 2; have hr3 := blk_cell HR7.out 3; have hs3 := blk_frozen HR7.out 3; have hr4 := blk_cell HR7.out 4; have hs4 := blk_frozen HR7.out 4))
          have hz := blk_far HR7.out (p := ⟨w4.heap.size, 3, none⟩) (Nat.ne_of_lt hlt4) (.int .i64 (wrap64 q3))
          replace hz := blk_set hz 0 (.int .i64 ((n : Int)))
          replace hz := blk_set hz 1 (.int .i64 (0))
          replace hz := blk_set hz 2 (.int .i64 (wrap64 q2))
          replace hz := blk_set hz 3 (.int .i64 (wrap64 q3))
          replace hz := blk_set hz 4 (.int .i64 (m))
          have hw := below_set (j := 3) (v := .int .i64 (wrap64 q3)) HB7.out (Nat.le_of_lt hlt4)
          refine bodyPost_ret (results_ct rfl _ _ w.heap.size 39 _ (0, 0) _ rfl (by simpa using hz) Try.underlying39 rfl (by kernel_rfl)) rfl ⟨rfl, ?_⟩
          exact ((((hw.setCell (Nat.le_refl _) _).setCell (Nat.le_refl _) _).setCell (Nat.le_refl _) _).setCell (Nat.le_refl _) _).setCell (Nat.le_refl _) _
        · have hx1 : True := trivial
          have h1 := HD1.out
          clear HD1
          rw [if_pos rfl] at h1
          replace h1 := Option.bind_eq_some_iff.mp h1
          obtain ⟨q1, h1, h1_⟩ := h1
          obtain rfl := Option.some.inj h1_
          have HD1 := Aside0.mk h1
          clear h1
          have h2 := HD2.out
          clear HD2
          rw [if_neg (by simp)] at h2
          obtain rfl := Option.some.inj h2
          have h3 := HD3.out
          clear HD3
          rw [if_neg (by simp)] at h3
          obtain rfl := Option.some.inj h3
          go_wp2_with (first | (go_at_call 39; refine (inst_fits.calls kq _ _ _ _ _ _ _ _ HF.out).mono ?_; rintro e w3 ⟨rfl, hb3⟩; have HX := Aside0.mk ((hb3.block _ (by simp)).trans (heap_alloc_last wr _)); have HR3 := Aside0.mk (blk_below (blk_alloc HR.out _) hb3); have HB3 := Aside0.mk (below_then (below_alloc HB.out _) (by have := HB.out.size; simp; omega) hb3); clear hb3 hx1; have hx1 := blk_cell HX.out 1) | (go_at_call 40; refine (inst_told.calls s2 a0 _ _ HM.out).mono ?_; rintro e w4 ⟨rfl, hd4⟩; have HX4 := Aside0.mk (blk_below HX.out hd4.below); have HR4 := Aside0.mk (blk_below HR3.out hd4.below); have HB4 := Aside0.mk (below_then HB3.out HB3.out.size hd4.below); have hlt4 : w.heap.size < w4.heap.size := blk_lt HR4.out; clear hd4 hx1; have hx1 := blk_cell HX4.out 1; have hx2 := blk_lt HX4.out) | (go_at_call 41; refine (inst_needs.calls kq s2 _ _ _ _ _ HN.out).mono ?_; rintro e w5 ⟨rfl, hd5⟩; have HI5 := Aside0.mk (blk_below (heap_alloc_last w4 _) hd5.below); have HR5 := Aside0.mk (blk_below (blk_alloc HR4.out _) hd5.below); have HB5 := Aside0.mk (below_then (below_alloc HB4.out _) (by have := HB4.out.size; simp; omega) hd5.below); clear hd5 hx1 hx2; have hi0 := blk_cell HI5.out 0; have hi1 := blk_cell HI5.out 1; have hi2 := blk_cell HI5.out 2; have hi3 := blk_cell HI5.out 3; have hi4 := blk_cell HI5.out 4; have hj1 := blk_frozen HI5.out 1; have hj2 := blk_frozen HI5.out 2; have hj3 := blk_frozen HI5.out 3; have hr0 := blk_cell HR5.out 0; have hs0 := blk_frozen HR5.out 0; have hr1 := blk_cell HR5.out 1; have hs1 := blk_frozen HR5.out 1; have hr2 := blk_cell HR5.out 2; have hs2 := blk_frozen HR5.out 2; have hr3 := blk_cell HR5.out 3; have hs3 := blk_frozen HR5.out 3; have hr4 := blk_cell HR5.out 4; have hs4 := blk_frozen HR5.out 4) | (go_at_call 42; (with_reducible refine (inst_bits.calls a0 7 5 _ _ HD1.out).mono ?_); rintro e w6 ⟨rfl, hd⟩; have HI6 := Aside0.mk (blk_below (HI5.out) hd.below); have HR6 := Aside0.mk (blk_below (HR5.out) hd.below); have HB6 := Aside0.mk (below_then (HB5.out) (below_size (HB5.out)) hd.below); clear hd; clear hi0 hi1 hi2 hi3 hi4 hj1 hj2 hj3 hr0 hr1 hr2 hr3 hr4 hs0 hs1 hs2 hs3 hs4; have hi0 := blk_cell HI6.out 0; have hi1 := blk_cell HI6.out 1; have hi2 := blk_cell HI6.out 2; have hi3 := blk_cell HI6.out 3; have hi4 := blk_cell HI6.out 4; have hj1 := blk_frozen HI6.out 1; have hj2 := blk_frozen HI6.out 2; have hj3 := blk_frozen HI6.out 3; have hr0 := blk_cell HR6.out 0; have hs0 := blk_frozen HR6.out 0; have hr1 := blk_cell HR6.out 1; have hs1 := blk_frozen HR6.out 1; have hr2 := blk_cell HR6.out 2; have hs2 := blk_frozen HR6.out 2; have hr3 := blk_cell HR6.out 3; have hs3 := blk_frozen HR6.out 3; have hr4 := blk_cell HR6.out 4; have hs4 := blk_frozen HR6.out 4))
          have hz := blk_far HR6.out (p := ⟨w4.heap.size, 1, none⟩) (Nat.ne_of_lt hlt4) (.int .i64 (wrap64 q1))
          replace hz := blk_set hz 0 (.int .i64 ((n : Int)))
          replace hz := blk_set hz 1 (.int .i64 (wrap64 q1))
          replace hz := blk_set hz 2 (.int .i64 (0))
          replace hz := blk_set hz 3 (.int .i64 (0))
          replace hz := blk_set hz 4 (.int .i64 (m))
          have hw := below_set (j := 1) (v := .int .i64 (wrap64 q1)) HB6.out (Nat.le_of_lt hlt4)
          refine bodyPost_ret (results_ct rfl _ _ w.heap.size 39 _ (0, 0) _ rfl (by simpa using hz) Try.underlying39 rfl (by kernel_rfl)) rfl ⟨rfl, ?_⟩
          exact ((((hw.setCell (Nat.le_refl _) _).setCell (Nat.le_refl _) _).setCell (Nat.le_refl _) _).setCell (Nat.le_refl _) _).setCell (Nat.le_refl _) _
        · have hx1 : True := trivial
          have h1 := HD1.out
          clear HD1
          rw [if_pos rfl] at h1
          replace h1 := Option.bind_eq_some_iff.mp h1
          obtain ⟨q1, h1, h1_⟩ := h1
          obtain rfl := Option.some.inj h1_
          have HD1 := Aside0.mk h1
          clear h1
          have h2 := HD2.out
          clear HD2
          rw [if_neg (by simp)] at h2
          obtain rfl := Option.some.inj h2
          have h3 := HD3.out
          clear HD3
          rw [if_pos rfl] at h3
          replace h3 := Option.bind_eq_some_iff.mp h3
          obtain ⟨q3, h3, h3_⟩ := h3
          obtain rfl := Option.some.inj h3_
          have HD3 := Aside0.mk h3
          clear h3
          go_wp2_with (first | (go_at_call 39; refine (inst_fits.calls kq _ _ _ _ _ _ _ _ HF.out).mono ?_; rintro e w3 ⟨rfl, hb3⟩; have HX := Aside0.mk ((hb3.block _ (by simp)).trans (heap_alloc_last wr _)); have HR3 := Aside0.mk (blk_below (blk_alloc HR.out _) hb3); have HB3 := Aside0.mk (below_then (below_alloc HB.out _) (by have := HB.out.size; simp; omega) hb3); clear hb3 hx1; have hx1 := blk_cell HX.out 1) | (go_at_call 40; refine (inst_told.calls s2 a0 _ _ HM.out).mono ?_; rintro e w4 ⟨rfl, hd4⟩; have HX4 := Aside0.mk (blk_below HX.out hd4.below); have HR4 := Aside0.mk (blk_below HR3.out hd4.below); have HB4 := Aside0.mk (below_then HB3.out HB3.out.size hd4.below); have hlt4 : w.heap.size < w4.heap.size := blk_lt HR4.out; clear hd4 hx1; have hx1 := blk_cell HX4.out 1; have hx2 := blk_lt HX4.out) | (go_at_call 41; refine (inst_needs.calls kq s2 _ _ _ _ _ HN.out).mono ?_; rintro e w5 ⟨rfl, hd5⟩; have HI5 := Aside0.mk (blk_below (heap_alloc_last w4 _) hd5.below); have HR5 := Aside0.mk (blk_below (blk_alloc HR4.out _) hd5.below); have HB5 := Aside0.mk (below_then (below_alloc HB4.out _) (by have := HB4.out.size; simp; omega) hd5.below); clear hd5 hx1 hx2; have hi0 := blk_cell HI5.out 0; have hi1 := blk_cell HI5.out 1; have hi2 := blk_cell HI5.out 2; have hi3 := blk_cell HI5.out 3; have hi4 := blk_cell HI5.out 4; have hj1 := blk_frozen HI5.out 1; have hj2 := blk_frozen HI5.out 2; have hj3 := blk_frozen HI5.out 3; have hr0 := blk_cell HR5.out 0; have hs0 := blk_frozen HR5.out 0; have hr1 := blk_cell HR5.out 1; have hs1 := blk_frozen HR5.out 1; have hr2 := blk_cell HR5.out 2; have hs2 := blk_frozen HR5.out 2; have hr3 := blk_cell HR5.out 3; have hs3 := blk_frozen HR5.out 3; have hr4 := blk_cell HR5.out 4; have hs4 := blk_frozen HR5.out 4) | (go_at_call 42; (with_reducible refine (inst_bits.calls a0 7 5 _ _ HD1.out).mono ?_); rintro e w6 ⟨rfl, hd⟩; have HI6 := Aside0.mk (blk_below (HI5.out) hd.below); have HR6 := Aside0.mk (blk_below (HR5.out) hd.below); have HB6 := Aside0.mk (below_then (HB5.out) (below_size (HB5.out)) hd.below); clear hd; clear hi0 hi1 hi2 hi3 hi4 hj1 hj2 hj3 hr0 hr1 hr2 hr3 hr4 hs0 hs1 hs2 hs3 hs4; have hi0 := blk_cell HI6.out 0; have hi1 := blk_cell HI6.out 1; have hi2 := blk_cell HI6.out 2; have hi3 := blk_cell HI6.out 3; have hi4 := blk_cell HI6.out 4; have hj1 := blk_frozen HI6.out 1; have hj2 := blk_frozen HI6.out 2; have hj3 := blk_frozen HI6.out 3; have hr0 := blk_cell HR6.out 0; have hs0 := blk_frozen HR6.out 0; have hr1 := blk_cell HR6.out 1; have hs1 := blk_frozen HR6.out 1; have hr2 := blk_cell HR6.out 2; have hs2 := blk_frozen HR6.out 2; have hr3 := blk_cell HR6.out 3; have hs3 := blk_frozen HR6.out 3; have hr4 := blk_cell HR6.out 4; have hs4 := blk_frozen HR6.out 4) | (go_at_call 42; (with_reducible refine (inst_bits.calls a0 20 5 _ _ HD3.out).mono ?_); rintro e w7 ⟨rfl, hd⟩; have HI7 := Aside0.mk (blk_below (blk_set HI6.out 1 (.int .i64 (wrap64 q1))) hd.below); have HR7 := Aside0.mk (blk_below (blk_far HR6.out (p := ⟨w4.heap.size, 1, none⟩) (Nat.ne_of_lt hlt4) (.int .i64 (wrap64 q1))) hd.below); have HB7 := Aside0.mk (below_then (below_set (j := 1) (v := .int .i64 (wrap64 q1)) HB6.out (Nat.le_of_lt hlt4)) (below_size (below_set (j := 1) (v := .int .i64 (wrap64 q1)) HB6.out (Nat.le_of_lt hlt4))) hd.below); clear hd; clear hi0 hi1 hi2 hi3 hi4 hj1 hj2 hj3 hr0 hr1 hr2 hr3 hr4 hs0 hs1 hs2 hs3 hs4; have hi0 := blk_cell HI7.out 0; have hi1 := blk_cell HI7.out 1; have hi2 := blk_cell HI7.out 2; have hi3 := blk_cell HI7.out 3; have hi4 := blk_cell HI7.out 4; have hj1 := blk_frozen HI7.out 1; have hj2 := blk_frozen HI7.out 2; have hj3 := blk_frozen HI7.out 3; have hr0 := blk_cell HR7.out 0; have hs0 := blk_frozen HR7.out 0; have hr1 := blk_cell HR7.out 1; have hs1 := blk_frozen HR7.out 1; have hr2 := blk_cell HR7.out 2; have hs2 := blk_frozen HR7.out 2; have hr3 := blk_cell HR7.out 3; have hs3 := blk_frozen HR7.out 3; have hr4 := blk_cell HR7.out 4; have hs4 := blk_frozen HR7.out 4))
          have hz := blk_far HR7.out (p := ⟨w4.heap.size, 3, none⟩) (Nat.ne_of_lt hlt4) (.int .i64 (wrap64 q3))
          replace hz := blk_set hz 0 (.int .i64 ((n : Int)))
          replace hz := blk_set hz 1 (.int .i64 (wrap64 q1))
          replace hz := blk_set hz 2 (.int .i64 (0))
          replace hz := blk_set hz 3 (.int .i64 (wrap64 q3))
          replace hz := blk_set hz 4 (.int .i64 (m))
          have hw := below_set (j := 3) (v := .int .i64 (wrap64 q3)) HB7.out (Nat.le_of_lt hlt4)
          refine bodyPost_ret (results_ct rfl _ _ w.heap.size 39 _ (0, 0) _ rfl (by simpa using hz) Try.underlying39 rfl (by kernel_rfl)) rfl ⟨rfl, ?_⟩
          exact ((((hw.setCell (Nat.le_refl _) _).setCell (Nat.le_refl _) _).setCell (Nat.le_refl _) _).setCell (Nat.le_refl _) _).setCell (Nat.le_refl _) _
        · have hx1 : True := trivial
          have h1 := HD1.out
          clear HD1
          rw [if_pos rfl] at h1
          replace h1 := Option.bind_eq_some_iff.mp h1
          obtain ⟨q1, h1, h1_⟩ := h1
          obtain rfl := Option.some.inj h1_
          have HD1 := Aside0.mk h1
          clear h1
          have h2 := HD2.out
          clear HD2
          rw [if_pos rfl] at h2
          replace h2 := Option.bind_eq_some_iff.mp h2
          obtain ⟨q2, h2, h2_⟩ := h2
          obtain rfl := Option.some.inj h2_
          have HD2 := Aside0.mk h2
          clear h2
          have h3 := HD3.out
          clear HD3
          rw [if_neg (by simp)] at h3
          obtain rfl := Option.some.inj h3
          go_wp2_with (first | (go_at_call 39; refine (inst_fits.calls kq _ _ _ _ _ _ _ _ HF.out).mono ?_; rintro e w3 ⟨rfl, hb3⟩; have HX := Aside0.mk ((hb3.block _ (by simp)).trans (heap_alloc_last wr _)); have HR3 := Aside0.mk (blk_below (blk_alloc HR.out _) hb3); have HB3 := Aside0.mk (below_then (below_alloc HB.out _) (by have := HB.out.size; simp; omega) hb3); clear hb3 hx1; have hx1 := blk_cell HX.out 1) | (go_at_call 40; refine (inst_told.calls s2 a0 _ _ HM.out).mono ?_; rintro e w4 ⟨rfl, hd4⟩; have HX4 := Aside0.mk (blk_below HX.out hd4.below); have HR4 := Aside0.mk (blk_below HR3.out hd4.below); have HB4 := Aside0.mk (below_then HB3.out HB3.out.size hd4.below); have hlt4 : w.heap.size < w4.heap.size := blk_lt HR4.out; clear hd4 hx1; have hx1 := blk_cell HX4.out 1; have hx2 := blk_lt HX4.out) | (go_at_call 41; refine (inst_needs.calls kq s2 _ _ _ _ _ HN.out).mono ?_; rintro e w5 ⟨rfl, hd5⟩; have HI5 := Aside0.mk (blk_below (heap_alloc_last w4 _) hd5.below); have HR5 := Aside0.mk (blk_below (blk_alloc HR4.out _) hd5.below); have HB5 := Aside0.mk (below_then (below_alloc HB4.out _) (by have := HB4.out.size; simp; omega) hd5.below); clear hd5 hx1 hx2; have hi0 := blk_cell HI5.out 0; have hi1 := blk_cell HI5.out 1; have hi2 := blk_cell HI5.out 2; have hi3 := blk_cell HI5.out 3; have hi4 := blk_cell HI5.out 4; have hj1 := blk_frozen HI5.out 1; have hj2 := blk_frozen HI5.out 2; have hj3 := blk_frozen HI5.out 3; have hr0 := blk_cell HR5.out 0; have hs0 := blk_frozen HR5.out 0; have hr1 := blk_cell HR5.out 1; have hs1 := blk_frozen HR5.out 1; have hr2 := blk_cell HR5.out 2; have hs2 := blk_frozen HR5.out 2; have hr3 := blk_cell HR5.out 3; have hs3 := blk_frozen HR5.out 3; have hr4 := blk_cell HR5.out 4; have hs4 := blk_frozen HR5.out 4) | (go_at_call 42; (with_reducible refine (inst_bits.calls a0 7 5 _ _ HD1.out).mono ?_); rintro e w6 ⟨rfl, hd⟩; have HI6 := Aside0.mk (blk_below (HI5.out) hd.below); have HR6 := Aside0.mk (blk_below (HR5.out) hd.below); have HB6 := Aside0.mk (below_then (HB5.out) (below_size (HB5.out)) hd.below); clear hd; clear hi0 hi1 hi2 hi3 hi4 hj1 hj2 hj3 hr0 hr1 hr2 hr3 hr4 hs0 hs1 hs2 hs3 hs4; have hi0 := blk_cell HI6.out 0; have hi1 := blk_cell HI6.out 1; have hi2 := blk_cell HI6.out 2; have hi3 := blk_cell HI6.out 3; have hi4 := blk_cell HI6.out 4; have hj1 := blk_frozen HI6.out 1; have hj2 := blk_frozen HI6.out 2; have hj3 := blk_frozen HI6.out 3; have hr0 := blk_cell HR6.out 0; have hs0 := blk_frozen HR6.out 0; have hr1 := blk_cell HR6.out 1; have hs1 := blk_frozen HR6.out 1; have hr2 := blk_cell HR6.out 2; have hs2 := blk_frozen HR6.out 2; have hr3 := blk_cell HR6.out 3; have hs3 := blk_frozen HR6.out 3; have hr4 := blk_cell HR6.out 4; have hs4 := blk_frozen HR6.out 4) | (go_at_call 42; (with_reducible refine (inst_bits.calls a0 15 5 _ _ HD2.out).mono ?_); rintro e w7 ⟨rfl, hd⟩; have HI7 := Aside0.mk (blk_below (blk_set HI6.out 1 (.int .i64 (wrap64 q1))) hd.below); have HR7 := Aside0.mk (blk_below (blk_far HR6.out (p := ⟨w4.heap.size, 1, none⟩) (Nat.ne_of_lt hlt4) (.int .i64 (wrap64 q1))) hd.below); have HB7 := Aside0.mk (below_then (below_set (j := 1) (v := .int .i64 (wrap64 q1)) HB6.out (Nat.le_of_lt hlt4)) (below_size (below_set (j := 1) (v := .int .i64 (wrap64 q1)) HB6.out (Nat.le_of_lt hlt4))) hd.below); clear hd; clear hi0 hi1 hi2 hi3 hi4 hj1 hj2 hj3 hr0 hr1 hr2 hr3 hr4 hs0 hs1 hs2 hs3 hs4; have hi0 := blk_cell HI7.out 0; have hi1 := blk_cell HI7.out 1; have hi2 := blk_cell HI7.out 2; have hi3 := blk_cell HI7.out 3; have hi4 := blk_cell HI7.out 4; have hj1 := blk_frozen HI7.out 1; have hj2 := blk_frozen HI7.out 2; have hj3 := blk_frozen HI7.out 3; have hr0 := blk_cell HR7.out 0; have hs0 := blk_frozen HR7.out 0; have hr1 := blk_cell HR7.out 1; have hs1 := blk_frozen HR7.out 1; have hr2 := blk_cell HR7.out 2; have hs2 := blk_frozen HR7.out 2; have hr3 := blk_cell HR7.out 3; have hs3 := blk_frozen HR7.out 3; have hr4 := blk_cell HR7.out 4; have hs4 := blk_frozen HR7.out 4))
          have hz := blk_far HR7.out (p := ⟨w4.heap.size, 2, none⟩) (Nat.ne_of_lt hlt4) (.int .i64 (wrap64 q2))
          replace hz := blk_set hz 0 (.int .i64 ((n : Int)))
          replace hz := blk_set hz 1 (.int .i64 (wrap64 q1))
          replace hz := blk_set hz 2 (.int .i64 (wrap64 q2))
          replace hz := blk_set hz 3 (.int .i64 (0))
          replace hz := blk_set hz 4 (.int .i64 (m))
          have hw := below_set (j := 2) (v := .int .i64 (wrap64 q2)) HB7.out (Nat.le_of_lt hlt4)
          refine bodyPost_ret (results_ct rfl _ _ w.heap.size 39 _ (0, 0) _ rfl (by simpa using hz) Try.underlying39 rfl (by kernel_rfl)) rfl ⟨rfl, ?_⟩
          exact ((((hw.setCell (Nat.le_refl _) _).setCell (Nat.le_refl _) _).setCell (Nat.le_refl _) _).setCell (Nat.le_refl _) _).setCell (Nat.le_refl _) _
        · have hx1 : True := trivial
          have h1 := HD1.out
          clear HD1
          rw [if_pos rfl] at h1
          replace h1 := Option.bind_eq_some_iff.mp h1
          obtain ⟨q1, h1, h1_⟩ := h1
          obtain rfl := Option.some.inj h1_
          have HD1 := Aside0.mk h1
          clear h1
          have h2 := HD2.out
          clear HD2
          rw [if_pos rfl] at h2
          replace h2 := Option.bind_eq_some_iff.mp h2
          obtain ⟨q2, h2, h2_⟩ := h2
          obtain rfl := Option.some.inj h2_
          have HD2 := Aside0.mk h2
          clear h2
          have h3 := HD3.out
          clear HD3
          rw [if_pos rfl] at h3
          replace h3 := Option.bind_eq_some_iff.mp h3
          obtain ⟨q3, h3, h3_⟩ := h3
          obtain rfl := Option.some.inj h3_
          have HD3 := Aside0.mk h3
          clear h3
          go_wp2_with (first | (go_at_call 39; refine (inst_fits.calls kq _ _ _ _ _ _ _ _ HF.out).mono ?_; rintro e w3 ⟨rfl, hb3⟩; have HX := Aside0.mk ((hb3.block _ (by simp)).trans (heap_alloc_last wr _)); have HR3 := Aside0.mk (blk_below (blk_alloc HR.out _) hb3); have HB3 := Aside0.mk (below_then (below_alloc HB.out _) (by have := HB.out.size; simp; omega) hb3); clear hb3 hx1; have hx1 := blk_cell HX.out 1) | (go_at_call 40; refine (inst_told.calls s2 a0 _ _ HM.out).mono ?_; rintro e w4 ⟨rfl, hd4⟩; have HX4 := Aside0.mk (blk_below HX.out hd4.below); have HR4 := Aside0.mk (blk_below HR3.out hd4.below); have HB4 := Aside0.mk (below_then HB3.out HB3.out.size hd4.below); have hlt4 : w.heap.size < w4.heap.size := blk_lt HR4.out; clear hd4 hx1; have hx1 := blk_cell HX4.out 1; have hx2 := blk_lt HX4.out) | (go_at_call 41; refine (inst_needs.calls kq s2 _ _ _ _ _ HN.out).mono ?_; rintro e w5 ⟨rfl, hd5⟩; have HI5 := Aside0.mk (blk_below (heap_alloc_last w4 _) hd5.below); have HR5 := Aside0.mk (blk_below (blk_alloc HR4.out _) hd5.below); have HB5 := Aside0.mk (below_then (below_alloc HB4.out _) (by have := HB4.out.size; simp; omega) hd5.below); clear hd5 hx1 hx2; have hi0 := blk_cell HI5.out 0; have hi1 := blk_cell HI5.out 1; have hi2 := blk_cell HI5.out 2; have hi3 := blk_cell HI5.out 3; have hi4 := blk_cell HI5.out 4; have hj1 := blk_frozen HI5.out 1; have hj2 := blk_frozen HI5.out 2; have hj3 := blk_frozen HI5.out 3; have hr0 := blk_cell HR5.out 0; have hs0 := blk_frozen HR5.out 0; have hr1 := blk_cell HR5.out 1; have hs1 := blk_frozen HR5.out 1; have hr2 := blk_cell HR5.out 2; have hs2 := blk_frozen HR5.out 2; have hr3 := blk_cell HR5.out 3; have hs3 := blk_frozen HR5.out 3; have hr4 := blk_cell HR5.out 4; have hs4 := blk_frozen HR5.out 4) | (go_at_call 42; (with_reducible refine (inst_bits.calls a0 7 5 _ _ HD1.out).mono ?_); rintro e w6 ⟨rfl, hd⟩; have HI6 := Aside0.mk (blk_below (HI5.out) hd.below); have HR6 := Aside0.mk (blk_below (HR5.out) hd.below); have HB6 := Aside0.mk (below_then (HB5.out) (below_size (HB5.out)) hd.below); clear hd; clear hi0 hi1 hi2 hi3 hi4 hj1 hj2 hj3 hr0 hr1 hr2 hr3 hr4 hs0 hs1 hs2 hs3 hs4; have hi0 := blk_cell HI6.out 0; have hi1 := blk_cell HI6.out 1; have hi2 := blk_cell HI6.out 2; have hi3 := blk_cell HI6.out 3; have hi4 := blk_cell HI6.out 4; have hj1 := blk_frozen HI6.out 1; have hj2 := blk_frozen HI6.out 2; have hj3 := blk_frozen HI6.out 3; have hr0 := blk_cell HR6.out 0; have hs0 := blk_frozen HR6.out 0; have hr1 := blk_cell HR6.out 1; have hs1 := blk_frozen HR6.out 1; have hr2 := blk_cell HR6.out 2; have hs2 := blk_frozen HR6.out 2; have hr3 := blk_cell HR6.out 3; have hs3 := blk_frozen HR6.out 3; have hr4 := blk_cell HR6.out 4; have hs4 := blk_frozen HR6.out 4) | (go_at_call 42; (with_reducible refine (inst_bits.calls a0 15 5 _ _ HD2.out).mono ?_); rintro e w7 ⟨rfl, hd⟩; have HI7 := Aside0.mk (blk_below (blk_set HI6.out 1 (.int .i64 (wrap64 q1))) hd.below); have HR7 := Aside0.mk (blk_below (blk_far HR6.out (p := ⟨w4.heap.size, 1, none⟩) (Nat.ne_of_lt hlt4) (.int .i64 (wrap64 q1))) hd.below); have HB7 := Aside0.mk (below_then (below_set (j := 1) (v := .int .i64 (wrap64 q1)) HB6.out (Nat.le_of_lt hlt4)) (below_size (below_set (j := 1) (v := .int .i64 (wrap64 q1)) HB6.out (Nat.le_of_lt hlt4))) hd.below); clear hd; clear hi0 hi1 hi2 hi3 hi4 hj1 hj2 hj3 hr0 hr1 hr2 hr3 hr4 hs0 hs1 hs2 hs3 hs4; have hi0 := blk_cell HI7.out 0; have hi1 := blk_cell HI7.out 1; have hi2 := blk_cell HI7.out 2; have hi3 := blk_cell HI7.out 3; have hi4 := blk_cell HI7.out 4; have hj1 := blk_frozen HI7.out 1; have hj2 := blk_frozen HI7.out 2; have hj3 := blk_frozen HI7.out 3; have hr0 := blk_cell HR7.out 0; have hs0 := blk_frozen HR7.out 0; have hr1 := blk_cell HR7.out 1; have hs1 := blk_frozen HR7.out 1; have hr2 := blk_cell HR7.out 2; have hs2 := blk_frozen HR7.out 2; have hr3 := blk_cell HR7.out 3; have hs3 := blk_frozen HR7.out 3; have hr4 := blk_cell HR7.out 4; have hs4 := blk_frozen HR7.out 4) | (go_at_call 42; (with_reducible refine (inst_bits.calls a0 20 5 _ _ HD3.out).mono ?_); rintro e w8 ⟨rfl, hd⟩; have HI8 := Aside0.mk (blk_below (blk_set HI7.out 2 (.int .i64 (wrap64 q2))) hd.below); have HR8 := Aside0.mk (blk_below (blk_far HR7.out (p := ⟨w4.heap.size, 2, none⟩) (Nat.ne_of_lt hlt4) (.int .i64 (wrap64 q2))) hd.below); have HB8 := Aside0.mk (below_then (below_set (j := 2) (v := .int .i64 (wrap64 q2)) HB7.out (Nat.le_of_lt hlt4)) (below_size (below_set (j := 2) (v := .int .i64 (wrap64 q2)) HB7.out (Nat.le_of_lt hlt4))) hd.below); clear hd; clear hi0 hi1 hi2 hi3 hi4 hj1 hj2 hj3 hr0 hr1 hr2 hr3 hr4 hs0 hs1 hs2 hs3 hs4; have hi0 := blk_cell HI8.out 0; have hi1 := blk_cell HI8.out 1; have hi2 := blk_cell HI8.out 2; have hi3 := blk_cell HI8.out 3; have hi4 := blk_cell HI8.out 4; have hj1 := blk_frozen HI8.out 1; have hj2 := blk_frozen HI8.out 2; have hj3 := blk_frozen HI8.out 3; have hr0 := blk_cell HR8.out 0; have hs0 := blk_frozen HR8.out 0; have hr1 := blk_cell HR8.out 1; have hs1 := blk_frozen HR8.out 1; have hr2 := blk_cell HR8.out 2; have hs2 := blk_frozen HR8.out 2; have hr3 := blk_cell HR8.out 3; have hs3 := blk_frozen HR8.out 3; have hr4 := blk_cell HR8.out 4; have hs4 := blk_frozen HR8.out 4))
          have hz := blk_far HR8.out (p := ⟨w4.heap.size, 3, none⟩) (Nat.ne_of_lt hlt4) (.int .i64 (wrap64 q3))
          replace hz := blk_set hz 0 (.int .i64 ((n : Int)))
          replace hz := blk_set hz 1 (.int .i64 (wrap64 q1))
          replace hz := blk_set hz 2 (.int .i64 (wrap64 q2))
          replace hz := blk_set hz 3 (.int .i64 (wrap64 q3))
          replace hz := blk_set hz 4 (.int .i64 (m))
          have hw := below_set (j := 3) (v := .int .i64 (wrap64 q3)) HB8.out (Nat.le_of_lt hlt4)
          refine bodyPost_ret (results_ct rfl _ _ w.heap.size 39 _ (0, 0) _ rfl (by simpa using hz) Try.underlying39 rfl (by kernel_rfl)) rfl ⟨rfl, ?_⟩
          exact ((((hw.setCell (Nat.le_refl _) _).setCell (Nat.le_refl _) _).setCell (Nat.le_refl _) _).setCell (Nat.le_refl _) _).setCell (Nat.le_refl _) _
    · have h0 := H.out
      clear H
      simp only [inst_Decode.l0] at h0
      rw [if_neg (by omega)] at h0
      simp only [Option.some.injEq, Prod.mk.injEq] at h0
      obtain ⟨rfl, rfl, rfl, rfl, rfl, rfl⟩ := h0
      have hr0 := blk_cell HR.out 0
      have hs0 := blk_frozen HR.out 0
      have hr1 := blk_cell HR.out 1
      have hs1 := blk_frozen HR.out 1
      have hr2 := blk_cell HR.out 2
      have hs2 := blk_frozen HR.out 2
      have hr3 := blk_cell HR.out 3
      have hs3 := blk_frozen HR.out 3
      have hr4 := blk_cell HR.out 4
      have hs4 := blk_frozen HR.out 4
      go_wp2
      have hz := HR.out
      replace hz := blk_set hz 0 (.int .i64 0)
      replace hz := blk_set hz 1 (.int .i64 0)
      replace hz := blk_set hz 2 (.int .i64 0)
      replace hz := blk_set hz 3 (.int .i64 0)
      replace hz := blk_set hz 4 (.int .i64 0)
      refine bodyPost_ret (results_ct rfl _ _ w.heap.size 39 _ (0, 0) _ rfl (by simpa using hz) Try.underlying39 rfl (by kernel_rfl)) rfl ⟨rfl, ?_⟩
      exact ((((HB.out.setCell (Nat.le_refl _) _).setCell (Nat.le_refl _) _).setCell (Nat.le_refl _) _).setCell (Nat.le_refl _) _).setCell (Nat.le_refl _) _
end Go.Proofs.Ytecbponmpinnoaa.P
end
section
namespace Go.Proofs.Ytecbponmpinnoaa.P
open Go.RowKit Go.Proofs.YtecbponmpinnoaaW.PrintWords Go.Proofs.YtecbponmpinnoaaW.PrintLast Go.Proofs.YtecbponmpinnoaaW.PrintMore
attribute [local go_sem] max2_int min2_int max_two min_two max_three min_three max_four min_four   
set_option linter.unusedVariables false
set_option linter.unusedSimpArgs false
mutual
def rushlightlaw05_AsmNumbers.j0 : Nat → Int → Int → List Int → Int → Bool → Option (Bool)
  | 0, _, _, _, _, _ => none
  | k + 1, x0, x1, x5, x7, x26 => if x26 = true then ((rushlightlaw05_awake.f k).bind fun t498 => (if t498 = true then (if x7 = 1 then (some ((x5.length : Int) == 0)) else (some false)) else (some false))) else (if x7 = 0 then (if (x5.length : Int) < 1 then (rushlightlaw05_AsmNumbers.j1 k x0 x1 x5 true) else (rushlightlaw05_AsmNumbers.j1 k x0 x1 x5 (decide ((x5.length : Int) > 2)))) else (rushlightlaw05_AsmNumbers.j1 k x0 x1 x5 true))
def rushlightlaw05_AsmNumbers.j1 : Nat → Int → Int → List Int → Bool → Option (Bool)
  | 0, _, _, _, _ => none
  | k + 1, x0, x1, x5, x48 => if x48 = true then (some false) else (rushlightlaw05_AsmNumbers.l0 k x0 x1 x5 0 0)
def rushlightlaw05_AsmNumbers.l0 : Nat → Int → Int → List Int → Int → Int → Option (Bool)
  | 0, _, _, _, _, _ => none
  | k + 1, x0, x1, x5, x8, x9 => if x9 < (x5.length : Int) then (if 0 ≤ x9 then ((inst_Decode.f k (rd x5 x9)).bind fun bt500 => (if bt500.2.2.2.2.2 = 0 then (if bt500.2.1 = x0 then (if bt500.1 = 1 then (rushlightlaw05_AsmNumbers.l0 k x0 x1 x5 (wrap64 (x8 + bt500.2.2.2.2.1)) (wrap64 (x9 + 1))) else (if bt500.1 = 19 then (if bt500.2.2.1 = 0 then (rushlightlaw05_AsmNumbers.l0 k x0 x1 x5 (wrap64 (x8 + bt500.2.2.2.2.1)) (wrap64 (x9 + 1))) else (if x9 = 0 then (some false) else (if bt500.2.2.1 = x0 then (rushlightlaw05_AsmNumbers.l0 k x0 x1 x5 (wrap64 (x8 + bt500.2.2.2.2.1)) (wrap64 (x9 + 1))) else (some false)))) else (some false))) else (some false)) else (some false))) else (none)) else ((rushlightlaw05_awake.f k).bind fun t507 => (if t507 = true then ((rushlightref01_Cut.f x8).bind fun t508 => (some (t508 == x1))) else (some false)))
end
def rushlightlaw05_AsmNumbers.f (k : Nat) (a0 : Int) (a1 : Int) : Option (Bool) := (asm_Const.f a0 a1).bind fun bt481 => ((asm_Assemble.f k (([(⟨bt481.1, (⟨bt481.2.1, bt481.2.2.1, bt481.2.2.2.1, bt481.2.2.2.2.1, bt481.2.2.2.2.2.1⟩ : S39), bt481.2.2.2.2.2.2⟩ : S41)] : List (S41)))).bind fun bt491 => (if a0 < 0 then (rushlightlaw05_AsmNumbers.j0 k a0 a1 bt491.1 bt491.2.2 true) else (rushlightlaw05_AsmNumbers.j0 k a0 a1 bt491.1 bt491.2.2 (decide (a0 > 31)))))
set_option maxHeartbeats 8000000 in
set_option maxRecDepth 100000 in
theorem rushlightlaw05_AsmNumbers.calls (k : Nat) (a0 : Int) (a1 : Int) (r : Bool) (w : World) (h : rushlightlaw05_AsmNumbers.f k a0 a1 = some r) :
    Calls Try.prog 7 #[.int .i64 a0, .int .u32 a1] w fun e w' => e = .returned (.bool r) ∧ Below w.heap.size w w' := by
  have hu39 := Try.underlying39
  have HB := Aside0.mk (Below.refl w.heap.size w)
  have H : ((asm_Const.f a0 a1).bind fun bt481 => ((asm_Assemble.f k (([(⟨bt481.1, (⟨bt481.2.1, bt481.2.2.1, bt481.2.2.2.1, bt481.2.2.2.2.1, bt481.2.2.2.2.2.1⟩ : S39), bt481.2.2.2.2.2.2⟩ : S41)] : List (S41)))).bind fun bt491 => (if a0 < 0 then (rushlightlaw05_AsmNumbers.j0 k a0 a1 bt491.1 bt491.2.2 true) else (rushlightlaw05_AsmNumbers.j0 k a0 a1 bt491.1 bt491.2.2 (decide (a0 > 31)))))) = some r := h
  clear h
  replace H := Option.bind_eq_some_iff.mp H
  obtain ⟨⟨t481, t482, t483, t484, t485, t486, t487⟩, A30, H⟩ := H
  replace H : ((asm_Assemble.f k (([(⟨t481, (⟨t482, t483, t484, t485, t486⟩ : S39), t487⟩ : S41)] : List (S41)))).bind fun bt491 => (if a0 < 0 then (rushlightlaw05_AsmNumbers.j0 k a0 a1 bt491.1 bt491.2.2 true) else (rushlightlaw05_AsmNumbers.j0 k a0 a1 bt491.1 bt491.2.2 (decide (a0 > 31))))) = some r := H
  have A3 := Aside0.mk A30
  clear A30
  obtain ⟨y488, hy488⟩ : ∃ y_ : List (S41), y_ = (([(⟨t481, (⟨t482, t483, t484, t485, t486⟩ : S39), t487⟩ : S41)] : List (S41))) := ⟨_, rfl⟩
  replace H : ((asm_Assemble.f k y488).bind fun bt491 => (if a0 < 0 then (rushlightlaw05_AsmNumbers.j0 k a0 a1 bt491.1 bt491.2.2 true) else (rushlightlaw05_AsmNumbers.j0 k a0 a1 bt491.1 bt491.2.2 (decide (a0 > 31))))) = some r := by first | (rw [hy488]; with_reducible exact H) | (have H2_ := (Option.bind_some _ _).symm.trans H; rw [hy488]; with_reducible exact H2_) | (have H2_ := (Option.bind_some _ _).symm.trans H; with_reducible exact H2_) | with_reducible exact H | (rw [hy488]; exact H) | exact H
  have Ny488 := Aside0.mk hy488
  clear hy488
  replace H := Option.bind_eq_some_iff.mp H
  obtain ⟨⟨t491, t492, t493⟩, A40, H⟩ := H
  replace H : (if a0 < 0 then (rushlightlaw05_AsmNumbers.j0 k a0 a1 t491 t493 true) else (rushlightlaw05_AsmNumbers.j0 k a0 a1 t491 t493 (decide (a0 > 31)))) = some r := H
  have A4 := Aside0.mk A40
  clear A40
  have HC5 := Aside0.mk H
  clear H
  go_enter Try.func7, Try.ntmps7
  go_upto_region 2 with (first | ((with_reducible refine gate_callee (f := 18) rfl ?_); refine goesL_ (some 15) rfl rfl Try.func18 (by kernel_rfl) rfl #[.int .i64 a0, .int .u32 a1] rfl (by (try simp only [List.map_toArray, List.map_cons, List.map_nil]); first | done | rfl | (simp only [List.length_drop, List.length_take]; rfl)) ?_; (with_reducible refine (asm_Const.calls a0 a1 t481 t482 t483 t484 t485 t486 t487 _ A3.out).mono ?_); rintro e w6 ⟨rfl, hb⟩; refine ⟨_, rfl, ?_⟩; have n0_ := Aside0.mk (below_step (by repeat (first | (with_reducible first | exact HB.out | apply below_alloc | apply pw_below_drewN | apply below_drew1) | exact HB.out)) hb); clear HB; have HB := n0_; clear n0_; (try clear hb); (try clear hb2); (try clear hk); (try clear hi)) | ((with_reducible refine gate_dst (N := 16) rfl ?_); (try (refine gate_guard (by rfl) ?_; dsimp only)); refine Kd.R_lit k41 _ 41 ?hg (N := 16) ?hd (xs := ([(⟨t481, (⟨t482, t483, t484, t485, t486⟩ : S39), t487⟩ : S41)] : List (S41))) (inner := [.int .i64 t481, .int .i64 t482, .int .i64 t483, .int .i64 t484, .int .i64 t485, .int .i64 t486, .int .i64 t487]) (ok := fun _ => True) (okp := fun _ => True) ?hr ?hp (fun _ hk => hk) trivial (Below.refl _ _) (Nat.le_refl _) (by simp) ?_; (case hd => rfl); (case hg => rfl); (case hr => first | (go_simp; done) | (go_simp; rfl)); (case hp => exact (Reps.c7 (show Kd.M k41 _ _ _ (⟨t481, (⟨t482, t483, t484, t485, t486⟩ : S39), t487⟩ : S41) [.int .i64 t481, .int .i64 t482, .int .i64 t483, .int .i64 t484, .int .i64 t485, .int .i64 t486, .int .i64 t487] from (k41_mkM _ _ _ (⟨t481, (⟨t482, t483, t484, t485, t486⟩ : S39), t487⟩ : S41) )) (Reps.none _ _))); intro v489 w7 ho8 hb hg_ hnew_; clear hg_ hnew_; (first | rw [← Ny488.out] at ho8 | (simp only [Int.reduceToNat] at ho8; rw [← Ny488.out] at ho8)); have n0_ := Aside0.mk (Kd.R_lower ho8 (below_size (by repeat (first | (with_reducible first | exact HB.out | apply below_alloc | apply pw_below_drewN | apply below_drew1) | exact HB.out)))); have n1_ := Aside0.mk (below_step (by repeat (first | (with_reducible first | exact HB.out | apply below_alloc | apply pw_below_drewN | apply below_drew1) | exact HB.out)) hb); clear HB; have HO490 := n0_; have HB := n1_; clear n0_ n1_; clear hb ho8; obtain ⟨Ao9, co9, eo9⟩ := Kd.R_slice HO490.out; subst eo9) | ((with_reducible refine gate_callee (f := 10) rfl ?_); refine goesL_ (some 17) rfl rfl Try.func10 (by kernel_rfl) rfl #[.slice Ao9 y488.length co9] rfl (by (try simp only [List.map_toArray, List.map_cons, List.map_nil]); first | done | rfl | (simp only [List.length_drop, List.length_take]; rfl)) ?_; (with_reducible refine (asm_Assemble.calls k _ _ y488 t491 t492 t493 _ ?side1 ?side2 A4.out).mono ?_); (case side1 => repeat (first | exact (Kd.R_reads' HO490.out).2.2 | (with_reducible refine Kd.C_alloc ?_ _) | (with_reducible refine Kd.C_drewN ?_ _) | (with_reducible refine Kd.C_drew ?_))); (case side2 => exact (Kd.R_reads' HO490.out).2.1); rintro e w10 ⟨v494, v496, rfl, ho0, ho1, hb⟩; refine ⟨_, rfl, ?_⟩; have n0_ := Aside0.mk (Kd.R_below (by (with_reducible repeat (first | apply Kd.R_alloc | apply Kd.R_drewN | apply Kd.R_drew)); exact HO490.out) hb); have n1_ := Aside0.mk (Kd.R_lower ho0 (below_size (by repeat (first | (with_reducible first | exact HB.out | apply below_alloc | apply pw_below_drewN | apply below_drew1) | exact HB.out)))); have n2_ := Aside0.mk (Kd.R_lower ho1 (below_size (by repeat (first | (with_reducible first | exact HB.out | apply below_alloc | apply pw_below_drewN | apply below_drew1) | exact HB.out)))); have n3_ := Aside0.mk (below_step (by repeat (first | (with_reducible first | exact HB.out | apply below_alloc | apply pw_below_drewN | apply below_drew1) | exact HB.out)) hb); clear HO490; clear HB; have HO490 := n0_; have HO495 := n1_; have HO497 := n2_; have HB := n3_; clear n0_ n1_ n2_ n3_; (try clear hb); (try clear hb2); (try clear hk); (try clear hi); (try clear ho0); (try clear ho1)))
  (try simp only [Act.put, List.setIfInBounds_toArray, List.set_cons_zero, List.set_cons_succ])
  go_cut [26] (fun v26 wc => ∃ (kq : Nat) (x26_4 : Bool), v26 = .bool x26_4 ∧ Aside0 (rushlightlaw05_AsmNumbers.j0 kq a0 a1 t491 t493 x26_4 = some r) ∧ Aside0 (kq ≤ k) ∧ Aside0 (Kd.R (Kd.int .u32) 35 wc w.heap.size (fun _ => True) v494 t491) ∧ Aside0 (Below w.heap.size w wc))
  case first =>
    have H := HC5.out
    clear HC5
    by_cases c11 : a0 < 0
    · rw [if_pos c11] at H
      have c11b0 : decide (a0 < 0) = true := decide_eq_true c11
      clear c11
      (first | rw [c11b0] | (simp only [i64_w, i32_w]; rw [c11b0]) | skip)
      have H' := Aside0.mk H
      clear H
      go_wp2
      go_meet
      case rel => exact ⟨_, (true), (by first | rfl | (simp; done) | (simp [*]; done)), H', ⟨by first | omega | exact Nat.le_refl _⟩, ⟨by (with_reducible repeat (first | apply Kd.R_alloc | apply Kd.R_drewN | apply Kd.R_drew)); exact HO495.out⟩, ⟨by repeat (first | (with_reducible first | exact HB.out | apply below_alloc | apply pw_below_drewN | apply below_drew1) | exact HB.out)⟩⟩
    · rw [if_neg c11] at H
      have c11b0 : decide (a0 < 0) = false := decide_eq_false c11
      clear c11
      (first | rw [c11b0] | (simp only [i64_w, i32_w]; rw [c11b0]) | skip)
      have H' := Aside0.mk H
      clear H
      go_wp2
      go_meet
      case rel => exact ⟨_, (decide (a0 > 31)), (by first | rfl | (simp; done) | (simp [*]; done)), H', ⟨by first | omega | exact Nat.le_refl _⟩, ⟨by (with_reducible repeat (first | apply Kd.R_alloc | apply Kd.R_drewN | apply Kd.R_drew)); exact HO495.out⟩, ⟨by repeat (first | (with_reducible first | exact HB.out | apply below_alloc | apply pw_below_drewN | apply below_drew1) | exact HB.out)⟩⟩
  case rest =>
    clear HC5
    try clear c1
    try clear p2
    try clear c7
    try clear c10
    try clear c11
    try clear c11b0
    obtain ⟨kq, x26_4, rfl, HA, HJ4, HO_5, HB⟩ := hcut
    cases kq with
    | zero => exact absurd HA.out (by simp [rushlightlaw05_AsmNumbers.j0])
    | succ kj4 =>
      have H := HA.out
      clear HA
      simp only [rushlightlaw05_AsmNumbers.j0] at H
      by_cases c12 : x26_4 = true
      · subst c12
        have H1 : ((rushlightlaw05_awake.f kj4).bind fun t498 => (if t498 = true then (if t493 = 1 then (some ((t491.length : Int) == 0)) else (some false)) else (some false))) = some r := by rw [if_pos rfl] at H; exact H
        clear H
        have H := H1
        clear H1
        replace H := Option.bind_eq_some_iff.mp H
        obtain ⟨t498, A130, H⟩ := H
        replace H : (if t498 = true then (if t493 = 1 then (some ((t491.length : Int) == 0)) else (some false)) else (some false)) = some r := H
        have A13 := Aside0.mk A130
        clear A130
        by_cases c14 : t498 = true
        · subst c14
          have H1 : (if t493 = 1 then (some ((t491.length : Int) == 0)) else (some false)) = some r := by rw [if_pos rfl] at H; exact H
          clear H
          have H := H1
          clear H1
          by_cases c15 : t493 = 1
          · rw [if_pos c15] at H
            have c15b0 : (t493 == 1) = true := beq_iff_eq.mpr c15
            have c15b1 : (t493 != 1) = false := bne_eq_false_iff_eq.mpr c15
            clear c15
            obtain rfl := Option.some.inj H
            go_wp2_with (first | ((with_reducible refine gate_callee (f := 8) rfl ?_); refine goesL_ (some 27) rfl rfl Try.func8 (by kernel_rfl) rfl #[] rfl (by (try simp only [List.map_toArray, List.map_cons, List.map_nil]); first | done | rfl | (simp only [List.length_drop, List.length_take]; rfl)) ?_; (with_reducible refine (rushlightlaw05_awake.calls kj4  true _ A13.out).mono ?_); rintro e w16 ⟨rfl, hb⟩; refine ⟨_, rfl, ?_⟩; have n0_ := Aside0.mk (Kd.R_below (by (with_reducible repeat (first | apply Kd.R_alloc | apply Kd.R_drewN | apply Kd.R_drew)); exact HO_5.out) hb); have n1_ := Aside0.mk (below_step (by repeat (first | (with_reducible first | exact HB.out | apply below_alloc | apply pw_below_drewN | apply below_drew1) | exact HB.out)) hb); clear HO_5; clear HB; have HO_5 := n0_; have HB := n1_; clear n0_ n1_; (try clear hb); (try clear hb2); (try clear hk); (try clear hi); obtain ⟨Ao17, co17, eo17⟩ := Kd.R_slice HO_5.out; subst eo17))
            go_ret
            exact ⟨by first | rfl | (simp [errW_none, errW_some] <;> rfl) | (simp [*, errW_none, errW_some] <;> rfl), by repeat (first | (with_reducible first | exact HB.out | apply below_alloc | apply pw_below_drewN | apply below_drew1) | exact HB.out)⟩
          · rw [if_neg c15] at H
            have c15b0 : (t493 == 1) = false := beq_eq_false_iff_ne.mpr c15
            have c15b1 : (t493 != 1) = true := bne_iff_ne.mpr c15
            obtain rfl := Option.some.inj H
            go_wp2_with (first | ((with_reducible refine gate_callee (f := 8) rfl ?_); refine goesL_ (some 27) rfl rfl Try.func8 (by kernel_rfl) rfl #[] rfl (by (try simp only [List.map_toArray, List.map_cons, List.map_nil]); first | done | rfl | (simp only [List.length_drop, List.length_take]; rfl)) ?_; (with_reducible refine (rushlightlaw05_awake.calls kj4  true _ A13.out).mono ?_); rintro e w18 ⟨rfl, hb⟩; refine ⟨_, rfl, ?_⟩; have n0_ := Aside0.mk (Kd.R_below (by (with_reducible repeat (first | apply Kd.R_alloc | apply Kd.R_drewN | apply Kd.R_drew)); exact HO_5.out) hb); have n1_ := Aside0.mk (below_step (by repeat (first | (with_reducible first | exact HB.out | apply below_alloc | apply pw_below_drewN | apply below_drew1) | exact HB.out)) hb); clear HO_5; clear HB; have HO_5 := n0_; have HB := n1_; clear n0_ n1_; (try clear hb); (try clear hb2); (try clear hk); (try clear hi)))
            go_ret
            exact ⟨by first | rfl | (simp [errW_none, errW_some] <;> rfl) | (simp [*, errW_none, errW_some] <;> rfl), by repeat (first | (with_reducible first | exact HB.out | apply below_alloc | apply pw_below_drewN | apply below_drew1) | exact HB.out)⟩
        · replace c14 := Bool.eq_false_iff.mpr c14
          subst c14
          have H1 : (some false) = some r := by rw [if_neg (show ¬ (false = true) by decide)] at H; exact H
          clear H
          have H := H1
          clear H1
          obtain rfl := Option.some.inj H
          go_wp2_with (first | ((with_reducible refine gate_callee (f := 8) rfl ?_); refine goesL_ (some 27) rfl rfl Try.func8 (by kernel_rfl) rfl #[] rfl (by (try simp only [List.map_toArray, List.map_cons, List.map_nil]); first | done | rfl | (simp only [List.length_drop, List.length_take]; rfl)) ?_; (with_reducible refine (rushlightlaw05_awake.calls kj4  false _ A13.out).mono ?_); rintro e w19 ⟨rfl, hb⟩; refine ⟨_, rfl, ?_⟩; have n0_ := Aside0.mk (Kd.R_below (by (with_reducible repeat (first | apply Kd.R_alloc | apply Kd.R_drewN | apply Kd.R_drew)); exact HO_5.out) hb); have n1_ := Aside0.mk (below_step (by repeat (first | (with_reducible first | exact HB.out | apply below_alloc | apply pw_below_drewN | apply below_drew1) | exact HB.out)) hb); clear HO_5; clear HB; have HO_5 := n0_; have HB := n1_; clear n0_ n1_; (try clear hb); (try clear hb2); (try clear hk); (try clear hi)))
          go_ret
          exact ⟨by first | rfl | (simp [errW_none, errW_some] <;> rfl) | (simp [*, errW_none, errW_some] <;> rfl), by repeat (first | (with_reducible first | exact HB.out | apply below_alloc | apply pw_below_drewN | apply below_drew1) | exact HB.out)⟩
      · replace c12 := Bool.eq_false_iff.mpr c12
        subst c12
        have H1 : (if t493 = 0 then (if (t491.length : Int) < 1 then (rushlightlaw05_AsmNumbers.j1 kj4 a0 a1 t491 true) else (rushlightlaw05_AsmNumbers.j1 kj4 a0 a1 t491 (decide ((t491.length : Int) > 2)))) else (rushlightlaw05_AsmNumbers.j1 kj4 a0 a1 t491 true)) = some r := by rw [if_neg (show ¬ (false = true) by decide)] at H; exact H
        clear H
        have H := H1
        clear H1
        have HC20 := Aside0.mk H
        clear H
        go_upto_region 4 with (fail)
        go_cut [48] (fun v48 wc => ∃ (kq : Nat) (x48_19 : Bool), v48 = .bool x48_19 ∧ Aside0 (rushlightlaw05_AsmNumbers.j1 kq a0 a1 t491 x48_19 = some r) ∧ Aside0 (kq ≤ kj4) ∧ Aside0 (Kd.R (Kd.int .u32) 35 wc w.heap.size (fun _ => True) v494 t491) ∧ Aside0 (Below w.heap.size w wc))
        case first =>
          have H := HC20.out
          clear HC20
          by_cases c21 : t493 = 0
          · rw [if_pos c21] at H
            have c21b0 : (t493 == 0) = true := beq_iff_eq.mpr c21
            have c21b1 : (t493 != 0) = false := bne_eq_false_iff_eq.mpr c21
            clear c21
            (first | rw [c21b0] | (simp only [i64_w, i32_w]; rw [c21b0]) | skip)
            by_cases c22 : (t491.length : Int) < 1
            · rw [if_pos c22] at H
              have c22b0 : decide ((t491.length : Int) < 1) = true := decide_eq_true c22
              have c22b1 : decide (t491.length < 1) = true := decide_eq_true (by omega)
              clear c22
              have H' := Aside0.mk H
              clear H
              obtain ⟨Ao23, co23, eo23⟩ := Kd.R_slice HO_5.out
              subst eo23
              go_wp2
              go_meet
              case rel => exact ⟨_, (true), (by first | rfl | (simp; done) | (simp [*]; done)), H', ⟨by have := HJ4.out; first | omega | exact Nat.le_refl _⟩, ⟨by (with_reducible repeat (first | apply Kd.R_alloc | apply Kd.R_drewN | apply Kd.R_drew)); exact HO_5.out⟩, ⟨by repeat (first | (with_reducible first | exact HB.out | apply below_alloc | apply pw_below_drewN | apply below_drew1) | exact HB.out)⟩⟩
            · rw [if_neg c22] at H
              have c22b0 : decide ((t491.length : Int) < 1) = false := decide_eq_false c22
              have c22b1 : decide (t491.length < 1) = false := decide_eq_false (by omega)
              clear c22
              have H' := Aside0.mk H
              clear H
              obtain ⟨Ao24, co24, eo24⟩ := Kd.R_slice HO_5.out
              subst eo24
              go_wp2
              go_meet
              case rel => exact ⟨_, (decide ((t491.length : Int) > 2)), (by first | rfl | (simp; done) | (simp [*]; done)), H', ⟨by have := HJ4.out; first | omega | exact Nat.le_refl _⟩, ⟨by (with_reducible repeat (first | apply Kd.R_alloc | apply Kd.R_drewN | apply Kd.R_drew)); exact HO_5.out⟩, ⟨by repeat (first | (with_reducible first | exact HB.out | apply below_alloc | apply pw_below_drewN | apply below_drew1) | exact HB.out)⟩⟩
          · rw [if_neg c21] at H
            have c21b0 : (t493 == 0) = false := beq_eq_false_iff_ne.mpr c21
            have c21b1 : (t493 != 0) = true := bne_iff_ne.mpr c21
            (first | rw [c21b0] | (simp only [i64_w, i32_w]; rw [c21b0]) | skip)
            have H' := Aside0.mk H
            clear H
            go_wp2
            go_meet
            case rel => exact ⟨_, (true), (by first | rfl | (simp; done) | (simp [*]; done)), H', ⟨by have := HJ4.out; first | omega | exact Nat.le_refl _⟩, ⟨by (with_reducible repeat (first | apply Kd.R_alloc | apply Kd.R_drewN | apply Kd.R_drew)); exact HO_5.out⟩, ⟨by repeat (first | (with_reducible first | exact HB.out | apply below_alloc | apply pw_below_drewN | apply below_drew1) | exact HB.out)⟩⟩
        case rest =>
          clear HC20
          try clear c1
          try clear c2
          try clear p2
          try clear c7
          try clear c8
          try clear c10
          try clear c11
          try clear c11b0
          try clear c12
          try clear c14
          try clear c15
          try clear c15b0
          try clear c15b1
          try clear c18
          try clear c21
          try clear c21b0
          try clear c21b1
          try clear c22
          try clear c22b0
          try clear c22b1
          try clear p2
          obtain ⟨kq, x48_19, rfl, HA, HJ19, HO_5, HB⟩ := hcut
          cases kq with
          | zero => exact absurd HA.out (by simp [rushlightlaw05_AsmNumbers.j1])
          | succ kj19 =>
            have H := HA.out
            clear HA
            simp only [rushlightlaw05_AsmNumbers.j1] at H
            by_cases c25 : x48_19 = true
            · subst c25
              have H1 : (some false) = some r := by rw [if_pos rfl] at H; exact H
              clear H
              have H := H1
              clear H1
              obtain rfl := Option.some.inj H
              go_wp2
              go_ret
              exact ⟨by first | rfl | (simp [errW_none, errW_some] <;> rfl) | (simp [*, errW_none, errW_some] <;> rfl), by repeat (first | (with_reducible first | exact HB.out | apply below_alloc | apply pw_below_drewN | apply below_drew1) | exact HB.out)⟩
            · replace c25 := Bool.eq_false_iff.mpr c25
              subst c25
              have H1 : (rushlightlaw05_AsmNumbers.l0 kj19 a0 a1 t491 0 0) = some r := by rw [if_neg (show ¬ (false = true) by decide)] at H; exact H
              clear H
              have H := H1
              clear H1
              have H' := Aside0.mk H
              clear H
              go_wp2
              go_loopg [8, 9] kj19 (fun kq v8 v9 w' => ∃ (x8_3 : Int) (x9_3 : Int), v8 = .int .i64 x8_3 ∧ v9 = .int .i64 x9_3 ∧ Aside0 (rushlightlaw05_AsmNumbers.l0 kq a0 a1 t491 x8_3 x9_3 = some r) ∧ Aside0 (kq ≤ kj19) ∧ Aside0 (Kd.R (Kd.int .u32) 35 w' w.heap.size (fun _ => True) v494 t491) ∧ Aside0 (Below w.heap.size w w'))
              case atStart => exact ⟨(0), (0), (by first | rfl | (simp; done) | (simp [*]; done)), (by first | rfl | (simp; done) | (simp [*]; done)), H', ⟨Nat.le_refl _⟩, ⟨by (with_reducible repeat (first | apply Kd.R_alloc | apply Kd.R_drewN | apply Kd.R_drew)); exact HO_5.out⟩, ⟨by repeat (first | (with_reducible first | exact HB.out | apply below_alloc | apply pw_below_drewN | apply below_drew1) | exact HB.out)⟩⟩
              case round =>
                clear H'
                try clear c1
                try clear c2
                try clear p2
                try clear c7
                try clear c8
                try clear c10
                try clear c11
                try clear c11b0
                try clear c12
                try clear c14
                try clear c15
                try clear c15b0
                try clear c15b1
                try clear c18
                try clear c21
                try clear c21b0
                try clear c21b1
                try clear c22
                try clear c22b0
                try clear c22b1
                try clear c25
                try clear p2
                obtain ⟨x8_3, x9_3, rfl, rfl, HA, HK3, HO_5, HB⟩ := hrel
                cases gk with
                | zero => exact absurd HA.out (by simp [rushlightlaw05_AsmNumbers.l0])
                | succ k3 =>
                  have H := HA.out
                  clear HA
                  simp only [rushlightlaw05_AsmNumbers.l0] at H
                  by_cases c26 : x9_3 < (t491.length : Int)
                  · rw [if_pos c26] at H
                    have c26b0 : decide (x9_3 < (t491.length : Int)) = true := decide_eq_true c26
                    clear c26
                    by_cases c27 : 0 ≤ x9_3
                    · rw [if_pos c27] at H
                      have c27b0 : decide (0 ≤ x9_3) = true := decide_eq_true c27
                      clear c27
                      replace H := Option.bind_eq_some_iff.mp H
                      obtain ⟨⟨t500, t501, t502, t503, t504, t505⟩, A280, H⟩ := H
                      replace H : (if t505 = 0 then (if t501 = a0 then (if t500 = 1 then (rushlightlaw05_AsmNumbers.l0 k3 a0 a1 t491 (wrap64 (x8_3 + t504)) (wrap64 (x9_3 + 1))) else (if t500 = 19 then (if t502 = 0 then (rushlightlaw05_AsmNumbers.l0 k3 a0 a1 t491 (wrap64 (x8_3 + t504)) (wrap64 (x9_3 + 1))) else (if x9_3 = 0 then (some false) else (if t502 = a0 then (rushlightlaw05_AsmNumbers.l0 k3 a0 a1 t491 (wrap64 (x8_3 + t504)) (wrap64 (x9_3 + 1))) else (some false)))) else (some false))) else (some false)) else (some false)) = some r := H
                      have A28 := Aside0.mk A280
                      clear A280
                      by_cases c29 : t505 = 0
                      · rw [if_pos c29] at H
                        have c29b0 : (t505 == 0) = true := beq_iff_eq.mpr c29
                        have c29b1 : (t505 != 0) = false := bne_eq_false_iff_eq.mpr c29
                        clear c29
                        by_cases c30 : t501 = a0
                        · rw [if_pos c30] at H
                          have c30b0 : (t501 == a0) = true := beq_iff_eq.mpr c30
                          have c30b1 : (t501 != a0) = false := bne_eq_false_iff_eq.mpr c30
                          clear c30
                          by_cases c31 : t500 = 1
                          · rw [if_pos c31] at H
                            have c31b0 : (t500 == 1) = true := beq_iff_eq.mpr c31
                            have c31b1 : (t500 != 1) = false := bne_eq_false_iff_eq.mpr c31
                            clear c31
                            have H' := Aside0.mk H
                            clear H
                            obtain ⟨Ao32, co32, eo32⟩ := Kd.R_slice HO_5.out
                            subst eo32
                            have p499 : 0 ≤ (x9_3 : Int) := of_decide_eq_true (by first | (with_reducible assumption) | assumption)
                            have q499 : x9_3 < (t491.length : Int) := of_decide_eq_true (by first | (with_reducible assumption) | assumption)
                            obtain ⟨ad499, e499, hx499_0⟩ := Kd.at_int (Kd.R_reads' HO_5.out).2.2 x9_3 p499 q499
                            cases e499
                            replace p499 := eq_true p499
                            replace q499 := eq_true q499
                            go_wp2_with (first | ((with_reducible refine gate_callee (f := 22) rfl ?_); refine goesL_ (some 60) rfl rfl Try.func22 (by kernel_rfl) rfl #[.int .u32 (rd t491 x9_3)] rfl (by (try simp only [List.map_toArray, List.map_cons, List.map_nil]); first | done | rfl | (simp only [List.length_drop, List.length_take]; rfl)) ?_; (with_reducible refine (inst_Decode.calls k3 (rd t491 x9_3) t500 t501 t502 t503 t504 t505 _ A28.out).mono ?_); rintro e w33 ⟨rfl, hb⟩; refine ⟨_, rfl, ?_⟩; have n0_ := Aside0.mk (Kd.R_below (by (with_reducible repeat (first | apply Kd.R_alloc | apply Kd.R_drewN | apply Kd.R_drew)); exact HO_5.out) hb); have n1_ := Aside0.mk (below_step (by repeat (first | (with_reducible first | exact HB.out | apply below_alloc | apply pw_below_drewN | apply below_drew1) | exact HB.out)) hb); clear HO_5; clear HB; have HO_5 := n0_; have HB := n1_; clear n0_ n1_; (try clear hb); (try clear hb2); (try clear hk); (try clear hi)) | ((with_reducible refine gate_dst (N := 10) rfl ?_); (try (refine gate_guard (by rfl) ?_; dsimp only)); refine box_event ?hg (N := 10) ?hd (cs := #[.int .i64 0, .int .i64 0, .int .i64 0, .int .i64 0, .int .i64 0]) (t := 39) ?hr ?_; (case hd => rfl); (case hg => rfl); (case hr => first | (go_simp; done) | (go_simp; rfl)); intro gb506 hg w34 hbox hb; have n0_ := Aside0.mk (Kd.R_below (by (with_reducible repeat (first | apply Kd.R_alloc | apply Kd.R_drewN | apply Kd.R_drew)); exact HO_5.out) hb); have n1_ := Aside0.mk (below_step (by repeat (first | (with_reducible first | exact HB.out | apply below_alloc | apply pw_below_drewN | apply below_drew1) | exact HB.out)) hb); have n2_ := Aside0.mk (hbox); have n3_ := Aside0.mk ((by rw [hg]; exact (below_size (by repeat (first | (with_reducible first | exact HB.out | apply below_alloc | apply pw_below_drewN | apply below_drew1) | exact HB.out))) : w.heap.size ≤ gb506)); have n4_ := Aside0.mk ((by rw [hg]; exact (below_size (by repeat (first | (with_reducible first | exact HB.out | apply below_alloc | apply pw_below_drewN | apply below_drew1) | exact HB.out))) : w.heap.size ≤ gb506)); clear HO_5; clear HB; have HO_5 := n0_; have HB := n1_; have BK506 := n2_; have GW506 := n3_; have GE506 := n4_; clear n0_ n1_ n2_ n3_ n4_; clear hb hbox hg; have hcz35_0 : w34.cell? ⟨gb506, 0, none⟩ = some (.int .i64 0) := (blk_cell BK506.out 0).trans rfl; have hcz35_1 : w34.cell? ⟨gb506, 1, none⟩ = some (.int .i64 0) := (blk_cell BK506.out 1).trans rfl; have hcz35_2 : w34.cell? ⟨gb506, 2, none⟩ = some (.int .i64 0) := (blk_cell BK506.out 2).trans rfl; have hcz35_3 : w34.cell? ⟨gb506, 3, none⟩ = some (.int .i64 0) := (blk_cell BK506.out 3).trans rfl; have hcz35_4 : w34.cell? ⟨gb506, 4, none⟩ = some (.int .i64 0) := (blk_cell BK506.out 4).trans rfl; have hfz35_0 := blk_frozen BK506.out 0; have hfz35_1 := blk_frozen BK506.out 1; have hfz35_2 := blk_frozen BK506.out 2; have hfz35_3 := blk_frozen BK506.out 3; have hfz35_4 := blk_frozen BK506.out 4))
                            go_roundg k3
                            case measure => have := HJ4.out; have := HJ19.out; have := HK3.out; omega
                            case rel => exact ⟨(wrap64 (x8_3 + t504)), (wrap64 (x9_3 + 1)), (by first | rfl | (simp; done) | (simp [*]; done)), (by first | rfl | (simp; done) | (simp [*]; done)), H', ⟨by have := HJ4.out; have := HJ19.out; have := HK3.out; omega⟩, ⟨by (with_reducible repeat (first | apply Kd.R_alloc | apply Kd.R_drewN | apply Kd.R_drew)); exact Kd.R_mono (Kd.R_far (p := ⟨gb506, 4, none⟩) (Kd.R_far (p := ⟨gb506, 3, none⟩) (Kd.R_far (p := ⟨gb506, 2, none⟩) (Kd.R_far (p := ⟨gb506, 1, none⟩) (Kd.R_far (p := ⟨gb506, 0, none⟩) (Kd.R_types HO_5.out BK506.out (by decide)) (fun _ hk => hk.2) (.int .i64 t500)) (fun _ hk => hk.2) (.int .i64 t501)) (fun _ hk => hk.2) (.int .i64 t502)) (fun _ hk => hk.2) (.int .i64 t503)) (fun _ hk => hk.2) (.int .i64 t504)) (fun _ hk => trivial)⟩, ⟨by repeat (first | (with_reducible first | exact HB.out | apply below_alloc | apply pw_below_drewN | apply below_drew1 | refine below_set ?_ GE506.out) | exact HB.out)⟩⟩
                          · rw [if_neg c31] at H
                            have c31b0 : (t500 == 1) = false := beq_eq_false_iff_ne.mpr c31
                            have c31b1 : (t500 != 1) = true := bne_iff_ne.mpr c31
                            by_cases c36 : t500 = 19
                            · rw [if_pos c36] at H
                              have c36b0 : (t500 == 19) = true := beq_iff_eq.mpr c36
                              have c36b1 : (t500 != 19) = false := bne_eq_false_iff_eq.mpr c36
                              clear c36
                              by_cases c37 : t502 = 0
                              · rw [if_pos c37] at H
                                have c37b0 : (t502 == 0) = true := beq_iff_eq.mpr c37
                                have c37b1 : (t502 != 0) = false := bne_eq_false_iff_eq.mpr c37
                                clear c37
                                have H' := Aside0.mk H
                                clear H
                                obtain ⟨Ao38, co38, eo38⟩ := Kd.R_slice HO_5.out
                                subst eo38
                                have p499 : 0 ≤ (x9_3 : Int) := of_decide_eq_true (by first | (with_reducible assumption) | assumption)
                                have q499 : x9_3 < (t491.length : Int) := of_decide_eq_true (by first | (with_reducible assumption) | assumption)
                                obtain ⟨ad499, e499, hx499_0⟩ := Kd.at_int (Kd.R_reads' HO_5.out).2.2 x9_3 p499 q499
                                cases e499
                                replace p499 := eq_true p499
                                replace q499 := eq_true q499
                                go_wp2_with (first | ((with_reducible refine gate_callee (f := 22) rfl ?_); refine goesL_ (some 60) rfl rfl Try.func22 (by kernel_rfl) rfl #[.int .u32 (rd t491 x9_3)] rfl (by (try simp only [List.map_toArray, List.map_cons, List.map_nil]); first | done | rfl | (simp only [List.length_drop, List.length_take]; rfl)) ?_; (with_reducible refine (inst_Decode.calls k3 (rd t491 x9_3) t500 t501 t502 t503 t504 t505 _ A28.out).mono ?_); rintro e w39 ⟨rfl, hb⟩; refine ⟨_, rfl, ?_⟩; have n0_ := Aside0.mk (Kd.R_below (by (with_reducible repeat (first | apply Kd.R_alloc | apply Kd.R_drewN | apply Kd.R_drew)); exact HO_5.out) hb); have n1_ := Aside0.mk (below_step (by repeat (first | (with_reducible first | exact HB.out | apply below_alloc | apply pw_below_drewN | apply below_drew1) | exact HB.out)) hb); clear HO_5; clear HB; have HO_5 := n0_; have HB := n1_; clear n0_ n1_; (try clear hb); (try clear hb2); (try clear hk); (try clear hi)) | ((with_reducible refine gate_dst (N := 10) rfl ?_); (try (refine gate_guard (by rfl) ?_; dsimp only)); refine box_event ?hg (N := 10) ?hd (cs := #[.int .i64 0, .int .i64 0, .int .i64 0, .int .i64 0, .int .i64 0]) (t := 39) ?hr ?_; (case hd => rfl); (case hg => rfl); (case hr => first | (go_simp; done) | (go_simp; rfl)); intro gb506 hg w40 hbox hb; have n0_ := Aside0.mk (Kd.R_below (by (with_reducible repeat (first | apply Kd.R_alloc | apply Kd.R_drewN | apply Kd.R_drew)); exact HO_5.out) hb); have n1_ := Aside0.mk (below_step (by repeat (first | (with_reducible first | exact HB.out | apply below_alloc | apply pw_below_drewN | apply below_drew1) | exact HB.out)) hb); have n2_ := Aside0.mk (hbox); have n3_ := Aside0.mk ((by rw [hg]; exact (below_size (by repeat (first | (with_reducible first | exact HB.out | apply below_alloc | apply pw_below_drewN | apply below_drew1) | exact HB.out))) : w.heap.size ≤ gb506)); have n4_ := Aside0.mk ((by rw [hg]; exact (below_size (by repeat (first | (with_reducible first | exact HB.out | apply below_alloc | apply pw_below_drewN | apply below_drew1) | exact HB.out))) : w.heap.size ≤ gb506)); clear HO_5; clear HB; have HO_5 := n0_; have HB := n1_; have BK506 := n2_; have GW506 := n3_; have GE506 := n4_; clear n0_ n1_ n2_ n3_ n4_; clear hb hbox hg; have hcz41_0 : w40.cell? ⟨gb506, 0, none⟩ = some (.int .i64 0) := (blk_cell BK506.out 0).trans rfl; have hcz41_1 : w40.cell? ⟨gb506, 1, none⟩ = some (.int .i64 0) := (blk_cell BK506.out 1).trans rfl; have hcz41_2 : w40.cell? ⟨gb506, 2, none⟩ = some (.int .i64 0) := (blk_cell BK506.out 2).trans rfl; have hcz41_3 : w40.cell? ⟨gb506, 3, none⟩ = some (.int .i64 0) := (blk_cell BK506.out 3).trans rfl; have hcz41_4 : w40.cell? ⟨gb506, 4, none⟩ = some (.int .i64 0) := (blk_cell BK506.out 4).trans rfl; have hfz41_0 := blk_frozen BK506.out 0; have hfz41_1 := blk_frozen BK506.out 1; have hfz41_2 := blk_frozen BK506.out 2; have hfz41_3 := blk_frozen BK506.out 3; have hfz41_4 := blk_frozen BK506.out 4))
                                go_roundg k3
                                case measure => have := HJ4.out; have := HJ19.out; have := HK3.out; omega
                                case rel => exact ⟨(wrap64 (x8_3 + t504)), (wrap64 (x9_3 + 1)), (by first | rfl | (simp; done) | (simp [*]; done)), (by first | rfl | (simp; done) | (simp [*]; done)), H', ⟨by have := HJ4.out; have := HJ19.out; have := HK3.out; omega⟩, ⟨by (with_reducible repeat (first | apply Kd.R_alloc | apply Kd.R_drewN | apply Kd.R_drew)); exact Kd.R_mono (Kd.R_far (p := ⟨gb506, 4, none⟩) (Kd.R_far (p := ⟨gb506, 3, none⟩) (Kd.R_far (p := ⟨gb506, 2, none⟩) (Kd.R_far (p := ⟨gb506, 1, none⟩) (Kd.R_far (p := ⟨gb506, 0, none⟩) (Kd.R_types HO_5.out BK506.out (by decide)) (fun _ hk => hk.2) (.int .i64 t500)) (fun _ hk => hk.2) (.int .i64 t501)) (fun _ hk => hk.2) (.int .i64 t502)) (fun _ hk => hk.2) (.int .i64 t503)) (fun _ hk => hk.2) (.int .i64 t504)) (fun _ hk => trivial)⟩, ⟨by repeat (first | (with_reducible first | exact HB.out | apply below_alloc | apply pw_below_drewN | apply below_drew1 | refine below_set ?_ GE506.out) | exact HB.out)⟩⟩
                              · rw [if_neg c37] at H
                                have c37b0 : (t502 == 0) = false := beq_eq_false_iff_ne.mpr c37
                                have c37b1 : (t502 != 0) = true := bne_iff_ne.mpr c37
                                by_cases c42 : x9_3 = 0
                                · rw [if_pos c42] at H
                                  have c42b0 : (x9_3 == 0) = true := beq_iff_eq.mpr c42
                                  have c42b1 : (x9_3 != 0) = false := bne_eq_false_iff_eq.mpr c42
                                  clear c42
                                  obtain rfl := Option.some.inj H
                                  obtain ⟨Ao43, co43, eo43⟩ := Kd.R_slice HO_5.out
                                  subst eo43
                                  have p499 : 0 ≤ (x9_3 : Int) := of_decide_eq_true (by first | (with_reducible assumption) | assumption)
                                  have q499 : x9_3 < (t491.length : Int) := of_decide_eq_true (by first | (with_reducible assumption) | assumption)
                                  obtain ⟨ad499, e499, hx499_0⟩ := Kd.at_int (Kd.R_reads' HO_5.out).2.2 x9_3 p499 q499
                                  cases e499
                                  replace p499 := eq_true p499
                                  replace q499 := eq_true q499
                                  go_wp2_with (first | ((with_reducible refine gate_callee (f := 22) rfl ?_); refine goesL_ (some 60) rfl rfl Try.func22 (by kernel_rfl) rfl #[.int .u32 (rd t491 x9_3)] rfl (by (try simp only [List.map_toArray, List.map_cons, List.map_nil]); first | done | rfl | (simp only [List.length_drop, List.length_take]; rfl)) ?_; (with_reducible refine (inst_Decode.calls k3 (rd t491 x9_3) t500 t501 t502 t503 t504 t505 _ A28.out).mono ?_); rintro e w44 ⟨rfl, hb⟩; refine ⟨_, rfl, ?_⟩; have n0_ := Aside0.mk (Kd.R_below (by (with_reducible repeat (first | apply Kd.R_alloc | apply Kd.R_drewN | apply Kd.R_drew)); exact HO_5.out) hb); have n1_ := Aside0.mk (below_step (by repeat (first | (with_reducible first | exact HB.out | apply below_alloc | apply pw_below_drewN | apply below_drew1) | exact HB.out)) hb); clear HO_5; clear HB; have HO_5 := n0_; have HB := n1_; clear n0_ n1_; (try clear hb); (try clear hb2); (try clear hk); (try clear hi)) | ((with_reducible refine gate_dst (N := 10) rfl ?_); (try (refine gate_guard (by rfl) ?_; dsimp only)); refine box_event ?hg (N := 10) ?hd (cs := #[.int .i64 0, .int .i64 0, .int .i64 0, .int .i64 0, .int .i64 0]) (t := 39) ?hr ?_; (case hd => rfl); (case hg => rfl); (case hr => first | (go_simp; done) | (go_simp; rfl)); intro gb506 hg w45 hbox hb; have n0_ := Aside0.mk (Kd.R_below (by (with_reducible repeat (first | apply Kd.R_alloc | apply Kd.R_drewN | apply Kd.R_drew)); exact HO_5.out) hb); have n1_ := Aside0.mk (below_step (by repeat (first | (with_reducible first | exact HB.out | apply below_alloc | apply pw_below_drewN | apply below_drew1) | exact HB.out)) hb); have n2_ := Aside0.mk (hbox); have n3_ := Aside0.mk ((by rw [hg]; exact (below_size (by repeat (first | (with_reducible first | exact HB.out | apply below_alloc | apply pw_below_drewN | apply below_drew1) | exact HB.out))) : w.heap.size ≤ gb506)); have n4_ := Aside0.mk ((by rw [hg]; exact (below_size (by repeat (first | (with_reducible first | exact HB.out | apply below_alloc | apply pw_below_drewN | apply below_drew1) | exact HB.out))) : w.heap.size ≤ gb506)); clear HO_5; clear HB; have HO_5 := n0_; have HB := n1_; have BK506 := n2_; have GW506 := n3_; have GE506 := n4_; clear n0_ n1_ n2_ n3_ n4_; clear hb hbox hg; have hcz46_0 : w45.cell? ⟨gb506, 0, none⟩ = some (.int .i64 0) := (blk_cell BK506.out 0).trans rfl; have hcz46_1 : w45.cell? ⟨gb506, 1, none⟩ = some (.int .i64 0) := (blk_cell BK506.out 1).trans rfl; have hcz46_2 : w45.cell? ⟨gb506, 2, none⟩ = some (.int .i64 0) := (blk_cell BK506.out 2).trans rfl; have hcz46_3 : w45.cell? ⟨gb506, 3, none⟩ = some (.int .i64 0) := (blk_cell BK506.out 3).trans rfl; have hcz46_4 : w45.cell? ⟨gb506, 4, none⟩ = some (.int .i64 0) := (blk_cell BK506.out 4).trans rfl; have hfz46_0 := blk_frozen BK506.out 0; have hfz46_1 := blk_frozen BK506.out 1; have hfz46_2 := blk_frozen BK506.out 2; have hfz46_3 := blk_frozen BK506.out 3; have hfz46_4 := blk_frozen BK506.out 4))
                                  go_ret
                                  exact ⟨by first | rfl | (simp [errW_none, errW_some] <;> rfl) | (simp [*, errW_none, errW_some] <;> rfl), by repeat (first | (with_reducible first | exact HB.out | apply below_alloc | apply pw_below_drewN | apply below_drew1 | refine below_set ?_ GE506.out) | exact HB.out)⟩
                                · rw [if_neg c42] at H
                                  have c42b0 : (x9_3 == 0) = false := beq_eq_false_iff_ne.mpr c42
                                  have c42b1 : (x9_3 != 0) = true := bne_iff_ne.mpr c42
                                  by_cases c47 : t502 = a0
                                  · rw [if_pos c47] at H
                                    have c47b0 : (t502 == a0) = true := beq_iff_eq.mpr c47
                                    have c47b1 : (t502 != a0) = false := bne_eq_false_iff_eq.mpr c47
                                    clear c47
                                    have H' := Aside0.mk H
                                    clear H
                                    obtain ⟨Ao48, co48, eo48⟩ := Kd.R_slice HO_5.out
                                    subst eo48
                                    have p499 : 0 ≤ (x9_3 : Int) := of_decide_eq_true (by first | (with_reducible assumption) | assumption)
                                    have q499 : x9_3 < (t491.length : Int) := of_decide_eq_true (by first | (with_reducible assumption) | assumption)
                                    obtain ⟨ad499, e499, hx499_0⟩ := Kd.at_int (Kd.R_reads' HO_5.out).2.2 x9_3 p499 q499
                                    cases e499
                                    replace p499 := eq_true p499
                                    replace q499 := eq_true q499
                                    go_wp2_with (first | ((with_reducible refine gate_callee (f := 22) rfl ?_); refine goesL_ (some 60) rfl rfl Try.func22 (by kernel_rfl) rfl #[.int .u32 (rd t491 x9_3)] rfl (by (try simp only [List.map_toArray, List.map_cons, List.map_nil]); first | done | rfl | (simp only [List.length_drop, List.length_take]; rfl)) ?_; (with_reducible refine (inst_Decode.calls k3 (rd t491 x9_3) t500 t501 t502 t503 t504 t505 _ A28.out).mono ?_); rintro e w49 ⟨rfl, hb⟩; refine ⟨_, rfl, ?_⟩; have n0_ := Aside0.mk (Kd.R_below (by (with_reducible repeat (first | apply Kd.R_alloc | apply Kd.R_drewN | apply Kd.R_drew)); exact HO_5.out) hb); have n1_ := Aside0.mk (below_step (by repeat (first | (with_reducible first | exact HB.out | apply below_alloc | apply pw_below_drewN | apply below_drew1) | exact HB.out)) hb); clear HO_5; clear HB; have HO_5 := n0_; have HB := n1_; clear n0_ n1_; (try clear hb); (try clear hb2); (try clear hk); (try clear hi)) | ((with_reducible refine gate_dst (N := 10) rfl ?_); (try (refine gate_guard (by rfl) ?_; dsimp only)); refine box_event ?hg (N := 10) ?hd (cs := #[.int .i64 0, .int .i64 0, .int .i64 0, .int .i64 0, .int .i64 0]) (t := 39) ?hr ?_; (case hd => rfl); (case hg => rfl); (case hr => first | (go_simp; done) | (go_simp; rfl)); intro gb506 hg w50 hbox hb; have n0_ := Aside0.mk (Kd.R_below (by (with_reducible repeat (first | apply Kd.R_alloc | apply Kd.R_drewN | apply Kd.R_drew)); exact HO_5.out) hb); have n1_ := Aside0.mk (below_step (by repeat (first | (with_reducible first | exact HB.out | apply below_alloc | apply pw_below_drewN | apply below_drew1) | exact HB.out)) hb); have n2_ := Aside0.mk (hbox); have n3_ := Aside0.mk ((by rw [hg]; exact (below_size (by repeat (first | (with_reducible first | exact HB.out | apply below_alloc | apply pw_below_drewN | apply below_drew1) | exact HB.out))) : w.heap.size ≤ gb506)); have n4_ := Aside0.mk ((by rw [hg]; exact (below_size (by repeat (first | (with_reducible first | exact HB.out | apply below_alloc | apply pw_below_drewN | apply below_drew1) | exact HB.out))) : w.heap.size ≤ gb506)); clear HO_5; clear HB; have HO_5 := n0_; have HB := n1_; have BK506 := n2_; have GW506 := n3_; have GE506 := n4_; clear n0_ n1_ n2_ n3_ n4_; clear hb hbox hg; have hcz51_0 : w50.cell? ⟨gb506, 0, none⟩ = some (.int .i64 0) := (blk_cell BK506.out 0).trans rfl; have hcz51_1 : w50.cell? ⟨gb506, 1, none⟩ = some (.int .i64 0) := (blk_cell BK506.out 1).trans rfl; have hcz51_2 : w50.cell? ⟨gb506, 2, none⟩ = some (.int .i64 0) := (blk_cell BK506.out 2).trans rfl; have hcz51_3 : w50.cell? ⟨gb506, 3, none⟩ = some (.int .i64 0) := (blk_cell BK506.out 3).trans rfl; have hcz51_4 : w50.cell? ⟨gb506, 4, none⟩ = some (.int .i64 0) := (blk_cell BK506.out 4).trans rfl; have hfz51_0 := blk_frozen BK506.out 0; have hfz51_1 := blk_frozen BK506.out 1; have hfz51_2 := blk_frozen BK506.out 2; have hfz51_3 := blk_frozen BK506.out 3; have hfz51_4 := blk_frozen BK506.out 4))
                                    go_roundg k3
                                    case measure => have := HJ4.out; have := HJ19.out; have := HK3.out; omega
                                    case rel => exact ⟨(wrap64 (x8_3 + t504)), (wrap64 (x9_3 + 1)), (by first | rfl | (simp; done) | (simp [*]; done)), (by first | rfl | (simp; done) | (simp [*]; done)), H', ⟨by have := HJ4.out; have := HJ19.out; have := HK3.out; omega⟩, ⟨by (with_reducible repeat (first | apply Kd.R_alloc | apply Kd.R_drewN | apply Kd.R_drew)); exact Kd.R_mono (Kd.R_far (p := ⟨gb506, 4, none⟩) (Kd.R_far (p := ⟨gb506, 3, none⟩) (Kd.R_far (p := ⟨gb506, 2, none⟩) (Kd.R_far (p := ⟨gb506, 1, none⟩) (Kd.R_far (p := ⟨gb506, 0, none⟩) (Kd.R_types HO_5.out BK506.out (by decide)) (fun _ hk => hk.2) (.int .i64 t500)) (fun _ hk => hk.2) (.int .i64 t501)) (fun _ hk => hk.2) (.int .i64 t502)) (fun _ hk => hk.2) (.int .i64 t503)) (fun _ hk => hk.2) (.int .i64 t504)) (fun _ hk => trivial)⟩, ⟨by repeat (first | (with_reducible first | exact HB.out | apply below_alloc | apply pw_below_drewN | apply below_drew1 | refine below_set ?_ GE506.out) | exact HB.out)⟩⟩
                                  · rw [if_neg c47] at H
                                    have c47b0 : (t502 == a0) = false := beq_eq_false_iff_ne.mpr c47
                                    have c47b1 : (t502 != a0) = true := bne_iff_ne.mpr c47
                                    obtain rfl := Option.some.inj H
                                    obtain ⟨Ao52, co52, eo52⟩ := Kd.R_slice HO_5.out
                                    subst eo52
                                    have p499 : 0 ≤ (x9_3 : Int) := of_decide_eq_true (by first | (with_reducible assumption) | assumption)
                                    have q499 : x9_3 < (t491.length : Int) := of_decide_eq_true (by first | (with_reducible assumption) | assumption)
                                    obtain ⟨ad499, e499, hx499_0⟩ := Kd.at_int (Kd.R_reads' HO_5.out).2.2 x9_3 p499 q499
                                    cases e499
                                    replace p499 := eq_true p499
                                    replace q499 := eq_true q499
                                    go_wp2_with (first | ((with_reducible refine gate_callee (f := 22) rfl ?_); refine goesL_ (some 60) rfl rfl Try.func22 (by kernel_rfl) rfl #[.int .u32 (rd t491 x9_3)] rfl (by (try simp only [List.map_toArray, List.map_cons, List.map_nil]); first | done | rfl | (simp only [List.length_drop, List.length_take]; rfl)) ?_; (with_reducible refine (inst_Decode.calls k3 (rd t491 x9_3) t500 t501 t502 t503 t504 t505 _ A28.out).mono ?_); rintro e w53 ⟨rfl, hb⟩; refine ⟨_, rfl, ?_⟩; have n0_ := Aside0.mk (Kd.R_below (by (with_reducible repeat (first | apply Kd.R_alloc | apply Kd.R_drewN | apply Kd.R_drew)); exact HO_5.out) hb); have n1_ := Aside0.mk (below_step (by repeat (first | (with_reducible first | exact HB.out | apply below_alloc | apply pw_below_drewN | apply below_drew1) | exact HB.out)) hb); clear HO_5; clear HB; have HO_5 := n0_; have HB := n1_; clear n0_ n1_; (try clear hb); (try clear hb2); (try clear hk); (try clear hi)) | ((with_reducible refine gate_dst (N := 10) rfl ?_); (try (refine gate_guard (by rfl) ?_; dsimp only)); refine box_event ?hg (N := 10) ?hd (cs := #[.int .i64 0, .int .i64 0, .int .i64 0, .int .i64 0, .int .i64 0]) (t := 39) ?hr ?_; (case hd => rfl); (case hg => rfl); (case hr => first | (go_simp; done) | (go_simp; rfl)); intro gb506 hg w54 hbox hb; have n0_ := Aside0.mk (Kd.R_below (by (with_reducible repeat (first | apply Kd.R_alloc | apply Kd.R_drewN | apply Kd.R_drew)); exact HO_5.out) hb); have n1_ := Aside0.mk (below_step (by repeat (first | (with_reducible first | exact HB.out | apply below_alloc | apply pw_below_drewN | apply below_drew1) | exact HB.out)) hb); have n2_ := Aside0.mk (hbox); have n3_ := Aside0.mk ((by rw [hg]; exact (below_size (by repeat (first | (with_reducible first | exact HB.out | apply below_alloc | apply pw_below_drewN | apply below_drew1) | exact HB.out))) : w.heap.size ≤ gb506)); have n4_ := Aside0.mk ((by rw [hg]; exact (below_size (by repeat (first | (with_reducible first | exact HB.out | apply below_alloc | apply pw_below_drewN | apply below_drew1) | exact HB.out))) : w.heap.size ≤ gb506)); clear HO_5; clear HB; have HO_5 := n0_; have HB := n1_; have BK506 := n2_; have GW506 := n3_; have GE506 := n4_; clear n0_ n1_ n2_ n3_ n4_; clear hb hbox hg; have hcz55_0 : w54.cell? ⟨gb506, 0, none⟩ = some (.int .i64 0) := (blk_cell BK506.out 0).trans rfl; have hcz55_1 : w54.cell? ⟨gb506, 1, none⟩ = some (.int .i64 0) := (blk_cell BK506.out 1).trans rfl; have hcz55_2 : w54.cell? ⟨gb506, 2, none⟩ = some (.int .i64 0) := (blk_cell BK506.out 2).trans rfl; have hcz55_3 : w54.cell? ⟨gb506, 3, none⟩ = some (.int .i64 0) := (blk_cell BK506.out 3).trans rfl; have hcz55_4 : w54.cell? ⟨gb506, 4, none⟩ = some (.int .i64 0) := (blk_cell BK506.out 4).trans rfl; have hfz55_0 := blk_frozen BK506.out 0; have hfz55_1 := blk_frozen BK506.out 1; have hfz55_2 := blk_frozen BK506.out 2; have hfz55_3 := blk_frozen BK506.out 3; have hfz55_4 := blk_frozen BK506.out 4))
                                    go_ret
                                    exact ⟨by first | rfl | (simp [errW_none, errW_some] <;> rfl) | (simp [*, errW_none, errW_some] <;> rfl), by repeat (first | (with_reducible first | exact HB.out | apply below_alloc | apply pw_below_drewN | apply below_drew1 | refine below_set ?_ GE506.out) | exact HB.out)⟩
                            · rw [if_neg c36] at H
                              have c36b0 : (t500 == 19) = false := beq_eq_false_iff_ne.mpr c36
                              have c36b1 : (t500 != 19) = true := bne_iff_ne.mpr c36
                              obtain rfl := Option.some.inj H
                              obtain ⟨Ao56, co56, eo56⟩ := Kd.R_slice HO_5.out
                              subst eo56
                              have p499 : 0 ≤ (x9_3 : Int) := of_decide_eq_true (by first | (with_reducible assumption) | assumption)
                              have q499 : x9_3 < (t491.length : Int) := of_decide_eq_true (by first | (with_reducible assumption) | assumption)
                              obtain ⟨ad499, e499, hx499_0⟩ := Kd.at_int (Kd.R_reads' HO_5.out).2.2 x9_3 p499 q499
                              cases e499
                              replace p499 := eq_true p499
                              replace q499 := eq_true q499
                              go_wp2_with (first | ((with_reducible refine gate_callee (f := 22) rfl ?_); refine goesL_ (some 60) rfl rfl Try.func22 (by kernel_rfl) rfl #[.int .u32 (rd t491 x9_3)] rfl (by (try simp only [List.map_toArray, List.map_cons, List.map_nil]); first | done | rfl | (simp only [List.length_drop, List.length_take]; rfl)) ?_; (with_reducible refine (inst_Decode.calls k3 (rd t491 x9_3) t500 t501 t502 t503 t504 t505 _ A28.out).mono ?_); rintro e w57 ⟨rfl, hb⟩; refine ⟨_, rfl, ?_⟩; have n0_ := Aside0.mk (Kd.R_below (by (with_reducible repeat (first | apply Kd.R_alloc | apply Kd.R_drewN | apply Kd.R_drew)); exact HO_5.out) hb); have n1_ := Aside0.mk (below_step (by repeat (first | (with_reducible first | exact HB.out | apply below_alloc | apply pw_below_drewN | apply below_drew1) | exact HB.out)) hb); clear HO_5; clear HB; have HO_5 := n0_; have HB := n1_; clear n0_ n1_; (try clear hb); (try clear hb2); (try clear hk); (try clear hi)) | ((with_reducible refine gate_dst (N := 10) rfl ?_); (try (refine gate_guard (by rfl) ?_; dsimp only)); refine box_event ?hg (N := 10) ?hd (cs := #[.int .i64 0, .int .i64 0, .int .i64 0, .int .i64 0, .int .i64 0]) (t := 39) ?hr ?_; (case hd => rfl); (case hg => rfl); (case hr => first | (go_simp; done) | (go_simp; rfl)); intro gb506 hg w58 hbox hb; have n0_ := Aside0.mk (Kd.R_below (by (with_reducible repeat (first | apply Kd.R_alloc | apply Kd.R_drewN | apply Kd.R_drew)); exact HO_5.out) hb); have n1_ := Aside0.mk (below_step (by repeat (first | (with_reducible first | exact HB.out | apply below_alloc | apply pw_below_drewN | apply below_drew1) | exact HB.out)) hb); have n2_ := Aside0.mk (hbox); have n3_ := Aside0.mk ((by rw [hg]; exact (below_size (by repeat (first | (with_reducible first | exact HB.out | apply below_alloc | apply pw_below_drewN | apply below_drew1) | exact HB.out))) : w.heap.size ≤ gb506)); have n4_ := Aside0.mk ((by rw [hg]; exact (below_size (by repeat (first | (with_reducible first | exact HB.out | apply below_alloc | apply pw_below_drewN | apply below_drew1) | exact HB.out))) : w.heap.size ≤ gb506)); clear HO_5; clear HB; have HO_5 := n0_; have HB := n1_; have BK506 := n2_; have GW506 := n3_; have GE506 := n4_; clear n0_ n1_ n2_ n3_ n4_; clear hb hbox hg; have hcz59_0 : w58.cell? ⟨gb506, 0, none⟩ = some (.int .i64 0) := (blk_cell BK506.out 0).trans rfl; have hcz59_1 : w58.cell? ⟨gb506, 1, none⟩ = some (.int .i64 0) := (blk_cell BK506.out 1).trans rfl; have hcz59_2 : w58.cell? ⟨gb506, 2, none⟩ = some (.int .i64 0) := (blk_cell BK506.out 2).trans rfl; have hcz59_3 : w58.cell? ⟨gb506, 3, none⟩ = some (.int .i64 0) := (blk_cell BK506.out 3).trans rfl; have hcz59_4 : w58.cell? ⟨gb506, 4, none⟩ = some (.int .i64 0) := (blk_cell BK506.out 4).trans rfl; have hfz59_0 := blk_frozen BK506.out 0; have hfz59_1 := blk_frozen BK506.out 1; have hfz59_2 := blk_frozen BK506.out 2; have hfz59_3 := blk_frozen BK506.out 3; have hfz59_4 := blk_frozen BK506.out 4))
                              go_ret
                              exact ⟨by first | rfl | (simp [errW_none, errW_some] <;> rfl) | (simp [*, errW_none, errW_some] <;> rfl), by repeat (first | (with_reducible first | exact HB.out | apply below_alloc | apply pw_below_drewN | apply below_drew1 | refine below_set ?_ GE506.out) | exact HB.out)⟩
                        · rw [if_neg c30] at H
                          have c30b0 : (t501 == a0) = false := beq_eq_false_iff_ne.mpr c30
                          have c30b1 : (t501 != a0) = true := bne_iff_ne.mpr c30
                          obtain rfl := Option.some.inj H
                          obtain ⟨Ao60, co60, eo60⟩ := Kd.R_slice HO_5.out
                          subst eo60
                          have p499 : 0 ≤ (x9_3 : Int) := of_decide_eq_true (by first | (with_reducible assumption) | assumption)
                          have q499 : x9_3 < (t491.length : Int) := of_decide_eq_true (by first | (with_reducible assumption) | assumption)
                          obtain ⟨ad499, e499, hx499_0⟩ := Kd.at_int (Kd.R_reads' HO_5.out).2.2 x9_3 p499 q499
                          cases e499
                          replace p499 := eq_true p499
                          replace q499 := eq_true q499
                          go_wp2_with (first | ((with_reducible refine gate_callee (f := 22) rfl ?_); refine goesL_ (some 60) rfl rfl Try.func22 (by kernel_rfl) rfl #[.int .u32 (rd t491 x9_3)] rfl (by (try simp only [List.map_toArray, List.map_cons, List.map_nil]); first | done | rfl | (simp only [List.length_drop, List.length_take]; rfl)) ?_; (with_reducible refine (inst_Decode.calls k3 (rd t491 x9_3) t500 t501 t502 t503 t504 t505 _ A28.out).mono ?_); rintro e w61 ⟨rfl, hb⟩; refine ⟨_, rfl, ?_⟩; have n0_ := Aside0.mk (Kd.R_below (by (with_reducible repeat (first | apply Kd.R_alloc | apply Kd.R_drewN | apply Kd.R_drew)); exact HO_5.out) hb); have n1_ := Aside0.mk (below_step (by repeat (first | (with_reducible first | exact HB.out | apply below_alloc | apply pw_below_drewN | apply below_drew1) | exact HB.out)) hb); clear HO_5; clear HB; have HO_5 := n0_; have HB := n1_; clear n0_ n1_; (try clear hb); (try clear hb2); (try clear hk); (try clear hi)) | ((with_reducible refine gate_dst (N := 10) rfl ?_); (try (refine gate_guard (by rfl) ?_; dsimp only)); refine box_event ?hg (N := 10) ?hd (cs := #[.int .i64 0, .int .i64 0, .int .i64 0, .int .i64 0, .int .i64 0]) (t := 39) ?hr ?_; (case hd => rfl); (case hg => rfl); (case hr => first | (go_simp; done) | (go_simp; rfl)); intro gb506 hg w62 hbox hb; have n0_ := Aside0.mk (Kd.R_below (by (with_reducible repeat (first | apply Kd.R_alloc | apply Kd.R_drewN | apply Kd.R_drew)); exact HO_5.out) hb); have n1_ := Aside0.mk (below_step (by repeat (first | (with_reducible first | exact HB.out | apply below_alloc | apply pw_below_drewN | apply below_drew1) | exact HB.out)) hb); have n2_ := Aside0.mk (hbox); have n3_ := Aside0.mk ((by rw [hg]; exact (below_size (by repeat (first | (with_reducible first | exact HB.out | apply below_alloc | apply pw_below_drewN | apply below_drew1) | exact HB.out))) : w.heap.size ≤ gb506)); have n4_ := Aside0.mk ((by rw [hg]; exact (below_size (by repeat (first | (with_reducible first | exact HB.out | apply below_alloc | apply pw_below_drewN | apply below_drew1) | exact HB.out))) : w.heap.size ≤ gb506)); clear HO_5; clear HB; have HO_5 := n0_; have HB := n1_; have BK506 := n2_; have GW506 := n3_; have GE506 := n4_; clear n0_ n1_ n2_ n3_ n4_; clear hb hbox hg; have hcz63_0 : w62.cell? ⟨gb506, 0, none⟩ = some (.int .i64 0) := (blk_cell BK506.out 0).trans rfl; have hcz63_1 : w62.cell? ⟨gb506, 1, none⟩ = some (.int .i64 0) := (blk_cell BK506.out 1).trans rfl; have hcz63_2 : w62.cell? ⟨gb506, 2, none⟩ = some (.int .i64 0) := (blk_cell BK506.out 2).trans rfl; have hcz63_3 : w62.cell? ⟨gb506, 3, none⟩ = some (.int .i64 0) := (blk_cell BK506.out 3).trans rfl; have hcz63_4 : w62.cell? ⟨gb506, 4, none⟩ = some (.int .i64 0) := (blk_cell BK506.out 4).trans rfl; have hfz63_0 := blk_frozen BK506.out 0; have hfz63_1 := blk_frozen BK506.out 1; have hfz63_2 := blk_frozen BK506.out 2; have hfz63_3 := blk_frozen BK506.out 3; have hfz63_4 := blk_frozen BK506.out 4))
                          go_ret
                          exact ⟨by first | rfl | (simp [errW_none, errW_some] <;> rfl) | (simp [*, errW_none, errW_some] <;> rfl), by repeat (first | (with_reducible first | exact HB.out | apply below_alloc | apply pw_below_drewN | apply below_drew1 | refine below_set ?_ GE506.out) | exact HB.out)⟩
                      · rw [if_neg c29] at H
                        have c29b0 : (t505 == 0) = false := beq_eq_false_iff_ne.mpr c29
                        have c29b1 : (t505 != 0) = true := bne_iff_ne.mpr c29
                        obtain rfl := Option.some.inj H
                        obtain ⟨Ao64, co64, eo64⟩ := Kd.R_slice HO_5.out
                        subst eo64
                        have p499 : 0 ≤ (x9_3 : Int) := of_decide_eq_true (by first | (with_reducible assumption) | assumption)
                        have q499 : x9_3 < (t491.length : Int) := of_decide_eq_true (by first | (with_reducible assumption) | assumption)
                        obtain ⟨ad499, e499, hx499_0⟩ := Kd.at_int (Kd.R_reads' HO_5.out).2.2 x9_3 p499 q499
                        cases e499
                        replace p499 := eq_true p499
                        replace q499 := eq_true q499
                        go_wp2_with (first | ((with_reducible refine gate_callee (f := 22) rfl ?_); refine goesL_ (some 60) rfl rfl Try.func22 (by kernel_rfl) rfl #[.int .u32 (rd t491 x9_3)] rfl (by (try simp only [List.map_toArray, List.map_cons, List.map_nil]); first | done | rfl | (simp only [List.length_drop, List.length_take]; rfl)) ?_; (with_reducible refine (inst_Decode.calls k3 (rd t491 x9_3) t500 t501 t502 t503 t504 t505 _ A28.out).mono ?_); rintro e w65 ⟨rfl, hb⟩; refine ⟨_, rfl, ?_⟩; have n0_ := Aside0.mk (Kd.R_below (by (with_reducible repeat (first | apply Kd.R_alloc | apply Kd.R_drewN | apply Kd.R_drew)); exact HO_5.out) hb); have n1_ := Aside0.mk (below_step (by repeat (first | (with_reducible first | exact HB.out | apply below_alloc | apply pw_below_drewN | apply below_drew1) | exact HB.out)) hb); clear HO_5; clear HB; have HO_5 := n0_; have HB := n1_; clear n0_ n1_; (try clear hb); (try clear hb2); (try clear hk); (try clear hi)) | ((with_reducible refine gate_dst (N := 10) rfl ?_); (try (refine gate_guard (by rfl) ?_; dsimp only)); refine box_event ?hg (N := 10) ?hd (cs := #[.int .i64 0, .int .i64 0, .int .i64 0, .int .i64 0, .int .i64 0]) (t := 39) ?hr ?_; (case hd => rfl); (case hg => rfl); (case hr => first | (go_simp; done) | (go_simp; rfl)); intro gb506 hg w66 hbox hb; have n0_ := Aside0.mk (Kd.R_below (by (with_reducible repeat (first | apply Kd.R_alloc | apply Kd.R_drewN | apply Kd.R_drew)); exact HO_5.out) hb); have n1_ := Aside0.mk (below_step (by repeat (first | (with_reducible first | exact HB.out | apply below_alloc | apply pw_below_drewN | apply below_drew1) | exact HB.out)) hb); have n2_ := Aside0.mk (hbox); have n3_ := Aside0.mk ((by rw [hg]; exact (below_size (by repeat (first | (with_reducible first | exact HB.out | apply below_alloc | apply pw_below_drewN | apply below_drew1) | exact HB.out))) : w.heap.size ≤ gb506)); have n4_ := Aside0.mk ((by rw [hg]; exact (below_size (by repeat (first | (with_reducible first | exact HB.out | apply below_alloc | apply pw_below_drewN | apply below_drew1) | exact HB.out))) : w.heap.size ≤ gb506)); clear HO_5; clear HB; have HO_5 := n0_; have HB := n1_; have BK506 := n2_; have GW506 := n3_; have GE506 := n4_; clear n0_ n1_ n2_ n3_ n4_; clear hb hbox hg; have hcz67_0 : w66.cell? ⟨gb506, 0, none⟩ = some (.int .i64 0) := (blk_cell BK506.out 0).trans rfl; have hcz67_1 : w66.cell? ⟨gb506, 1, none⟩ = some (.int .i64 0) := (blk_cell BK506.out 1).trans rfl; have hcz67_2 : w66.cell? ⟨gb506, 2, none⟩ = some (.int .i64 0) := (blk_cell BK506.out 2).trans rfl; have hcz67_3 : w66.cell? ⟨gb506, 3, none⟩ = some (.int .i64 0) := (blk_cell BK506.out 3).trans rfl; have hcz67_4 : w66.cell? ⟨gb506, 4, none⟩ = some (.int .i64 0) := (blk_cell BK506.out 4).trans rfl; have hfz67_0 := blk_frozen BK506.out 0; have hfz67_1 := blk_frozen BK506.out 1; have hfz67_2 := blk_frozen BK506.out 2; have hfz67_3 := blk_frozen BK506.out 3; have hfz67_4 := blk_frozen BK506.out 4))
                        go_ret
                        exact ⟨by first | rfl | (simp [errW_none, errW_some] <;> rfl) | (simp [*, errW_none, errW_some] <;> rfl), by repeat (first | (with_reducible first | exact HB.out | apply below_alloc | apply pw_below_drewN | apply below_drew1 | refine below_set ?_ GE506.out) | exact HB.out)⟩
                    · rw [if_neg c27] at H
                      exact absurd H (by simp)
                  · rw [if_neg c26] at H
                    have c26b0 : decide (x9_3 < (t491.length : Int)) = false := decide_eq_false c26
                    clear c26
                    replace H := Option.bind_eq_some_iff.mp H
                    obtain ⟨t507, A680, H⟩ := H
                    replace H : (if t507 = true then ((rushlightref01_Cut.f x8_3).bind fun t508 => (some (t508 == a1))) else (some false)) = some r := H
                    have A68 := Aside0.mk A680
                    clear A680
                    by_cases c69 : t507 = true
                    · subst c69
                      have H1 : ((rushlightref01_Cut.f x8_3).bind fun t508 => (some (t508 == a1))) = some r := by rw [if_pos rfl] at H; exact H
                      clear H
                      have H := H1
                      clear H1
                      replace H := Option.bind_eq_some_iff.mp H
                      obtain ⟨t508, A700, H⟩ := H
                      replace H : (some (t508 == a1)) = some r := H
                      have A70 := Aside0.mk A700
                      clear A700
                      obtain rfl := Option.some.inj H
                      obtain ⟨Ao71, co71, eo71⟩ := Kd.R_slice HO_5.out
                      subst eo71
                      go_wp2_with (first | ((with_reducible refine gate_callee (f := 8) rfl ?_); refine goesL_ (some 100) rfl rfl Try.func8 (by kernel_rfl) rfl #[] rfl (by (try simp only [List.map_toArray, List.map_cons, List.map_nil]); first | done | rfl | (simp only [List.length_drop, List.length_take]; rfl)) ?_; (with_reducible refine (rushlightlaw05_awake.calls k3  true _ A68.out).mono ?_); rintro e w72 ⟨rfl, hb⟩; refine ⟨_, rfl, ?_⟩; have n0_ := Aside0.mk (Kd.R_below (by (with_reducible repeat (first | apply Kd.R_alloc | apply Kd.R_drewN | apply Kd.R_drew)); exact HO_5.out) hb); have n1_ := Aside0.mk (below_step (by repeat (first | (with_reducible first | exact HB.out | apply below_alloc | apply pw_below_drewN | apply below_drew1) | exact HB.out)) hb); clear HO_5; clear HB; have HO_5 := n0_; have HB := n1_; clear n0_ n1_; (try clear hb); (try clear hb2); (try clear hk); (try clear hi)) | (go_at_call 25; (with_reducible refine (rushlightref01_Cut.calls x8_3 t508 _ A70.out).mono ?_); rintro e w' ⟨rfl, ⟨nd, rfl⟩⟩))
                      go_ret
                      exact ⟨by first | rfl | (simp [errW_none, errW_some] <;> rfl) | (simp [*, errW_none, errW_some] <;> rfl), by repeat (first | (with_reducible first | exact HB.out | apply below_alloc | apply pw_below_drewN | apply below_drew1) | exact HB.out)⟩
                    · replace c69 := Bool.eq_false_iff.mpr c69
                      subst c69
                      have H1 : (some false) = some r := by rw [if_neg (show ¬ (false = true) by decide)] at H; exact H
                      clear H
                      have H := H1
                      clear H1
                      obtain rfl := Option.some.inj H
                      obtain ⟨Ao73, co73, eo73⟩ := Kd.R_slice HO_5.out
                      subst eo73
                      go_wp2_with (first | ((with_reducible refine gate_callee (f := 8) rfl ?_); refine goesL_ (some 100) rfl rfl Try.func8 (by kernel_rfl) rfl #[] rfl (by (try simp only [List.map_toArray, List.map_cons, List.map_nil]); first | done | rfl | (simp only [List.length_drop, List.length_take]; rfl)) ?_; (with_reducible refine (rushlightlaw05_awake.calls k3  false _ A68.out).mono ?_); rintro e w74 ⟨rfl, hb⟩; refine ⟨_, rfl, ?_⟩; have n0_ := Aside0.mk (Kd.R_below (by (with_reducible repeat (first | apply Kd.R_alloc | apply Kd.R_drewN | apply Kd.R_drew)); exact HO_5.out) hb); have n1_ := Aside0.mk (below_step (by repeat (first | (with_reducible first | exact HB.out | apply below_alloc | apply pw_below_drewN | apply below_drew1) | exact HB.out)) hb); clear HO_5; clear HB; have HO_5 := n0_; have HB := n1_; clear n0_ n1_; (try clear hb); (try clear hb2); (try clear hk); (try clear hi)))
                      go_ret
                      exact ⟨by first | rfl | (simp [errW_none, errW_some] <;> rfl) | (simp [*, errW_none, errW_some] <;> rfl), by repeat (first | (with_reducible first | exact HB.out | apply below_alloc | apply pw_below_drewN | apply below_drew1) | exact HB.out)⟩
def rushlightlaw05_AsmNumbers.Pure : Prop := ∀ (a0 : Int) (a1 : Int), (Lit.int .i64 a0).wf = true → (Lit.int .u32 a1).wf = true → ∃ k, rushlightlaw05_AsmNumbers.f k a0 a1 = some true
theorem rushlightlaw05_AsmNumbers.walk (P : rushlightlaw05_AsmNumbers.Pure) (a0 : Int) (a1 : Int) (w : World) (w0 : (Lit.int .i64 a0).wf = true) (w1 : (Lit.int .u32 a1).wf = true) :
    Calls Try.prog 7 #[.int .i64 a0, .int .u32 a1] w fun e w' => e = .returned (.bool true) ∧ Below w.heap.size w w' := by
  obtain ⟨k, h⟩ := P a0 a1 w0 w1
  refine (rushlightlaw05_AsmNumbers.calls k a0 a1 true w h).mono ?_
  rintro e w' ⟨rfl, hd⟩
  exact ⟨rfl, hd⟩
end Go.Proofs.Ytecbponmpinnoaa.P
end
section
namespace Go.Proofs.Ytecbponmpinnoaa.P
open Go.RowKit Go.Proofs.YtecbponmpinnoaaW.PrintWords Go.Proofs.YtecbponmpinnoaaW.PrintLast Go.Proofs.YtecbponmpinnoaaW.PrintMore
attribute [local go_sem] max2_int min2_int max_two min_two max_three min_three max_four min_four   
set_option linter.unusedVariables false
set_option linter.unusedSimpArgs false
end Go.Proofs.Ytecbponmpinnoaa.P
end
section
namespace Go.Proofs.Ytecbponmpinnoaa.P
open Go.RowKit Go.Proofs.YtecbponmpinnoaaW.PrintWords Go.Proofs.YtecbponmpinnoaaW.PrintLast Go.Proofs.YtecbponmpinnoaaW.PrintMore
attribute [local go_sem] max2_int min2_int max_two min_two max_three min_three max_four min_four   
set_option linter.unusedVariables false
set_option linter.unusedSimpArgs false
end Go.Proofs.Ytecbponmpinnoaa.P
end
section
namespace Go.Proofs.Ytecbponmpinnoaa.P
open Go.RowKit Go.Proofs.YtecbponmpinnoaaW.PrintWords Go.Proofs.YtecbponmpinnoaaW.PrintLast Go.Proofs.YtecbponmpinnoaaW.PrintMore
attribute [local go_sem] max2_int min2_int max_two min_two max_three min_three max_four min_four   
set_option linter.unusedVariables false
set_option linter.unusedSimpArgs false
end Go.Proofs.Ytecbponmpinnoaa.P
end
section
namespace Go.Proofs.Ytecbponmpinnoaa.P
open Go.RowKit Go.Proofs.YtecbponmpinnoaaW.PrintWords Go.Proofs.YtecbponmpinnoaaW.PrintLast Go.Proofs.YtecbponmpinnoaaW.PrintMore
attribute [local go_sem] max2_int min2_int max_two min_two max_three min_three max_four min_four   
set_option linter.unusedVariables false
set_option linter.unusedSimpArgs false
end Go.Proofs.Ytecbponmpinnoaa.P
end
section
namespace Go.Proofs.Ytecbponmpinnoaa.P
open Go.RowKit Go.Proofs.YtecbponmpinnoaaW.PrintWords Go.Proofs.YtecbponmpinnoaaW.PrintLast Go.Proofs.YtecbponmpinnoaaW.PrintMore
attribute [local go_sem] max2_int min2_int max_two min_two max_three min_three max_four min_four   
set_option linter.unusedVariables false
set_option linter.unusedSimpArgs false
end Go.Proofs.Ytecbponmpinnoaa.P
end
