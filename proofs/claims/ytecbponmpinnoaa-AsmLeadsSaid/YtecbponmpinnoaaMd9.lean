/- A claim's text, put together by a program of this session (wip/tools/shake.py): the declarations that the claim needs. -/
import Derived.Test.YtecbponmpinnoaaMd0
import Derived.Test.YtecbponmpinnoaaMd1
import Derived.Test.YtecbponmpinnoaaMd2
import Derived.Test.YtecbponmpinnoaaMd3
import Derived.Test.YtecbponmpinnoaaMd4
import Derived.Test.YtecbponmpinnoaaMd5
import Derived.Test.YtecbponmpinnoaaMd6
import Derived.Test.YtecbponmpinnoaaMd7
import Derived.Test.YtecbponmpinnoaaMd8
import Derived.Test.YtecbponmpinnoaaProg
import Derived.Below
import Derived.Deep.Draws
import Derived.Deep.AppendLies
import Derived.Maps.AppendAt
import Derived.OwnWalk
import Derived.Laws.BytesArg
import Derived.Laws.MakeOwn
import Derived.Laws.OwnMore
import Derived.Deep.OwnRows
import Derived.Tactics
import Derived.Lib.ConvBytes
import Derived.Laws.Slices
import Derived.WalkKit
import Derived.KernelRfl
import Derived.RowKit3
import Derived.Deep.LoopGhost
import Derived.Deep.QuietTactic
import Derived.BigQuiet
import Derived.WideLaws
import Derived.Deep.DeepCutAuto
import Derived.Deep.CutBlock
import Derived.Deep.RegionHeld3
import Derived.Laws.Rows
import Derived.Lib.AppendStr
import Derived.ArgAppend
import Derived.Laws.IdiomCopy
import Derived.OrdersHeld
import Derived.Laws.BitsLemmas
import Derived.RowKit
import Derived.Deep.WholeRow
import Derived.Outline
import Derived.WalkMore
import Derived.ScopeJumps
import Derived.Deep.DeepFit
import Derived.Maps.OwnOps
import Derived.Maps.Views
import Derived.Carry
import Derived.WalkArith
import Derived.Laws.StructEq
set_option linter.unusedVariables false
set_option linter.unusedSimpArgs false
section
namespace Go.Proofs.Ytecbponmpinnoaa.P
open Go.RowKit Go.Proofs.YtecbponmpinnoaaW.PrintWords Go.Proofs.YtecbponmpinnoaaW.PrintLast Go.Proofs.YtecbponmpinnoaaW.PrintMore
attribute [local go_sem] max2_int min2_int max_two min_two max_three min_three max_four min_four   
set_option linter.unusedVariables false
set_option linter.unusedSimpArgs false
def inst_fits.j0 : Nat → Int → Bool → ByteArray → Int → Int → Int → Int → Option (Bool)
  | 0, _, _, _, _, _, _, _ => none
  | k + 1, x1, x11, x470000, x470001, x470002, x470003, x470004 => if x11 = true then (some true) else ((inst_bits.f x1 12 3).bind fun t470 => (if t470 = x470003 then (if x470001 = 82 then (some ((x1 / 33554432) == x470004)) else (if x470001 = 72 then (some ((x1 / 33554432) == x470004)) else (some true))) else (some false)))
def inst_fits.f (k : Nat) (a0_0 : ByteArray) (a0_1 : Int) (a0_2 : Int) (a0_3 : Int) (a0_4 : Int) (a1 : Int) : Option (Bool) := if (Go.bits .and .u32 a1 127) = a0_2 then (if a0_1 = 85 then (inst_fits.j0 k a1 true a0_0 a0_1 a0_2 a0_3 a0_4) else (inst_fits.j0 k a1 (a0_1 == 74) a0_0 a0_1 a0_2 a0_3 a0_4)) else (some false)
set_option maxHeartbeats 8000000 in
set_option maxRecDepth 100000 in
theorem inst_fits.calls (k : Nat) (a0_0 : ByteArray) (a0_1 : Int) (a0_2 : Int) (a0_3 : Int) (a0_4 : Int) (a1 : Int) (r : Bool) (w : World) (h : inst_fits.f k a0_0 a0_1 a0_2 a0_3 a0_4 a1 = some r) :
    Calls Try.prog 39 #[.agg #[.string a0_0, .int .u8 a0_1, .int .u32 a0_2, .int .u32 a0_3, .int .u32 a0_4], .int .u32 a1] w fun e w' => e = .returned (.bool r) ∧ Below w.heap.size w w' := by
  have hu80 := Try.underlying80
  have HB := Aside0.mk (Below.refl w.heap.size w)
  have H : (if (Go.bits .and .u32 a1 127) = a0_2 then (if a0_1 = 85 then (inst_fits.j0 k a1 true a0_0 a0_1 a0_2 a0_3 a0_4) else (inst_fits.j0 k a1 (a0_1 == 74) a0_0 a0_1 a0_2 a0_3 a0_4)) else (some false)) = some r := h
  clear h
  by_cases c3 : (Go.bits .and .u32 a1 127) = a0_2
  · rw [if_pos c3] at H
    have c3b0 : ((Go.bits .and .u32 a1 127) == a0_2) = true := beq_iff_eq.mpr c3
    have c3b1 : ((Go.bits .and .u32 a1 127) != a0_2) = false := bne_eq_false_iff_eq.mpr c3
    clear c3
    have HC4 := Aside0.mk H
    clear H
    go_enter Try.func39, Try.ntmps39
    go_upto_region 3 with (first | ((with_reducible refine gate_dst (N := 2) rfl ?_); refine box_event ?hg (N := 2) ?hd (cs := #[.string a0_0, .int .u8 a0_1, .int .u32 a0_2, .int .u32 a0_3, .int .u32 a0_4]) (t := 80) ?hr ?_; (case hd => rfl); (case hg => rfl); (case hr => first | (go_simp; done) | (go_simp; rfl)); intro gb469 hg w5 hbox hb; have n0_ := Aside0.mk (below_step (by repeat (first | (with_reducible first | exact HB.out | apply below_alloc | apply pw_below_drewN | apply below_drew1) | exact HB.out)) hb); have n1_ := Aside0.mk (hbox); have n2_ := Aside0.mk ((by rw [hg]; exact (below_size (by repeat (first | (with_reducible first | exact HB.out | apply below_alloc | apply pw_below_drewN | apply below_drew1) | exact HB.out))) : w.heap.size ≤ gb469)); have n3_ := Aside0.mk ((by rw [hg]; exact (below_size (by repeat (first | (with_reducible first | exact HB.out | apply below_alloc | apply pw_below_drewN | apply below_drew1) | exact HB.out))) : w.heap.size ≤ gb469)); clear HB; have HB := n0_; have BK469 := n1_; have GW469 := n2_; have GE469 := n3_; clear n0_ n1_ n2_ n3_; clear hb hbox hg; have hcz6_0 : w5.cell? ⟨gb469, 0, none⟩ = some (.string a0_0) := (blk_cell BK469.out 0).trans rfl; have hcz6_1 : w5.cell? ⟨gb469, 1, none⟩ = some (.int .u8 a0_1) := (blk_cell BK469.out 1).trans rfl; have hcz6_2 : w5.cell? ⟨gb469, 2, none⟩ = some (.int .u32 a0_2) := (blk_cell BK469.out 2).trans rfl; have hcz6_3 : w5.cell? ⟨gb469, 3, none⟩ = some (.int .u32 a0_3) := (blk_cell BK469.out 3).trans rfl; have hcz6_4 : w5.cell? ⟨gb469, 4, none⟩ = some (.int .u32 a0_4) := (blk_cell BK469.out 4).trans rfl; have hfz6_0 := blk_frozen BK469.out 0; have hfz6_1 := blk_frozen BK469.out 1; have hfz6_2 := blk_frozen BK469.out 2; have hfz6_3 := blk_frozen BK469.out 3; have hfz6_4 := blk_frozen BK469.out 4))
    repeat (go_quiet (first | ((with_reducible refine gate_dst (N := 2) rfl ?_); refine box_event ?hg (N := 2) ?hd (cs := #[.string a0_0, .int .u8 a0_1, .int .u32 a0_2, .int .u32 a0_3, .int .u32 a0_4]) (t := 80) ?hr ?_; (case hd => rfl); (case hg => rfl); (case hr => first | (go_simp; done) | (go_simp; rfl)); intro gb469 hg w5 hbox hb; have n0_ := Aside0.mk (below_step (by repeat (first | (with_reducible first | exact HB.out | apply below_alloc | apply pw_below_drewN | apply below_drew1) | exact HB.out)) hb); have n1_ := Aside0.mk (hbox); have n2_ := Aside0.mk ((by rw [hg]; exact (below_size (by repeat (first | (with_reducible first | exact HB.out | apply below_alloc | apply pw_below_drewN | apply below_drew1) | exact HB.out))) : w.heap.size ≤ gb469)); have n3_ := Aside0.mk ((by rw [hg]; exact (below_size (by repeat (first | (with_reducible first | exact HB.out | apply below_alloc | apply pw_below_drewN | apply below_drew1) | exact HB.out))) : w.heap.size ≤ gb469)); clear HB; have HB := n0_; have BK469 := n1_; have GW469 := n2_; have GE469 := n3_; clear n0_ n1_ n2_ n3_; clear hb hbox hg; have hcz6_0 : w5.cell? ⟨gb469, 0, none⟩ = some (.string a0_0) := (blk_cell BK469.out 0).trans rfl; have hcz6_1 : w5.cell? ⟨gb469, 1, none⟩ = some (.int .u8 a0_1) := (blk_cell BK469.out 1).trans rfl; have hcz6_2 : w5.cell? ⟨gb469, 2, none⟩ = some (.int .u32 a0_2) := (blk_cell BK469.out 2).trans rfl; have hcz6_3 : w5.cell? ⟨gb469, 3, none⟩ = some (.int .u32 a0_3) := (blk_cell BK469.out 3).trans rfl; have hcz6_4 : w5.cell? ⟨gb469, 4, none⟩ = some (.int .u32 a0_4) := (blk_cell BK469.out 4).trans rfl; have hfz6_0 := blk_frozen BK469.out 0; have hfz6_1 := blk_frozen BK469.out 1; have hfz6_2 := blk_frozen BK469.out 2; have hfz6_3 := blk_frozen BK469.out 3; have hfz6_4 := blk_frozen BK469.out 4)); go_upto_region 3 with (first | ((with_reducible refine gate_dst (N := 2) rfl ?_); refine box_event ?hg (N := 2) ?hd (cs := #[.string a0_0, .int .u8 a0_1, .int .u32 a0_2, .int .u32 a0_3, .int .u32 a0_4]) (t := 80) ?hr ?_; (case hd => rfl); (case hg => rfl); (case hr => first | (go_simp; done) | (go_simp; rfl)); intro gb469 hg w5 hbox hb; have n0_ := Aside0.mk (below_step (by repeat (first | (with_reducible first | exact HB.out | apply below_alloc | apply pw_below_drewN | apply below_drew1) | exact HB.out)) hb); have n1_ := Aside0.mk (hbox); have n2_ := Aside0.mk ((by rw [hg]; exact (below_size (by repeat (first | (with_reducible first | exact HB.out | apply below_alloc | apply pw_below_drewN | apply below_drew1) | exact HB.out))) : w.heap.size ≤ gb469)); have n3_ := Aside0.mk ((by rw [hg]; exact (below_size (by repeat (first | (with_reducible first | exact HB.out | apply below_alloc | apply pw_below_drewN | apply below_drew1) | exact HB.out))) : w.heap.size ≤ gb469)); clear HB; have HB := n0_; have BK469 := n1_; have GW469 := n2_; have GE469 := n3_; clear n0_ n1_ n2_ n3_; clear hb hbox hg; have hcz6_0 : w5.cell? ⟨gb469, 0, none⟩ = some (.string a0_0) := (blk_cell BK469.out 0).trans rfl; have hcz6_1 : w5.cell? ⟨gb469, 1, none⟩ = some (.int .u8 a0_1) := (blk_cell BK469.out 1).trans rfl; have hcz6_2 : w5.cell? ⟨gb469, 2, none⟩ = some (.int .u32 a0_2) := (blk_cell BK469.out 2).trans rfl; have hcz6_3 : w5.cell? ⟨gb469, 3, none⟩ = some (.int .u32 a0_3) := (blk_cell BK469.out 3).trans rfl; have hcz6_4 : w5.cell? ⟨gb469, 4, none⟩ = some (.int .u32 a0_4) := (blk_cell BK469.out 4).trans rfl; have hfz6_0 := blk_frozen BK469.out 0; have hfz6_1 := blk_frozen BK469.out 1; have hfz6_2 := blk_frozen BK469.out 2; have hfz6_3 := blk_frozen BK469.out 3; have hfz6_4 := blk_frozen BK469.out 4)))
    (try simp only [Act.put, List.setIfInBounds_toArray, List.set_cons_zero, List.set_cons_succ])
    go_cut [11] (fun v11 wc => ∃ (kq : Nat) (x11_3 : Bool), v11 = .bool x11_3 ∧ Aside0 (inst_fits.j0 kq a1 x11_3 a0_0 a0_1 a0_2 a0_3 a0_4 = some r) ∧ Aside0 (kq ≤ k) ∧ Aside0 (wc.heap[gb469]? = some (.cells #[.string a0_0, .int .u8 a0_1, .int .u32 a0_2, .int .u32 a0_3, .int .u32 a0_4] 80 (0, 0))) ∧ Aside0 (Below w.heap.size w wc))
    case first =>
      have H := HC4.out
      clear HC4
      by_cases c7 : a0_1 = 85
      · rw [if_pos c7] at H
        have c7b0 : (a0_1 == 85) = true := beq_iff_eq.mpr c7
        have c7b1 : (a0_1 != 85) = false := bne_eq_false_iff_eq.mpr c7
        clear c7
        (first | rw [c7b0] | (simp only [i64_w, i32_w]; rw [c7b0]) | skip)
        have H' := Aside0.mk H
        clear H
        have hcz8_0 : w5.cell? ⟨gb469, 0, none⟩ = some (.string a0_0) := (blk_cell BK469.out 0).trans rfl
        have hcz8_1 : w5.cell? ⟨gb469, 1, none⟩ = some (.int .u8 a0_1) := (blk_cell BK469.out 1).trans rfl
        have hcz8_2 : w5.cell? ⟨gb469, 2, none⟩ = some (.int .u32 a0_2) := (blk_cell BK469.out 2).trans rfl
        have hcz8_3 : w5.cell? ⟨gb469, 3, none⟩ = some (.int .u32 a0_3) := (blk_cell BK469.out 3).trans rfl
        have hcz8_4 : w5.cell? ⟨gb469, 4, none⟩ = some (.int .u32 a0_4) := (blk_cell BK469.out 4).trans rfl
        have hfz8_0 := blk_frozen BK469.out 0
        have hfz8_1 := blk_frozen BK469.out 1
        have hfz8_2 := blk_frozen BK469.out 2
        have hfz8_3 := blk_frozen BK469.out 3
        have hfz8_4 := blk_frozen BK469.out 4
        go_wp2
        repeat (go_quiet (fail); try go_wp2)
        go_meet
        case rel => exact ⟨_, (true), (by first | rfl | (simp; done) | (simp [*]; done)), H', ⟨by first | omega | exact Nat.le_refl _⟩, ⟨by (with_reducible repeat (first | refine blk_drewN ?_ _ | refine blk_drew ?_ | refine blk_alloc ?_ _)); exact BK469.out⟩, ⟨by repeat (first | (with_reducible first | exact HB.out | apply below_alloc | apply pw_below_drewN | apply below_drew1 | refine below_set ?_ GE469.out) | exact HB.out)⟩⟩
      · rw [if_neg c7] at H
        have c7b0 : (a0_1 == 85) = false := beq_eq_false_iff_ne.mpr c7
        have c7b1 : (a0_1 != 85) = true := bne_iff_ne.mpr c7
        (first | rw [c7b0] | (simp only [i64_w, i32_w]; rw [c7b0]) | skip)
        have H' := Aside0.mk H
        clear H
        have hcz9_0 : w5.cell? ⟨gb469, 0, none⟩ = some (.string a0_0) := (blk_cell BK469.out 0).trans rfl
        have hcz9_1 : w5.cell? ⟨gb469, 1, none⟩ = some (.int .u8 a0_1) := (blk_cell BK469.out 1).trans rfl
        have hcz9_2 : w5.cell? ⟨gb469, 2, none⟩ = some (.int .u32 a0_2) := (blk_cell BK469.out 2).trans rfl
        have hcz9_3 : w5.cell? ⟨gb469, 3, none⟩ = some (.int .u32 a0_3) := (blk_cell BK469.out 3).trans rfl
        have hcz9_4 : w5.cell? ⟨gb469, 4, none⟩ = some (.int .u32 a0_4) := (blk_cell BK469.out 4).trans rfl
        have hfz9_0 := blk_frozen BK469.out 0
        have hfz9_1 := blk_frozen BK469.out 1
        have hfz9_2 := blk_frozen BK469.out 2
        have hfz9_3 := blk_frozen BK469.out 3
        have hfz9_4 := blk_frozen BK469.out 4
        go_wp2
        repeat (go_quiet (fail); try go_wp2)
        go_meet
        case rel => exact ⟨_, ((a0_1 == 74)), (by first | rfl | (simp; done) | (simp [*]; done)), H', ⟨by first | omega | exact Nat.le_refl _⟩, ⟨by (with_reducible repeat (first | refine blk_drewN ?_ _ | refine blk_drew ?_ | refine blk_alloc ?_ _)); exact BK469.out⟩, ⟨by repeat (first | (with_reducible first | exact HB.out | apply below_alloc | apply pw_below_drewN | apply below_drew1 | refine below_set ?_ GE469.out) | exact HB.out)⟩⟩
    case rest =>
      clear HC4
      try clear p2
      try clear c3
      try clear c3b0
      try clear c3b1
      try clear c7
      try clear c7b0
      try clear c7b1
      try clear hcz6_0
      try clear hcz6_1
      try clear hcz6_2
      try clear hcz6_3
      try clear hcz6_4
      try clear hcz8_0
      try clear hcz8_1
      try clear hcz8_2
      try clear hcz8_3
      try clear hcz8_4
      try clear hcz9_0
      try clear hcz9_1
      try clear hcz9_2
      try clear hcz9_3
      try clear hcz9_4
      try clear hfz6_0
      try clear hfz6_1
      try clear hfz6_2
      try clear hfz6_3
      try clear hfz6_4
      try clear hfz8_0
      try clear hfz8_1
      try clear hfz8_2
      try clear hfz8_3
      try clear hfz8_4
      try clear hfz9_0
      try clear hfz9_1
      try clear hfz9_2
      try clear hfz9_3
      try clear hfz9_4
      obtain ⟨kq, x11_3, rfl, HA, HJ3, BK469, HB⟩ := hcut
      cases kq with
      | zero => exact absurd HA.out (by simp [inst_fits.j0])
      | succ kj3 =>
        have H := HA.out
        clear HA
        simp only [inst_fits.j0] at H
        by_cases c10 : x11_3 = true
        · subst c10
          have H1 : (some true) = some r := by rw [if_pos rfl] at H; exact H
          clear H
          have H := H1
          clear H1
          obtain rfl := Option.some.inj H
          go_wp2
          repeat (go_quiet (fail); try go_wp2)
          go_ret
          exact ⟨by first | rfl | (simp [errW_none, errW_some] <;> rfl) | (simp [*, errW_none, errW_some] <;> rfl), by repeat (first | (with_reducible first | exact HB.out | apply below_alloc | apply pw_below_drewN | apply below_drew1 | refine below_set ?_ GE469.out) | exact HB.out)⟩
        · replace c10 := Bool.eq_false_iff.mpr c10
          subst c10
          have H1 : ((inst_bits.f a1 12 3).bind fun t470 => (if t470 = a0_3 then (if a0_1 = 82 then (some ((a1 / 33554432) == a0_4)) else (if a0_1 = 72 then (some ((a1 / 33554432) == a0_4)) else (some true))) else (some false))) = some r := by rw [if_neg (show ¬ (false = true) by decide)] at H; exact H
          clear H
          have H := H1
          clear H1
          replace H := Option.bind_eq_some_iff.mp H
          obtain ⟨t470, A110, H⟩ := H
          replace H : (if t470 = a0_3 then (if a0_1 = 82 then (some ((a1 / 33554432) == a0_4)) else (if a0_1 = 72 then (some ((a1 / 33554432) == a0_4)) else (some true))) else (some false)) = some r := H
          have A11 := Aside0.mk A110
          clear A110
          by_cases c12 : t470 = a0_3
          · rw [if_pos c12] at H
            have c12b0 : (t470 == a0_3) = true := beq_iff_eq.mpr c12
            have c12b1 : (t470 != a0_3) = false := bne_eq_false_iff_eq.mpr c12
            clear c12
            by_cases c13 : a0_1 = 82
            · rw [if_pos c13] at H
              have c13b0 : (a0_1 == 82) = true := beq_iff_eq.mpr c13
              have c13b1 : (a0_1 != 82) = false := bne_eq_false_iff_eq.mpr c13
              clear c13
              obtain rfl := Option.some.inj H
              go_wp2_with (first | (go_at_call 42; (with_reducible refine (inst_bits.calls a1 12 3 t470 _ A11.out).mono ?_); rintro e w' ⟨rfl, ⟨nd, rfl⟩⟩; (try first | exact ⟨rfl, _, World.drewN_drewN _ _ _⟩ | exact ⟨rfl, _, Eq.trans (World.drewN_drewN _ _ _) (congrArg (World.drewN _) (Nat.add_assoc _ _ _))⟩); have hcz14_0 : wc.cell? ⟨gb469, 0, none⟩ = some (.string a0_0) := (blk_cell BK469.out 0).trans rfl; have hcz14_1 : wc.cell? ⟨gb469, 1, none⟩ = some (.int .u8 a0_1) := (blk_cell BK469.out 1).trans rfl; have hcz14_2 : wc.cell? ⟨gb469, 2, none⟩ = some (.int .u32 a0_2) := (blk_cell BK469.out 2).trans rfl; have hcz14_3 : wc.cell? ⟨gb469, 3, none⟩ = some (.int .u32 a0_3) := (blk_cell BK469.out 3).trans rfl; have hcz14_4 : wc.cell? ⟨gb469, 4, none⟩ = some (.int .u32 a0_4) := (blk_cell BK469.out 4).trans rfl; have hfz14_0 := blk_frozen BK469.out 0; have hfz14_1 := blk_frozen BK469.out 1; have hfz14_2 := blk_frozen BK469.out 2; have hfz14_3 := blk_frozen BK469.out 3; have hfz14_4 := blk_frozen BK469.out 4))
              repeat (go_quiet (first | (go_at_call 42; (with_reducible refine (inst_bits.calls a1 12 3 t470 _ A11.out).mono ?_); rintro e w' ⟨rfl, ⟨nd, rfl⟩⟩; (try first | exact ⟨rfl, _, World.drewN_drewN _ _ _⟩ | exact ⟨rfl, _, Eq.trans (World.drewN_drewN _ _ _) (congrArg (World.drewN _) (Nat.add_assoc _ _ _))⟩); have hcz14_0 : wc.cell? ⟨gb469, 0, none⟩ = some (.string a0_0) := (blk_cell BK469.out 0).trans rfl; have hcz14_1 : wc.cell? ⟨gb469, 1, none⟩ = some (.int .u8 a0_1) := (blk_cell BK469.out 1).trans rfl; have hcz14_2 : wc.cell? ⟨gb469, 2, none⟩ = some (.int .u32 a0_2) := (blk_cell BK469.out 2).trans rfl; have hcz14_3 : wc.cell? ⟨gb469, 3, none⟩ = some (.int .u32 a0_3) := (blk_cell BK469.out 3).trans rfl; have hcz14_4 : wc.cell? ⟨gb469, 4, none⟩ = some (.int .u32 a0_4) := (blk_cell BK469.out 4).trans rfl; have hfz14_0 := blk_frozen BK469.out 0; have hfz14_1 := blk_frozen BK469.out 1; have hfz14_2 := blk_frozen BK469.out 2; have hfz14_3 := blk_frozen BK469.out 3; have hfz14_4 := blk_frozen BK469.out 4)); try go_wp2_with (first | (go_at_call 42; (with_reducible refine (inst_bits.calls a1 12 3 t470 _ A11.out).mono ?_); rintro e w' ⟨rfl, ⟨nd, rfl⟩⟩; (try first | exact ⟨rfl, _, World.drewN_drewN _ _ _⟩ | exact ⟨rfl, _, Eq.trans (World.drewN_drewN _ _ _) (congrArg (World.drewN _) (Nat.add_assoc _ _ _))⟩); have hcz14_0 : wc.cell? ⟨gb469, 0, none⟩ = some (.string a0_0) := (blk_cell BK469.out 0).trans rfl; have hcz14_1 : wc.cell? ⟨gb469, 1, none⟩ = some (.int .u8 a0_1) := (blk_cell BK469.out 1).trans rfl; have hcz14_2 : wc.cell? ⟨gb469, 2, none⟩ = some (.int .u32 a0_2) := (blk_cell BK469.out 2).trans rfl; have hcz14_3 : wc.cell? ⟨gb469, 3, none⟩ = some (.int .u32 a0_3) := (blk_cell BK469.out 3).trans rfl; have hcz14_4 : wc.cell? ⟨gb469, 4, none⟩ = some (.int .u32 a0_4) := (blk_cell BK469.out 4).trans rfl; have hfz14_0 := blk_frozen BK469.out 0; have hfz14_1 := blk_frozen BK469.out 1; have hfz14_2 := blk_frozen BK469.out 2; have hfz14_3 := blk_frozen BK469.out 3; have hfz14_4 := blk_frozen BK469.out 4)))
              go_ret
              exact ⟨by first | rfl | (simp [errW_none, errW_some] <;> rfl) | (simp [*, errW_none, errW_some] <;> rfl), by repeat (first | (with_reducible first | exact HB.out | apply below_alloc | apply pw_below_drewN | apply below_drew1 | refine below_set ?_ GE469.out) | exact HB.out)⟩
            · rw [if_neg c13] at H
              have c13b0 : (a0_1 == 82) = false := beq_eq_false_iff_ne.mpr c13
              have c13b1 : (a0_1 != 82) = true := bne_iff_ne.mpr c13
              by_cases c15 : a0_1 = 72
              · rw [if_pos c15] at H
                have c15b0 : (a0_1 == 72) = true := beq_iff_eq.mpr c15
                have c15b1 : (a0_1 != 72) = false := bne_eq_false_iff_eq.mpr c15
                clear c15
                obtain rfl := Option.some.inj H
                go_wp2_with (first | (go_at_call 42; (with_reducible refine (inst_bits.calls a1 12 3 t470 _ A11.out).mono ?_); rintro e w' ⟨rfl, ⟨nd, rfl⟩⟩; (try first | exact ⟨rfl, _, World.drewN_drewN _ _ _⟩ | exact ⟨rfl, _, Eq.trans (World.drewN_drewN _ _ _) (congrArg (World.drewN _) (Nat.add_assoc _ _ _))⟩); have hcz16_0 : wc.cell? ⟨gb469, 0, none⟩ = some (.string a0_0) := (blk_cell BK469.out 0).trans rfl; have hcz16_1 : wc.cell? ⟨gb469, 1, none⟩ = some (.int .u8 a0_1) := (blk_cell BK469.out 1).trans rfl; have hcz16_2 : wc.cell? ⟨gb469, 2, none⟩ = some (.int .u32 a0_2) := (blk_cell BK469.out 2).trans rfl; have hcz16_3 : wc.cell? ⟨gb469, 3, none⟩ = some (.int .u32 a0_3) := (blk_cell BK469.out 3).trans rfl; have hcz16_4 : wc.cell? ⟨gb469, 4, none⟩ = some (.int .u32 a0_4) := (blk_cell BK469.out 4).trans rfl; have hfz16_0 := blk_frozen BK469.out 0; have hfz16_1 := blk_frozen BK469.out 1; have hfz16_2 := blk_frozen BK469.out 2; have hfz16_3 := blk_frozen BK469.out 3; have hfz16_4 := blk_frozen BK469.out 4))
                repeat (go_quiet (first | (go_at_call 42; (with_reducible refine (inst_bits.calls a1 12 3 t470 _ A11.out).mono ?_); rintro e w' ⟨rfl, ⟨nd, rfl⟩⟩; (try first | exact ⟨rfl, _, World.drewN_drewN _ _ _⟩ | exact ⟨rfl, _, Eq.trans (World.drewN_drewN _ _ _) (congrArg (World.drewN _) (Nat.add_assoc _ _ _))⟩); have hcz16_0 : wc.cell? ⟨gb469, 0, none⟩ = some (.string a0_0) := (blk_cell BK469.out 0).trans rfl; have hcz16_1 : wc.cell? ⟨gb469, 1, none⟩ = some (.int .u8 a0_1) := (blk_cell BK469.out 1).trans rfl; have hcz16_2 : wc.cell? ⟨gb469, 2, none⟩ = some (.int .u32 a0_2) := (blk_cell BK469.out 2).trans rfl; have hcz16_3 : wc.cell? ⟨gb469, 3, none⟩ = some (.int .u32 a0_3) := (blk_cell BK469.out 3).trans rfl; have hcz16_4 : wc.cell? ⟨gb469, 4, none⟩ = some (.int .u32 a0_4) := (blk_cell BK469.out 4).trans rfl; have hfz16_0 := blk_frozen BK469.out 0; have hfz16_1 := blk_frozen BK469.out 1; have hfz16_2 := blk_frozen BK469.out 2; have hfz16_3 := blk_frozen BK469.out 3; have hfz16_4 := blk_frozen BK469.out 4)); try go_wp2_with (first | (go_at_call 42; (with_reducible refine (inst_bits.calls a1 12 3 t470 _ A11.out).mono ?_); rintro e w' ⟨rfl, ⟨nd, rfl⟩⟩; (try first | exact ⟨rfl, _, World.drewN_drewN _ _ _⟩ | exact ⟨rfl, _, Eq.trans (World.drewN_drewN _ _ _) (congrArg (World.drewN _) (Nat.add_assoc _ _ _))⟩); have hcz16_0 : wc.cell? ⟨gb469, 0, none⟩ = some (.string a0_0) := (blk_cell BK469.out 0).trans rfl; have hcz16_1 : wc.cell? ⟨gb469, 1, none⟩ = some (.int .u8 a0_1) := (blk_cell BK469.out 1).trans rfl; have hcz16_2 : wc.cell? ⟨gb469, 2, none⟩ = some (.int .u32 a0_2) := (blk_cell BK469.out 2).trans rfl; have hcz16_3 : wc.cell? ⟨gb469, 3, none⟩ = some (.int .u32 a0_3) := (blk_cell BK469.out 3).trans rfl; have hcz16_4 : wc.cell? ⟨gb469, 4, none⟩ = some (.int .u32 a0_4) := (blk_cell BK469.out 4).trans rfl; have hfz16_0 := blk_frozen BK469.out 0; have hfz16_1 := blk_frozen BK469.out 1; have hfz16_2 := blk_frozen BK469.out 2; have hfz16_3 := blk_frozen BK469.out 3; have hfz16_4 := blk_frozen BK469.out 4)))
                go_ret
                exact ⟨by first | rfl | (simp [errW_none, errW_some] <;> rfl) | (simp [*, errW_none, errW_some] <;> rfl), by repeat (first | (with_reducible first | exact HB.out | apply below_alloc | apply pw_below_drewN | apply below_drew1 | refine below_set ?_ GE469.out) | exact HB.out)⟩
              · rw [if_neg c15] at H
                have c15b0 : (a0_1 == 72) = false := beq_eq_false_iff_ne.mpr c15
                have c15b1 : (a0_1 != 72) = true := bne_iff_ne.mpr c15
                obtain rfl := Option.some.inj H
                go_wp2_with (first | (go_at_call 42; (with_reducible refine (inst_bits.calls a1 12 3 t470 _ A11.out).mono ?_); rintro e w' ⟨rfl, ⟨nd, rfl⟩⟩; (try first | exact ⟨rfl, _, World.drewN_drewN _ _ _⟩ | exact ⟨rfl, _, Eq.trans (World.drewN_drewN _ _ _) (congrArg (World.drewN _) (Nat.add_assoc _ _ _))⟩); have hcz17_0 : wc.cell? ⟨gb469, 0, none⟩ = some (.string a0_0) := (blk_cell BK469.out 0).trans rfl; have hcz17_1 : wc.cell? ⟨gb469, 1, none⟩ = some (.int .u8 a0_1) := (blk_cell BK469.out 1).trans rfl; have hcz17_2 : wc.cell? ⟨gb469, 2, none⟩ = some (.int .u32 a0_2) := (blk_cell BK469.out 2).trans rfl; have hcz17_3 : wc.cell? ⟨gb469, 3, none⟩ = some (.int .u32 a0_3) := (blk_cell BK469.out 3).trans rfl; have hcz17_4 : wc.cell? ⟨gb469, 4, none⟩ = some (.int .u32 a0_4) := (blk_cell BK469.out 4).trans rfl; have hfz17_0 := blk_frozen BK469.out 0; have hfz17_1 := blk_frozen BK469.out 1; have hfz17_2 := blk_frozen BK469.out 2; have hfz17_3 := blk_frozen BK469.out 3; have hfz17_4 := blk_frozen BK469.out 4))
                repeat (go_quiet (first | (go_at_call 42; (with_reducible refine (inst_bits.calls a1 12 3 t470 _ A11.out).mono ?_); rintro e w' ⟨rfl, ⟨nd, rfl⟩⟩; (try first | exact ⟨rfl, _, World.drewN_drewN _ _ _⟩ | exact ⟨rfl, _, Eq.trans (World.drewN_drewN _ _ _) (congrArg (World.drewN _) (Nat.add_assoc _ _ _))⟩); have hcz17_0 : wc.cell? ⟨gb469, 0, none⟩ = some (.string a0_0) := (blk_cell BK469.out 0).trans rfl; have hcz17_1 : wc.cell? ⟨gb469, 1, none⟩ = some (.int .u8 a0_1) := (blk_cell BK469.out 1).trans rfl; have hcz17_2 : wc.cell? ⟨gb469, 2, none⟩ = some (.int .u32 a0_2) := (blk_cell BK469.out 2).trans rfl; have hcz17_3 : wc.cell? ⟨gb469, 3, none⟩ = some (.int .u32 a0_3) := (blk_cell BK469.out 3).trans rfl; have hcz17_4 : wc.cell? ⟨gb469, 4, none⟩ = some (.int .u32 a0_4) := (blk_cell BK469.out 4).trans rfl; have hfz17_0 := blk_frozen BK469.out 0; have hfz17_1 := blk_frozen BK469.out 1; have hfz17_2 := blk_frozen BK469.out 2; have hfz17_3 := blk_frozen BK469.out 3; have hfz17_4 := blk_frozen BK469.out 4)); try go_wp2_with (first | (go_at_call 42; (with_reducible refine (inst_bits.calls a1 12 3 t470 _ A11.out).mono ?_); rintro e w' ⟨rfl, ⟨nd, rfl⟩⟩; (try first | exact ⟨rfl, _, World.drewN_drewN _ _ _⟩ | exact ⟨rfl, _, Eq.trans (World.drewN_drewN _ _ _) (congrArg (World.drewN _) (Nat.add_assoc _ _ _))⟩); have hcz17_0 : wc.cell? ⟨gb469, 0, none⟩ = some (.string a0_0) := (blk_cell BK469.out 0).trans rfl; have hcz17_1 : wc.cell? ⟨gb469, 1, none⟩ = some (.int .u8 a0_1) := (blk_cell BK469.out 1).trans rfl; have hcz17_2 : wc.cell? ⟨gb469, 2, none⟩ = some (.int .u32 a0_2) := (blk_cell BK469.out 2).trans rfl; have hcz17_3 : wc.cell? ⟨gb469, 3, none⟩ = some (.int .u32 a0_3) := (blk_cell BK469.out 3).trans rfl; have hcz17_4 : wc.cell? ⟨gb469, 4, none⟩ = some (.int .u32 a0_4) := (blk_cell BK469.out 4).trans rfl; have hfz17_0 := blk_frozen BK469.out 0; have hfz17_1 := blk_frozen BK469.out 1; have hfz17_2 := blk_frozen BK469.out 2; have hfz17_3 := blk_frozen BK469.out 3; have hfz17_4 := blk_frozen BK469.out 4)))
                go_ret
                exact ⟨by first | rfl | (simp [errW_none, errW_some] <;> rfl) | (simp [*, errW_none, errW_some] <;> rfl), by repeat (first | (with_reducible first | exact HB.out | apply below_alloc | apply pw_below_drewN | apply below_drew1 | refine below_set ?_ GE469.out) | exact HB.out)⟩
          · rw [if_neg c12] at H
            have c12b0 : (t470 == a0_3) = false := beq_eq_false_iff_ne.mpr c12
            have c12b1 : (t470 != a0_3) = true := bne_iff_ne.mpr c12
            obtain rfl := Option.some.inj H
            go_wp2_with (first | (go_at_call 42; (with_reducible refine (inst_bits.calls a1 12 3 t470 _ A11.out).mono ?_); rintro e w' ⟨rfl, ⟨nd, rfl⟩⟩; (try first | exact ⟨rfl, _, World.drewN_drewN _ _ _⟩ | exact ⟨rfl, _, Eq.trans (World.drewN_drewN _ _ _) (congrArg (World.drewN _) (Nat.add_assoc _ _ _))⟩); have hcz18_0 : wc.cell? ⟨gb469, 0, none⟩ = some (.string a0_0) := (blk_cell BK469.out 0).trans rfl; have hcz18_1 : wc.cell? ⟨gb469, 1, none⟩ = some (.int .u8 a0_1) := (blk_cell BK469.out 1).trans rfl; have hcz18_2 : wc.cell? ⟨gb469, 2, none⟩ = some (.int .u32 a0_2) := (blk_cell BK469.out 2).trans rfl; have hcz18_3 : wc.cell? ⟨gb469, 3, none⟩ = some (.int .u32 a0_3) := (blk_cell BK469.out 3).trans rfl; have hcz18_4 : wc.cell? ⟨gb469, 4, none⟩ = some (.int .u32 a0_4) := (blk_cell BK469.out 4).trans rfl; have hfz18_0 := blk_frozen BK469.out 0; have hfz18_1 := blk_frozen BK469.out 1; have hfz18_2 := blk_frozen BK469.out 2; have hfz18_3 := blk_frozen BK469.out 3; have hfz18_4 := blk_frozen BK469.out 4))
            repeat (go_quiet (first | (go_at_call 42; (with_reducible refine (inst_bits.calls a1 12 3 t470 _ A11.out).mono ?_); rintro e w' ⟨rfl, ⟨nd, rfl⟩⟩; (try first | exact ⟨rfl, _, World.drewN_drewN _ _ _⟩ | exact ⟨rfl, _, Eq.trans (World.drewN_drewN _ _ _) (congrArg (World.drewN _) (Nat.add_assoc _ _ _))⟩); have hcz18_0 : wc.cell? ⟨gb469, 0, none⟩ = some (.string a0_0) := (blk_cell BK469.out 0).trans rfl; have hcz18_1 : wc.cell? ⟨gb469, 1, none⟩ = some (.int .u8 a0_1) := (blk_cell BK469.out 1).trans rfl; have hcz18_2 : wc.cell? ⟨gb469, 2, none⟩ = some (.int .u32 a0_2) := (blk_cell BK469.out 2).trans rfl; have hcz18_3 : wc.cell? ⟨gb469, 3, none⟩ = some (.int .u32 a0_3) := (blk_cell BK469.out 3).trans rfl; have hcz18_4 : wc.cell? ⟨gb469, 4, none⟩ = some (.int .u32 a0_4) := (blk_cell BK469.out 4).trans rfl; have hfz18_0 := blk_frozen BK469.out 0; have hfz18_1 := blk_frozen BK469.out 1; have hfz18_2 := blk_frozen BK469.out 2; have hfz18_3 := blk_frozen BK469.out 3; have hfz18_4 := blk_frozen BK469.out 4)); try go_wp2_with (first | (go_at_call 42; (with_reducible refine (inst_bits.calls a1 12 3 t470 _ A11.out).mono ?_); rintro e w' ⟨rfl, ⟨nd, rfl⟩⟩; (try first | exact ⟨rfl, _, World.drewN_drewN _ _ _⟩ | exact ⟨rfl, _, Eq.trans (World.drewN_drewN _ _ _) (congrArg (World.drewN _) (Nat.add_assoc _ _ _))⟩); have hcz18_0 : wc.cell? ⟨gb469, 0, none⟩ = some (.string a0_0) := (blk_cell BK469.out 0).trans rfl; have hcz18_1 : wc.cell? ⟨gb469, 1, none⟩ = some (.int .u8 a0_1) := (blk_cell BK469.out 1).trans rfl; have hcz18_2 : wc.cell? ⟨gb469, 2, none⟩ = some (.int .u32 a0_2) := (blk_cell BK469.out 2).trans rfl; have hcz18_3 : wc.cell? ⟨gb469, 3, none⟩ = some (.int .u32 a0_3) := (blk_cell BK469.out 3).trans rfl; have hcz18_4 : wc.cell? ⟨gb469, 4, none⟩ = some (.int .u32 a0_4) := (blk_cell BK469.out 4).trans rfl; have hfz18_0 := blk_frozen BK469.out 0; have hfz18_1 := blk_frozen BK469.out 1; have hfz18_2 := blk_frozen BK469.out 2; have hfz18_3 := blk_frozen BK469.out 3; have hfz18_4 := blk_frozen BK469.out 4)))
            go_ret
            exact ⟨by first | rfl | (simp [errW_none, errW_some] <;> rfl) | (simp [*, errW_none, errW_some] <;> rfl), by repeat (first | (with_reducible first | exact HB.out | apply below_alloc | apply pw_below_drewN | apply below_drew1 | refine below_set ?_ GE469.out) | exact HB.out)⟩
  · rw [if_neg c3] at H
    have c3b0 : ((Go.bits .and .u32 a1 127) == a0_2) = false := beq_eq_false_iff_ne.mpr c3
    have c3b1 : ((Go.bits .and .u32 a1 127) != a0_2) = true := bne_iff_ne.mpr c3
    obtain rfl := Option.some.inj H
    go_enter Try.func39, Try.ntmps39
    go_wp2_with (first | ((with_reducible refine gate_dst (N := 2) rfl ?_); refine box_event ?hg (N := 2) ?hd (cs := #[.string a0_0, .int .u8 a0_1, .int .u32 a0_2, .int .u32 a0_3, .int .u32 a0_4]) (t := 80) ?hr ?_; (case hd => rfl); (case hg => rfl); (case hr => first | (go_simp; done) | (go_simp; rfl)); intro gb469 hg w19 hbox hb; have n0_ := Aside0.mk (below_step (by repeat (first | (with_reducible first | exact HB.out | apply below_alloc | apply pw_below_drewN | apply below_drew1) | exact HB.out)) hb); have n1_ := Aside0.mk (hbox); have n2_ := Aside0.mk ((by rw [hg]; exact (below_size (by repeat (first | (with_reducible first | exact HB.out | apply below_alloc | apply pw_below_drewN | apply below_drew1) | exact HB.out))) : w.heap.size ≤ gb469)); have n3_ := Aside0.mk ((by rw [hg]; exact (below_size (by repeat (first | (with_reducible first | exact HB.out | apply below_alloc | apply pw_below_drewN | apply below_drew1) | exact HB.out))) : w.heap.size ≤ gb469)); clear HB; have HB := n0_; have BK469 := n1_; have GW469 := n2_; have GE469 := n3_; clear n0_ n1_ n2_ n3_; clear hb hbox hg; have hcz20_0 : w19.cell? ⟨gb469, 0, none⟩ = some (.string a0_0) := (blk_cell BK469.out 0).trans rfl; have hcz20_1 : w19.cell? ⟨gb469, 1, none⟩ = some (.int .u8 a0_1) := (blk_cell BK469.out 1).trans rfl; have hcz20_2 : w19.cell? ⟨gb469, 2, none⟩ = some (.int .u32 a0_2) := (blk_cell BK469.out 2).trans rfl; have hcz20_3 : w19.cell? ⟨gb469, 3, none⟩ = some (.int .u32 a0_3) := (blk_cell BK469.out 3).trans rfl; have hcz20_4 : w19.cell? ⟨gb469, 4, none⟩ = some (.int .u32 a0_4) := (blk_cell BK469.out 4).trans rfl; have hfz20_0 := blk_frozen BK469.out 0; have hfz20_1 := blk_frozen BK469.out 1; have hfz20_2 := blk_frozen BK469.out 2; have hfz20_3 := blk_frozen BK469.out 3; have hfz20_4 := blk_frozen BK469.out 4))
    repeat (go_quiet (first | ((with_reducible refine gate_dst (N := 2) rfl ?_); refine box_event ?hg (N := 2) ?hd (cs := #[.string a0_0, .int .u8 a0_1, .int .u32 a0_2, .int .u32 a0_3, .int .u32 a0_4]) (t := 80) ?hr ?_; (case hd => rfl); (case hg => rfl); (case hr => first | (go_simp; done) | (go_simp; rfl)); intro gb469 hg w19 hbox hb; have n0_ := Aside0.mk (below_step (by repeat (first | (with_reducible first | exact HB.out | apply below_alloc | apply pw_below_drewN | apply below_drew1) | exact HB.out)) hb); have n1_ := Aside0.mk (hbox); have n2_ := Aside0.mk ((by rw [hg]; exact (below_size (by repeat (first | (with_reducible first | exact HB.out | apply below_alloc | apply pw_below_drewN | apply below_drew1) | exact HB.out))) : w.heap.size ≤ gb469)); have n3_ := Aside0.mk ((by rw [hg]; exact (below_size (by repeat (first | (with_reducible first | exact HB.out | apply below_alloc | apply pw_below_drewN | apply below_drew1) | exact HB.out))) : w.heap.size ≤ gb469)); clear HB; have HB := n0_; have BK469 := n1_; have GW469 := n2_; have GE469 := n3_; clear n0_ n1_ n2_ n3_; clear hb hbox hg; have hcz20_0 : w19.cell? ⟨gb469, 0, none⟩ = some (.string a0_0) := (blk_cell BK469.out 0).trans rfl; have hcz20_1 : w19.cell? ⟨gb469, 1, none⟩ = some (.int .u8 a0_1) := (blk_cell BK469.out 1).trans rfl; have hcz20_2 : w19.cell? ⟨gb469, 2, none⟩ = some (.int .u32 a0_2) := (blk_cell BK469.out 2).trans rfl; have hcz20_3 : w19.cell? ⟨gb469, 3, none⟩ = some (.int .u32 a0_3) := (blk_cell BK469.out 3).trans rfl; have hcz20_4 : w19.cell? ⟨gb469, 4, none⟩ = some (.int .u32 a0_4) := (blk_cell BK469.out 4).trans rfl; have hfz20_0 := blk_frozen BK469.out 0; have hfz20_1 := blk_frozen BK469.out 1; have hfz20_2 := blk_frozen BK469.out 2; have hfz20_3 := blk_frozen BK469.out 3; have hfz20_4 := blk_frozen BK469.out 4)); try go_wp2_with (first | ((with_reducible refine gate_dst (N := 2) rfl ?_); refine box_event ?hg (N := 2) ?hd (cs := #[.string a0_0, .int .u8 a0_1, .int .u32 a0_2, .int .u32 a0_3, .int .u32 a0_4]) (t := 80) ?hr ?_; (case hd => rfl); (case hg => rfl); (case hr => first | (go_simp; done) | (go_simp; rfl)); intro gb469 hg w19 hbox hb; have n0_ := Aside0.mk (below_step (by repeat (first | (with_reducible first | exact HB.out | apply below_alloc | apply pw_below_drewN | apply below_drew1) | exact HB.out)) hb); have n1_ := Aside0.mk (hbox); have n2_ := Aside0.mk ((by rw [hg]; exact (below_size (by repeat (first | (with_reducible first | exact HB.out | apply below_alloc | apply pw_below_drewN | apply below_drew1) | exact HB.out))) : w.heap.size ≤ gb469)); have n3_ := Aside0.mk ((by rw [hg]; exact (below_size (by repeat (first | (with_reducible first | exact HB.out | apply below_alloc | apply pw_below_drewN | apply below_drew1) | exact HB.out))) : w.heap.size ≤ gb469)); clear HB; have HB := n0_; have BK469 := n1_; have GW469 := n2_; have GE469 := n3_; clear n0_ n1_ n2_ n3_; clear hb hbox hg; have hcz20_0 : w19.cell? ⟨gb469, 0, none⟩ = some (.string a0_0) := (blk_cell BK469.out 0).trans rfl; have hcz20_1 : w19.cell? ⟨gb469, 1, none⟩ = some (.int .u8 a0_1) := (blk_cell BK469.out 1).trans rfl; have hcz20_2 : w19.cell? ⟨gb469, 2, none⟩ = some (.int .u32 a0_2) := (blk_cell BK469.out 2).trans rfl; have hcz20_3 : w19.cell? ⟨gb469, 3, none⟩ = some (.int .u32 a0_3) := (blk_cell BK469.out 3).trans rfl; have hcz20_4 : w19.cell? ⟨gb469, 4, none⟩ = some (.int .u32 a0_4) := (blk_cell BK469.out 4).trans rfl; have hfz20_0 := blk_frozen BK469.out 0; have hfz20_1 := blk_frozen BK469.out 1; have hfz20_2 := blk_frozen BK469.out 2; have hfz20_3 := blk_frozen BK469.out 3; have hfz20_4 := blk_frozen BK469.out 4)))
    go_ret
    exact ⟨by first | rfl | (simp [errW_none, errW_some] <;> rfl) | (simp [*, errW_none, errW_some] <;> rfl), by repeat (first | (with_reducible first | exact HB.out | apply below_alloc | apply pw_below_drewN | apply below_drew1 | refine below_set ?_ GE469.out) | exact HB.out)⟩
def inst_told.f (a0 : Int) (a1 : Int) : Option (Int) := if a0 = 85 then (some (wrap64 (wrap32 (Go.bits .andNot .u32 a1 4095)))) else (if a0 = 74 then ((inst_bits.f a1 31 1).bind fun t471 => ((inst_bits.f a1 21 10).bind fun t472 => ((inst_bits.f a1 20 1).bind fun t473 => ((inst_bits.f a1 12 8).bind fun t474 => ((word_Sign.f (Go.bits .or .u32 (Go.bits .or .u32 (Go.bits .or .u32 ((t471 * 1048576) % 4294967296) ((t472 * 2) % 4294967296)) ((t473 * 2048) % 4294967296)) ((t474 * 4096) % 4294967296)) 21).bind fun t475 => (some (wrap64 (wrap32 (t475))))))))) else (if a0 = 73 then (some (wrap64 ((wrap32 (a1)) / 1048576))) else (if a0 = 72 then ((inst_bits.f a1 20 5).bind fun t476 => (some (wrap64 (t476)))) else (if a0 = 83 then ((inst_bits.f a1 25 7).bind fun t477 => ((inst_bits.f a1 7 5).bind fun t478 => ((word_Sign.f (Go.bits .or .u32 ((t477 * 32) % 4294967296) t478) 12).bind fun t479 => (some (wrap64 (wrap32 (t479))))))) else (if a0 = 66 then ((inst_bits.f a1 31 1).bind fun t480 => ((inst_bits.f a1 25 6).bind fun t481 => ((inst_bits.f a1 8 4).bind fun t482 => ((inst_bits.f a1 7 1).bind fun t483 => ((word_Sign.f (Go.bits .or .u32 (Go.bits .or .u32 (Go.bits .or .u32 ((t480 * 4096) % 4294967296) ((t481 * 32) % 4294967296)) ((t482 * 2) % 4294967296)) ((t483 * 2048) % 4294967296)) 13).bind fun t484 => (some (wrap64 (wrap32 (t484))))))))) else (some 0))))))
set_option maxHeartbeats 8000000 in
set_option maxRecDepth 100000 in
theorem inst_told.calls (a0 : Int) (a1 : Int) (r : Int) (w : World) (h : inst_told.f a0 a1 = some r) :
    Calls Try.prog 40 #[.int .u8 a0, .int .u32 a1] w fun e w' => e = .returned (.int .i64 r) ∧ Drawn0 w w' := by
  have H : (if a0 = 85 then (some (wrap64 (wrap32 (Go.bits .andNot .u32 a1 4095)))) else (if a0 = 74 then ((inst_bits.f a1 31 1).bind fun t471 => ((inst_bits.f a1 21 10).bind fun t472 => ((inst_bits.f a1 20 1).bind fun t473 => ((inst_bits.f a1 12 8).bind fun t474 => ((word_Sign.f (Go.bits .or .u32 (Go.bits .or .u32 (Go.bits .or .u32 ((t471 * 1048576) % 4294967296) ((t472 * 2) % 4294967296)) ((t473 * 2048) % 4294967296)) ((t474 * 4096) % 4294967296)) 21).bind fun t475 => (some (wrap64 (wrap32 (t475))))))))) else (if a0 = 73 then (some (wrap64 ((wrap32 (a1)) / 1048576))) else (if a0 = 72 then ((inst_bits.f a1 20 5).bind fun t476 => (some (wrap64 (t476)))) else (if a0 = 83 then ((inst_bits.f a1 25 7).bind fun t477 => ((inst_bits.f a1 7 5).bind fun t478 => ((word_Sign.f (Go.bits .or .u32 ((t477 * 32) % 4294967296) t478) 12).bind fun t479 => (some (wrap64 (wrap32 (t479))))))) else (if a0 = 66 then ((inst_bits.f a1 31 1).bind fun t480 => ((inst_bits.f a1 25 6).bind fun t481 => ((inst_bits.f a1 8 4).bind fun t482 => ((inst_bits.f a1 7 1).bind fun t483 => ((word_Sign.f (Go.bits .or .u32 (Go.bits .or .u32 (Go.bits .or .u32 ((t480 * 4096) % 4294967296) ((t481 * 32) % 4294967296)) ((t482 * 2) % 4294967296)) ((t483 * 2048) % 4294967296)) 13).bind fun t484 => (some (wrap64 (wrap32 (t484))))))))) else (some 0))))))) = some r := h
  clear h
  by_cases c3 : a0 = 85
  · rw [if_pos c3] at H
    have c3b0 : (a0 == 85) = true := beq_iff_eq.mpr c3
    have c3b1 : (a0 != 85) = false := bne_eq_false_iff_eq.mpr c3
    clear c3
    obtain rfl := Option.some.inj H
    go_enter Try.func40, Try.ntmps40
    go_wp2
    go_ret
    exact ⟨by first | rfl | (simp; done) | (simp [*]; done), by repeat (first | exact Drawn0.refl _ | apply Drawn0.step)⟩
  · rw [if_neg c3] at H
    have c3b0 : (a0 == 85) = false := beq_eq_false_iff_ne.mpr c3
    have c3b1 : (a0 != 85) = true := bne_iff_ne.mpr c3
    by_cases c4 : a0 = 74
    · rw [if_pos c4] at H
      have c4b0 : (a0 == 74) = true := beq_iff_eq.mpr c4
      have c4b1 : (a0 != 74) = false := bne_eq_false_iff_eq.mpr c4
      clear c4
      replace H := Option.bind_eq_some_iff.mp H
      obtain ⟨t471, A50, H⟩ := H
      replace H : ((inst_bits.f a1 21 10).bind fun t472 => ((inst_bits.f a1 20 1).bind fun t473 => ((inst_bits.f a1 12 8).bind fun t474 => ((word_Sign.f (Go.bits .or .u32 (Go.bits .or .u32 (Go.bits .or .u32 ((t471 * 1048576) % 4294967296) ((t472 * 2) % 4294967296)) ((t473 * 2048) % 4294967296)) ((t474 * 4096) % 4294967296)) 21).bind fun t475 => (some (wrap64 (wrap32 (t475)))))))) = some r := H
      have A5 := Aside0.mk A50
      clear A50
      replace H := Option.bind_eq_some_iff.mp H
      obtain ⟨t472, A60, H⟩ := H
      replace H : ((inst_bits.f a1 20 1).bind fun t473 => ((inst_bits.f a1 12 8).bind fun t474 => ((word_Sign.f (Go.bits .or .u32 (Go.bits .or .u32 (Go.bits .or .u32 ((t471 * 1048576) % 4294967296) ((t472 * 2) % 4294967296)) ((t473 * 2048) % 4294967296)) ((t474 * 4096) % 4294967296)) 21).bind fun t475 => (some (wrap64 (wrap32 (t475))))))) = some r := H
      have A6 := Aside0.mk A60
      clear A60
      replace H := Option.bind_eq_some_iff.mp H
      obtain ⟨t473, A70, H⟩ := H
      replace H : ((inst_bits.f a1 12 8).bind fun t474 => ((word_Sign.f (Go.bits .or .u32 (Go.bits .or .u32 (Go.bits .or .u32 ((t471 * 1048576) % 4294967296) ((t472 * 2) % 4294967296)) ((t473 * 2048) % 4294967296)) ((t474 * 4096) % 4294967296)) 21).bind fun t475 => (some (wrap64 (wrap32 (t475)))))) = some r := H
      have A7 := Aside0.mk A70
      clear A70
      replace H := Option.bind_eq_some_iff.mp H
      obtain ⟨t474, A80, H⟩ := H
      replace H : ((word_Sign.f (Go.bits .or .u32 (Go.bits .or .u32 (Go.bits .or .u32 ((t471 * 1048576) % 4294967296) ((t472 * 2) % 4294967296)) ((t473 * 2048) % 4294967296)) ((t474 * 4096) % 4294967296)) 21).bind fun t475 => (some (wrap64 (wrap32 (t475))))) = some r := H
      have A8 := Aside0.mk A80
      clear A80
      replace H := Option.bind_eq_some_iff.mp H
      obtain ⟨t475, A90, H⟩ := H
      replace H : (some (wrap64 (wrap32 (t475)))) = some r := H
      have A9 := Aside0.mk A90
      clear A90
      obtain rfl := Option.some.inj H
      go_enter Try.func40, Try.ntmps40
      go_wp2_with (first | ((with_reducible refine gate_callee (f := 42) rfl ?_); refine goesL_ (some 17) rfl rfl Try.func42 (by kernel_rfl) rfl #[.int .u32 a1, .int .i64 31, .int .i64 1] rfl (by (try simp only [List.map_toArray, List.map_cons, List.map_nil]); first | done | rfl | (simp only [List.length_drop, List.length_take]; rfl)) ?_; (with_reducible refine (inst_bits.calls a1 31 1 t471 _ A5.out).mono ?_); rintro e w' ⟨rfl, ⟨nd, rfl⟩⟩; refine ⟨_, rfl, ?_⟩) | ((with_reducible refine gate_callee (f := 42) rfl ?_); refine goesL_ (some 20) rfl rfl Try.func42 (by kernel_rfl) rfl #[.int .u32 a1, .int .i64 21, .int .i64 10] rfl (by (try simp only [List.map_toArray, List.map_cons, List.map_nil]); first | done | rfl | (simp only [List.length_drop, List.length_take]; rfl)) ?_; (with_reducible refine (inst_bits.calls a1 21 10 t472 _ A6.out).mono ?_); rintro e w' ⟨rfl, ⟨nd, rfl⟩⟩; refine ⟨_, rfl, ?_⟩) | ((with_reducible refine gate_callee (f := 42) rfl ?_); refine goesL_ (some 24) rfl rfl Try.func42 (by kernel_rfl) rfl #[.int .u32 a1, .int .i64 20, .int .i64 1] rfl (by (try simp only [List.map_toArray, List.map_cons, List.map_nil]); first | done | rfl | (simp only [List.length_drop, List.length_take]; rfl)) ?_; (with_reducible refine (inst_bits.calls a1 20 1 t473 _ A7.out).mono ?_); rintro e w' ⟨rfl, ⟨nd, rfl⟩⟩; refine ⟨_, rfl, ?_⟩) | ((with_reducible refine gate_callee (f := 42) rfl ?_); refine goesL_ (some 28) rfl rfl Try.func42 (by kernel_rfl) rfl #[.int .u32 a1, .int .i64 12, .int .i64 8] rfl (by (try simp only [List.map_toArray, List.map_cons, List.map_nil]); first | done | rfl | (simp only [List.length_drop, List.length_take]; rfl)) ?_; (with_reducible refine (inst_bits.calls a1 12 8 t474 _ A8.out).mono ?_); rintro e w' ⟨rfl, ⟨nd, rfl⟩⟩; refine ⟨_, rfl, ?_⟩) | ((with_reducible refine gate_callee (f := 64) rfl ?_); refine goesL_ (some 32) rfl rfl Try.func64 (by kernel_rfl) rfl #[.int .u32 (Go.bits .or .u32 (Go.bits .or .u32 (Go.bits .or .u32 ((t471 * 1048576) % 4294967296) ((t472 * 2) % 4294967296)) ((t473 * 2048) % 4294967296)) ((t474 * 4096) % 4294967296)), .int .i64 21] rfl (by (try simp only [List.map_toArray, List.map_cons, List.map_nil]); first | done | rfl | (simp only [List.length_drop, List.length_take]; rfl)) ?_; (with_reducible refine (word_Sign.calls (Go.bits .or .u32 (Go.bits .or .u32 (Go.bits .or .u32 ((t471 * 1048576) % 4294967296) ((t472 * 2) % 4294967296)) ((t473 * 2048) % 4294967296)) ((t474 * 4096) % 4294967296)) 21 t475 _ A9.out).mono ?_); rintro e w' ⟨rfl, ⟨nd, rfl⟩⟩; refine ⟨_, rfl, ?_⟩))
      go_ret
      exact ⟨by first | rfl | (simp; done) | (simp [*]; done), by repeat (first | exact Drawn0.refl _ | apply Drawn0.step)⟩
    · rw [if_neg c4] at H
      have c4b0 : (a0 == 74) = false := beq_eq_false_iff_ne.mpr c4
      have c4b1 : (a0 != 74) = true := bne_iff_ne.mpr c4
      by_cases c10 : a0 = 73
      · rw [if_pos c10] at H
        have c10b0 : (a0 == 73) = true := beq_iff_eq.mpr c10
        have c10b1 : (a0 != 73) = false := bne_eq_false_iff_eq.mpr c10
        clear c10
        obtain rfl := Option.some.inj H
        go_enter Try.func40, Try.ntmps40
        go_wp2
        go_ret
        exact ⟨by first | rfl | (simp; done) | (simp [*]; done), by repeat (first | exact Drawn0.refl _ | apply Drawn0.step)⟩
      · rw [if_neg c10] at H
        have c10b0 : (a0 == 73) = false := beq_eq_false_iff_ne.mpr c10
        have c10b1 : (a0 != 73) = true := bne_iff_ne.mpr c10
        by_cases c11 : a0 = 72
        · rw [if_pos c11] at H
          have c11b0 : (a0 == 72) = true := beq_iff_eq.mpr c11
          have c11b1 : (a0 != 72) = false := bne_eq_false_iff_eq.mpr c11
          clear c11
          replace H := Option.bind_eq_some_iff.mp H
          obtain ⟨t476, A120, H⟩ := H
          replace H : (some (wrap64 (t476))) = some r := H
          have A12 := Aside0.mk A120
          clear A120
          obtain rfl := Option.some.inj H
          go_enter Try.func40, Try.ntmps40
          go_wp2_with (first | ((with_reducible refine gate_callee (f := 42) rfl ?_); refine goesL_ (some 44) rfl rfl Try.func42 (by kernel_rfl) rfl #[.int .u32 a1, .int .i64 20, .int .i64 5] rfl (by (try simp only [List.map_toArray, List.map_cons, List.map_nil]); first | done | rfl | (simp only [List.length_drop, List.length_take]; rfl)) ?_; (with_reducible refine (inst_bits.calls a1 20 5 t476 _ A12.out).mono ?_); rintro e w' ⟨rfl, ⟨nd, rfl⟩⟩; refine ⟨_, rfl, ?_⟩))
          go_ret
          exact ⟨by first | rfl | (simp; done) | (simp [*]; done), by repeat (first | exact Drawn0.refl _ | apply Drawn0.step)⟩
        · rw [if_neg c11] at H
          have c11b0 : (a0 == 72) = false := beq_eq_false_iff_ne.mpr c11
          have c11b1 : (a0 != 72) = true := bne_iff_ne.mpr c11
          by_cases c13 : a0 = 83
          · rw [if_pos c13] at H
            have c13b0 : (a0 == 83) = true := beq_iff_eq.mpr c13
            have c13b1 : (a0 != 83) = false := bne_eq_false_iff_eq.mpr c13
            clear c13
            replace H := Option.bind_eq_some_iff.mp H
            obtain ⟨t477, A140, H⟩ := H
            replace H : ((inst_bits.f a1 7 5).bind fun t478 => ((word_Sign.f (Go.bits .or .u32 ((t477 * 32) % 4294967296) t478) 12).bind fun t479 => (some (wrap64 (wrap32 (t479)))))) = some r := H
            have A14 := Aside0.mk A140
            clear A140
            replace H := Option.bind_eq_some_iff.mp H
            obtain ⟨t478, A150, H⟩ := H
            replace H : ((word_Sign.f (Go.bits .or .u32 ((t477 * 32) % 4294967296) t478) 12).bind fun t479 => (some (wrap64 (wrap32 (t479))))) = some r := H
            have A15 := Aside0.mk A150
            clear A150
            replace H := Option.bind_eq_some_iff.mp H
            obtain ⟨t479, A160, H⟩ := H
            replace H : (some (wrap64 (wrap32 (t479)))) = some r := H
            have A16 := Aside0.mk A160
            clear A160
            obtain rfl := Option.some.inj H
            go_enter Try.func40, Try.ntmps40
            go_wp2_with (first | ((with_reducible refine gate_callee (f := 42) rfl ?_); refine goesL_ (some 49) rfl rfl Try.func42 (by kernel_rfl) rfl #[.int .u32 a1, .int .i64 25, .int .i64 7] rfl (by (try simp only [List.map_toArray, List.map_cons, List.map_nil]); first | done | rfl | (simp only [List.length_drop, List.length_take]; rfl)) ?_; (with_reducible refine (inst_bits.calls a1 25 7 t477 _ A14.out).mono ?_); rintro e w' ⟨rfl, ⟨nd, rfl⟩⟩; refine ⟨_, rfl, ?_⟩) | ((with_reducible refine gate_callee (f := 42) rfl ?_); refine goesL_ (some 52) rfl rfl Try.func42 (by kernel_rfl) rfl #[.int .u32 a1, .int .i64 7, .int .i64 5] rfl (by (try simp only [List.map_toArray, List.map_cons, List.map_nil]); first | done | rfl | (simp only [List.length_drop, List.length_take]; rfl)) ?_; (with_reducible refine (inst_bits.calls a1 7 5 t478 _ A15.out).mono ?_); rintro e w' ⟨rfl, ⟨nd, rfl⟩⟩; refine ⟨_, rfl, ?_⟩) | ((with_reducible refine gate_callee (f := 64) rfl ?_); refine goesL_ (some 54) rfl rfl Try.func64 (by kernel_rfl) rfl #[.int .u32 (Go.bits .or .u32 ((t477 * 32) % 4294967296) t478), .int .i64 12] rfl (by (try simp only [List.map_toArray, List.map_cons, List.map_nil]); first | done | rfl | (simp only [List.length_drop, List.length_take]; rfl)) ?_; (with_reducible refine (word_Sign.calls (Go.bits .or .u32 ((t477 * 32) % 4294967296) t478) 12 t479 _ A16.out).mono ?_); rintro e w' ⟨rfl, ⟨nd, rfl⟩⟩; refine ⟨_, rfl, ?_⟩))
            go_ret
            exact ⟨by first | rfl | (simp; done) | (simp [*]; done), by repeat (first | exact Drawn0.refl _ | apply Drawn0.step)⟩
          · rw [if_neg c13] at H
            have c13b0 : (a0 == 83) = false := beq_eq_false_iff_ne.mpr c13
            have c13b1 : (a0 != 83) = true := bne_iff_ne.mpr c13
            by_cases c17 : a0 = 66
            · rw [if_pos c17] at H
              have c17b0 : (a0 == 66) = true := beq_iff_eq.mpr c17
              have c17b1 : (a0 != 66) = false := bne_eq_false_iff_eq.mpr c17
              clear c17
              replace H := Option.bind_eq_some_iff.mp H
              obtain ⟨t480, A180, H⟩ := H
              replace H : ((inst_bits.f a1 25 6).bind fun t481 => ((inst_bits.f a1 8 4).bind fun t482 => ((inst_bits.f a1 7 1).bind fun t483 => ((word_Sign.f (Go.bits .or .u32 (Go.bits .or .u32 (Go.bits .or .u32 ((t480 * 4096) % 4294967296) ((t481 * 32) % 4294967296)) ((t482 * 2) % 4294967296)) ((t483 * 2048) % 4294967296)) 13).bind fun t484 => (some (wrap64 (wrap32 (t484)))))))) = some r := H
              have A18 := Aside0.mk A180
              clear A180
              replace H := Option.bind_eq_some_iff.mp H
              obtain ⟨t481, A190, H⟩ := H
              replace H : ((inst_bits.f a1 8 4).bind fun t482 => ((inst_bits.f a1 7 1).bind fun t483 => ((word_Sign.f (Go.bits .or .u32 (Go.bits .or .u32 (Go.bits .or .u32 ((t480 * 4096) % 4294967296) ((t481 * 32) % 4294967296)) ((t482 * 2) % 4294967296)) ((t483 * 2048) % 4294967296)) 13).bind fun t484 => (some (wrap64 (wrap32 (t484))))))) = some r := H
              have A19 := Aside0.mk A190
              clear A190
              replace H := Option.bind_eq_some_iff.mp H
              obtain ⟨t482, A200, H⟩ := H
              replace H : ((inst_bits.f a1 7 1).bind fun t483 => ((word_Sign.f (Go.bits .or .u32 (Go.bits .or .u32 (Go.bits .or .u32 ((t480 * 4096) % 4294967296) ((t481 * 32) % 4294967296)) ((t482 * 2) % 4294967296)) ((t483 * 2048) % 4294967296)) 13).bind fun t484 => (some (wrap64 (wrap32 (t484)))))) = some r := H
              have A20 := Aside0.mk A200
              clear A200
              replace H := Option.bind_eq_some_iff.mp H
              obtain ⟨t483, A210, H⟩ := H
              replace H : ((word_Sign.f (Go.bits .or .u32 (Go.bits .or .u32 (Go.bits .or .u32 ((t480 * 4096) % 4294967296) ((t481 * 32) % 4294967296)) ((t482 * 2) % 4294967296)) ((t483 * 2048) % 4294967296)) 13).bind fun t484 => (some (wrap64 (wrap32 (t484))))) = some r := H
              have A21 := Aside0.mk A210
              clear A210
              replace H := Option.bind_eq_some_iff.mp H
              obtain ⟨t484, A220, H⟩ := H
              replace H : (some (wrap64 (wrap32 (t484)))) = some r := H
              have A22 := Aside0.mk A220
              clear A220
              obtain rfl := Option.some.inj H
              go_enter Try.func40, Try.ntmps40
              go_wp2_with (first | ((with_reducible refine gate_callee (f := 42) rfl ?_); refine goesL_ (some 60) rfl rfl Try.func42 (by kernel_rfl) rfl #[.int .u32 a1, .int .i64 31, .int .i64 1] rfl (by (try simp only [List.map_toArray, List.map_cons, List.map_nil]); first | done | rfl | (simp only [List.length_drop, List.length_take]; rfl)) ?_; (with_reducible refine (inst_bits.calls a1 31 1 t480 _ A18.out).mono ?_); rintro e w' ⟨rfl, ⟨nd, rfl⟩⟩; refine ⟨_, rfl, ?_⟩) | ((with_reducible refine gate_callee (f := 42) rfl ?_); refine goesL_ (some 63) rfl rfl Try.func42 (by kernel_rfl) rfl #[.int .u32 a1, .int .i64 25, .int .i64 6] rfl (by (try simp only [List.map_toArray, List.map_cons, List.map_nil]); first | done | rfl | (simp only [List.length_drop, List.length_take]; rfl)) ?_; (with_reducible refine (inst_bits.calls a1 25 6 t481 _ A19.out).mono ?_); rintro e w' ⟨rfl, ⟨nd, rfl⟩⟩; refine ⟨_, rfl, ?_⟩) | ((with_reducible refine gate_callee (f := 42) rfl ?_); refine goesL_ (some 67) rfl rfl Try.func42 (by kernel_rfl) rfl #[.int .u32 a1, .int .i64 8, .int .i64 4] rfl (by (try simp only [List.map_toArray, List.map_cons, List.map_nil]); first | done | rfl | (simp only [List.length_drop, List.length_take]; rfl)) ?_; (with_reducible refine (inst_bits.calls a1 8 4 t482 _ A20.out).mono ?_); rintro e w' ⟨rfl, ⟨nd, rfl⟩⟩; refine ⟨_, rfl, ?_⟩) | ((with_reducible refine gate_callee (f := 42) rfl ?_); refine goesL_ (some 71) rfl rfl Try.func42 (by kernel_rfl) rfl #[.int .u32 a1, .int .i64 7, .int .i64 1] rfl (by (try simp only [List.map_toArray, List.map_cons, List.map_nil]); first | done | rfl | (simp only [List.length_drop, List.length_take]; rfl)) ?_; (with_reducible refine (inst_bits.calls a1 7 1 t483 _ A21.out).mono ?_); rintro e w' ⟨rfl, ⟨nd, rfl⟩⟩; refine ⟨_, rfl, ?_⟩) | ((with_reducible refine gate_callee (f := 64) rfl ?_); refine goesL_ (some 75) rfl rfl Try.func64 (by kernel_rfl) rfl #[.int .u32 (Go.bits .or .u32 (Go.bits .or .u32 (Go.bits .or .u32 ((t480 * 4096) % 4294967296) ((t481 * 32) % 4294967296)) ((t482 * 2) % 4294967296)) ((t483 * 2048) % 4294967296)), .int .i64 13] rfl (by (try simp only [List.map_toArray, List.map_cons, List.map_nil]); first | done | rfl | (simp only [List.length_drop, List.length_take]; rfl)) ?_; (with_reducible refine (word_Sign.calls (Go.bits .or .u32 (Go.bits .or .u32 (Go.bits .or .u32 ((t480 * 4096) % 4294967296) ((t481 * 32) % 4294967296)) ((t482 * 2) % 4294967296)) ((t483 * 2048) % 4294967296)) 13 t484 _ A22.out).mono ?_); rintro e w' ⟨rfl, ⟨nd, rfl⟩⟩; refine ⟨_, rfl, ?_⟩))
              go_ret
              exact ⟨by first | rfl | (simp; done) | (simp [*]; done), by repeat (first | exact Drawn0.refl _ | apply Drawn0.step)⟩
            · rw [if_neg c17] at H
              have c17b0 : (a0 == 66) = false := beq_eq_false_iff_ne.mpr c17
              have c17b1 : (a0 != 66) = true := bne_iff_ne.mpr c17
              obtain rfl := Option.some.inj H
              go_enter Try.func40, Try.ntmps40
              go_wp2
              go_ret
              exact ⟨by first | rfl | (simp; done) | (simp [*]; done), by repeat (first | exact Drawn0.refl _ | apply Drawn0.step)⟩
def inst_Decode.found (k : Nat) (a0 x : Int) (s : List UInt8 × Int × Int × Int × Int) : Option (Int × Int × Int × Int × Int × Int) :=
  (inst_told.f s.2.1 a0).bind fun m => (inst_needs.f k s.2.1).bind fun b =>
    (if b.1 = true then (inst_bits.f a0 7 5).bind (fun t => some (wrap64 t)) else some 0).bind fun rd =>
    (if b.2.1 = true then (inst_bits.f a0 15 5).bind (fun t => some (wrap64 t)) else some 0).bind fun rs1 =>
    (if b.2.2.1 = true then (inst_bits.f a0 20 5).bind (fun t => some (wrap64 t)) else some 0).bind fun rs2 =>
    some (x, rd, rs1, rs2, m, 0)
def inst_Decode.l0 : Nat → Int → Int → Option (Int × Int × Int × Int × Int × Int)
  | 0, _, _ => none
  | k + 1, a0, x => if x ≤ 45 then
      (inst_fits.f k ⟨(shapeOf x).1.toArray⟩ (shapeOf x).2.1 (shapeOf x).2.2.1 (shapeOf x).2.2.2.1 (shapeOf x).2.2.2.2 a0).bind fun t =>
        if t = true then inst_Decode.found k a0 x (shapeOf x) else inst_Decode.l0 k a0 (x + 1)
    else some (0, 0, 0, 0, 0, 3)
def inst_Decode.f (k : Nat) (a0 : Int) : Option (Int × Int × Int × Int × Int × Int) := inst_Decode.l0 k a0 1
theorem flat5 {α : Type} (f : α → List Value) (hf : ∀ x, (f x).length = 5) (z : α) : ∀ (l : List α) (n j : Nat), n < l.length → j < 5 → ((l.map f).flatten)[n * 5 + j]? = (f (l.getD n z))[j]? := by
  intro l
  induction l with
  | nil => intro n j h; simp at h
  | cons x xs ih =>
    intro n j h hj
    have hx := hf x
    cases n with
    | zero =>
      simp only [List.map_cons, List.flatten_cons, Nat.zero_mul, Nat.zero_add, List.getD_cons_zero]
      rw [List.getElem?_append_left (by omega)]
    | succ n =>
      simp only [List.map_cons, List.flatten_cons, List.getD_cons_succ]
      rw [List.getElem?_append_right (by omega)]
      rw [show (n + 1) * 5 + j - (f x).length = n * 5 + j from by omega]
      exact ih n j (by simpa using h) hj
theorem shapes_parts (n : Nat) (hn : n < 46) (j : Nat) (hj : j < 5) : shapes230[n * 5 + j]? = (shapeRow (shapes.getD n noShape))[j]? := by
  unfold shapes230
  rw [List.getElem?_toArray]
  exact flat5 shapeRow (fun x => rfl) noShape shapes n j (by simpa [shapes] using hn) hj
set_option maxHeartbeats 1000000 in
set_option maxRecDepth 100000 in
theorem inst_Decode.calls (k : Nat) (a0 : Int) (r1 : Int) (r2 : Int) (r3 : Int) (r4 : Int) (r5 : Int) (r6 : Int) (w : World) (h : inst_Decode.f k a0 = some (r1, r2, r3, r4, r5, r6)) :
    Calls Try.prog 22 #[.int .u32 a0] w fun e w' => e = .returned (.tuple #[.agg #[.int .i64 r1, .int .i64 r2, .int .i64 r3, .int .i64 r4, .int .i64 r5], .int .i64 r6]) ∧ Below w.heap.size w w' := by
  have hu39 := Try.underlying39
  have hu80 := Try.underlying80
  have hz := (zero_of_info info52).1
  have H := Aside0.mk h
  clear h
  go_enter Try.func22, Try.ntmps22
  go_wp2_with (go_at_call 38; refine (table_calls _).mono ?_; rintro e w' ⟨rfl, hb⟩; have HB := Aside0.mk hb; clear hb; have hst := run_storeCells_new (P := Try.prog) w' 81 zeros230 shapes230 size52 rfl one52)

  clear hst
  have hgT : w.heap.size < w'.heap.size := by have := HB.out.size; simp at this; omega
  have HR := Aside0.mk (show (w'.alloc (.cells shapes230 81)).heap[w.heap.size]? = some (.cells #[.int .i64 0, .int .i64 0, .int .i64 0, .int .i64 0, .int .i64 0] 39 (0, 0)) from blk_alloc ((HB.out.block _ (by simp)).trans (heap_alloc_last w _)) _)
  have HT := Aside0.mk (show (w'.alloc (.cells shapes230 81)).heap[w'.heap.size]? = some (.cells shapes230 81 (0, 0)) from heap_alloc_last w' _)
  have HW := Aside0.mk (show Below w.heap.size w (w'.alloc (.cells shapes230 81)) from below_alloc (((Below.refl _ _).alloc (Nat.le_refl _) _).trans (HB.out.mono (by simp))) _)
  clear HB
  generalize hgt : w'.heap.size = gT at *
  clear hgt
  go_loopw [5] (fun v wr => ∃ (n kq : Nat), v = .int .i64 (n : Int) ∧ 1 ≤ n ∧ n ≤ 46 ∧ Aside0 (inst_Decode.l0 kq a0 (n : Int) = some (r1, r2, r3, r4, r5, r6)) ∧ Aside0 (wr.heap[w.heap.size]? = some (.cells #[.int .i64 0, .int .i64 0, .int .i64 0, .int .i64 0, .int .i64 0] 39 (0, 0))) ∧ Aside0 (wr.heap[gT]? = some (.cells shapes230 81 (0, 0))) ∧ Aside0 (Below w.heap.size w wr)) (fun v _ => 46 - (intOf v).toNat)
  case atStart => exact ⟨1, k, rfl, by omega, by omega, H, HR, HT, HW⟩
  case round =>
    clear H HR HT HW
    obtain ⟨n, kq, rfl, hn1, hn2, H, HR, HT, HB⟩ := hrel
    cases kq with
    | zero => exact absurd H.out (by simp [inst_Decode.l0])
    | succ kq =>
    by_cases hn : n < 46
    · have h0 := H.out
      clear H
      simp only [inst_Decode.l0] at h0
      rw [if_pos (by omega)] at h0
      have hsh : shapeOf (n : Int) = shapes.getD n noShape := if_pos (by omega)
      rw [hsh] at h0
      clear hsh
      have hc : ∀ j, j < 5 → wr.cell? ⟨gT, n * 5 + j, none⟩ = (shapeRow (shapes.getD n noShape))[j]? := fun j hj => (blk_cell HT.out _).trans (shapes_parts n hn j hj)
      generalize shapes.getD n noShape = s at *
      obtain ⟨s1, s2, s3, s4, s5⟩ := s
      have hc0 : wr.cell? ⟨gT, n * 5, none⟩ = some (.string ⟨s1.toArray⟩) := hc 0 (by omega)
      have hc1 : wr.cell? ⟨gT, n * 5 + 1, none⟩ = some (.int .u8 s2) := hc 1 (by omega)
      have hc2 : wr.cell? ⟨gT, n * 5 + 2, none⟩ = some (.int .u32 s3) := hc 2 (by omega)
      have hc3 : wr.cell? ⟨gT, n * 5 + 3, none⟩ = some (.int .u32 s4) := hc 3 (by omega)
      have hc4 : wr.cell? ⟨gT, n * 5 + 4, none⟩ = some (.int .u32 s5) := hc 4 (by omega)
      clear hc
      dsimp only at h0
      replace h0 := Option.bind_eq_some_iff.mp h0
      obtain ⟨t, ht, h0⟩ := h0
      have HF := Aside0.mk ht
      clear ht
      have H := Aside0.mk h0
      clear h0
      cases t with
      | false =>
        have h1 := H.out
        clear H
        have H := Aside0.mk (show inst_Decode.l0 kq a0 ((n + 1 : Nat) : Int) = some (r1, r2, r3, r4, r5, r6) from h1)
        clear h1
        go_wp2_with (go_at_call 39; refine (inst_fits.calls kq _ _ _ _ _ _ _ _ HF.out).mono ?_; rintro e w3 ⟨rfl, hb3⟩; have HB3 := Aside0.mk hb3; clear hb3)
        go_roundw
        case rel =>
          have hb := HB3.out
          refine ⟨n + 1, kq, by go_num, by omega, by omega, H, ⟨blk_below (blk_alloc HR.out _) hb⟩, ⟨blk_below (blk_alloc HT.out _) hb⟩, ⟨below_then (below_alloc HB.out _) (by have := HB.out.size; simp; omega) hb⟩⟩
        case measure => simp [intOf]; omega
      | true =>
        have h1 : inst_Decode.found kq a0 (n : Int) (s1, s2, s3, s4, s5) = some (r1, r2, r3, r4, r5, r6) := H.out
        clear H
        simp only [inst_Decode.found] at h1
        replace h1 := Option.bind_eq_some_iff.mp h1
        obtain ⟨m, hm, h1⟩ := h1
        replace h1 := Option.bind_eq_some_iff.mp h1
        obtain ⟨⟨b1, b2, b3, b4⟩, hnd, h1⟩ := h1
        replace h1 := Option.bind_eq_some_iff.mp h1
        obtain ⟨d1, hd1, h1⟩ := h1
        replace h1 := Option.bind_eq_some_iff.mp h1
        obtain ⟨d2, hd2, h1⟩ := h1
        replace h1 := Option.bind_eq_some_iff.mp h1
        obtain ⟨d3, hd3, h1⟩ := h1
        simp only [Option.some.injEq, Prod.mk.injEq] at h1
        obtain ⟨rfl, rfl, rfl, rfl, rfl, rfl⟩ := h1
        have HM := Aside0.mk hm
        have HN := Aside0.mk hnd
        have HD1 := Aside0.mk hd1
        have HD2 := Aside0.mk hd2
        have HD3 := Aside0.mk hd3
        clear hm hnd hd1 hd2 hd3
        cases b1 <;> cases b2 <;> cases b3
        · have hx1 : True := trivial
          have h1 := HD1.out
          clear HD1
          rw [if_neg (by simp)] at h1
          obtain rfl := Option.some.inj h1
          have h2 := HD2.out
          clear HD2
          rw [if_neg (by simp)] at h2
          obtain rfl := Option.some.inj h2
          have h3 := HD3.out
          clear HD3
          rw [if_neg (by simp)] at h3
          obtain rfl := Option.some.inj h3
          go_wp2_with (first | (go_at_call 39; refine (inst_fits.calls kq _ _ _ _ _ _ _ _ HF.out).mono ?_; rintro e w3 ⟨rfl, hb3⟩; have HX := Aside0.mk ((hb3.block _ (by simp)).trans (heap_alloc_last wr _)); have HR3 := Aside0.mk (blk_below (blk_alloc HR.out _) hb3); have HB3 := Aside0.mk (below_then (below_alloc HB.out _) (by have := HB.out.size; simp; omega) hb3); clear hb3 hx1; have hx1 := blk_cell HX.out 1) | (go_at_call 40; refine (inst_told.calls s2 a0 _ _ HM.out).mono ?_; rintro e w4 ⟨rfl, hd4⟩; have HX4 := Aside0.mk (blk_below HX.out hd4.below); have HR4 := Aside0.mk (blk_below HR3.out hd4.below); have HB4 := Aside0.mk (below_then HB3.out HB3.out.size hd4.below); have hlt4 : w.heap.size < w4.heap.size := blk_lt HR4.out; clear hd4 hx1; have hx1 := blk_cell HX4.out 1; have hx2 := blk_lt HX4.out) | (go_at_call 41; refine (inst_needs.calls kq s2 _ _ _ _ _ HN.out).mono ?_; rintro e w5 ⟨rfl, hd5⟩; have HI5 := Aside0.mk (blk_below (heap_alloc_last w4 _) hd5.below); have HR5 := Aside0.mk (blk_below (blk_alloc HR4.out _) hd5.below); have HB5 := Aside0.mk (below_then (below_alloc HB4.out _) (by have := HB4.out.size; simp; omega) hd5.below); clear hd5 hx1 hx2; have hi0 := blk_cell HI5.out 0; have hi1 := blk_cell HI5.out 1; have hi2 := blk_cell HI5.out 2; have hi3 := blk_cell HI5.out 3; have hi4 := blk_cell HI5.out 4; have hj1 := blk_frozen HI5.out 1; have hj2 := blk_frozen HI5.out 2; have hj3 := blk_frozen HI5.out 3; have hr0 := blk_cell HR5.out 0; have hs0 := blk_frozen HR5.out 0; have hr1 := blk_cell HR5.out 1; have hs1 := blk_frozen HR5.out 1; have hr2 := blk_cell HR5.out 2; have hs2 := blk_frozen HR5.out 2; have hr3 := blk_cell HR5.out 3; have hs3 := blk_frozen HR5.out 3; have hr4 := blk_cell HR5.out 4; have hs4 := blk_frozen HR5.out 4))
          have hz := HR5.out
          replace hz := blk_set hz 0 (.int .i64 ((n : Int)))
          replace hz := blk_set hz 1 (.int .i64 (0))
          replace hz := blk_set hz 2 (.int .i64 (0))
          replace hz := blk_set hz 3 (.int .i64 (0))
          replace hz := blk_set hz 4 (.int .i64 (m))
          have hw := HB5.out
          refine bodyPost_ret (results_ct rfl _ _ w.heap.size 39 _ (0, 0) _ rfl (by simpa using hz) Try.underlying39 rfl (by kernel_rfl)) rfl ⟨rfl, ?_⟩
          exact ((((hw.setCell (Nat.le_refl _) _).setCell (Nat.le_refl _) _).setCell (Nat.le_refl _) _).setCell (Nat.le_refl _) _).setCell (Nat.le_refl _) _
        · have hx1 : True := trivial
          have h1 := HD1.out
          clear HD1
          rw [if_neg (by simp)] at h1
          obtain rfl := Option.some.inj h1
          have h2 := HD2.out
          clear HD2
          rw [if_neg (by simp)] at h2
          obtain rfl := Option.some.inj h2
          have h3 := HD3.out
          clear HD3
          rw [if_pos rfl] at h3
          replace h3 := Option.bind_eq_some_iff.mp h3
          obtain ⟨q3, h3, h3_⟩ := h3
          obtain rfl := Option.some.inj h3_
          have HD3 := Aside0.mk h3
          clear h3
          go_wp2_with (first | (go_at_call 39; refine (inst_fits.calls kq _ _ _ _ _ _ _ _ HF.out).mono ?_; rintro e w3 ⟨rfl, hb3⟩; have HX := Aside0.mk ((hb3.block _ (by simp)).trans (heap_alloc_last wr _)); have HR3 := Aside0.mk (blk_below (blk_alloc HR.out _) hb3); have HB3 := Aside0.mk (below_then (below_alloc HB.out _) (by have := HB.out.size; simp; omega) hb3); clear hb3 hx1; have hx1 := blk_cell HX.out 1) | (go_at_call 40; refine (inst_told.calls s2 a0 _ _ HM.out).mono ?_; rintro e w4 ⟨rfl, hd4⟩; have HX4 := Aside0.mk (blk_below HX.out hd4.below); have HR4 := Aside0.mk (blk_below HR3.out hd4.below); have HB4 := Aside0.mk (below_then HB3.out HB3.out.size hd4.below); have hlt4 : w.heap.size < w4.heap.size := blk_lt HR4.out; clear hd4 hx1; have hx1 := blk_cell HX4.out 1; have hx2 := blk_lt HX4.out) | (go_at_call 41; refine (inst_needs.calls kq s2 _ _ _ _ _ HN.out).mono ?_; rintro e w5 ⟨rfl, hd5⟩; have HI5 := Aside0.mk (blk_below (heap_alloc_last w4 _) hd5.below); have HR5 := Aside0.mk (blk_below (blk_alloc HR4.out _) hd5.below); have HB5 := Aside0.mk (below_then (below_alloc HB4.out _) (by have := HB4.out.size; simp; omega) hd5.below); clear hd5 hx1 hx2; have hi0 := blk_cell HI5.out 0; have hi1 := blk_cell HI5.out 1; have hi2 := blk_cell HI5.out 2; have hi3 := blk_cell HI5.out 3; have hi4 := blk_cell HI5.out 4; have hj1 := blk_frozen HI5.out 1; have hj2 := blk_frozen HI5.out 2; have hj3 := blk_frozen HI5.out 3; have hr0 := blk_cell HR5.out 0; have hs0 := blk_frozen HR5.out 0; have hr1 := blk_cell HR5.out 1; have hs1 := blk_frozen HR5.out 1; have hr2 := blk_cell HR5.out 2; have hs2 := blk_frozen HR5.out 2; have hr3 := blk_cell HR5.out 3; have hs3 := blk_frozen HR5.out 3; have hr4 := blk_cell HR5.out 4; have hs4 := blk_frozen HR5.out 4) | (go_at_call 42; (with_reducible refine (inst_bits.calls a0 20 5 _ _ HD3.out).mono ?_); rintro e w6 ⟨rfl, hd⟩; have HI6 := Aside0.mk (blk_below (HI5.out) hd.below); have HR6 := Aside0.mk (blk_below (HR5.out) hd.below); have HB6 := Aside0.mk (below_then (HB5.out) (below_size (HB5.out)) hd.below); clear hd; clear hi0 hi1 hi2 hi3 hi4 hj1 hj2 hj3 hr0 hr1 hr2 hr3 hr4 hs0 hs1 hs2 hs3 hs4; have hi0 := blk_cell HI6.out 0; have hi1 := blk_cell HI6.out 1; have hi2 := blk_cell HI6.out 2; have hi3 := blk_cell HI6.out 3; have hi4 := blk_cell HI6.out 4; have hj1 := blk_frozen HI6.out 1; have hj2 := blk_frozen HI6.out 2; have hj3 := blk_frozen HI6.out 3; have hr0 := blk_cell HR6.out 0; have hs0 := blk_frozen HR6.out 0; have hr1 := blk_cell HR6.out 1; have hs1 := blk_frozen HR6.out 1; have hr2 := blk_cell HR6.out 2; have hs2 := blk_frozen HR6.out 2; have hr3 := blk_cell HR6.out 3; have hs3 := blk_frozen HR6.out 3; have hr4 := blk_cell HR6.out 4; have hs4 := blk_frozen HR6.out 4))
          have hz := blk_far HR6.out (p := ⟨w4.heap.size, 3, none⟩) (Nat.ne_of_lt hlt4) (.int .i64 (wrap64 q3))
          replace hz := blk_set hz 0 (.int .i64 ((n : Int)))
          replace hz := blk_set hz 1 (.int .i64 (0))
          replace hz := blk_set hz 2 (.int .i64 (0))
          replace hz := blk_set hz 3 (.int .i64 (wrap64 q3))
          replace hz := blk_set hz 4 (.int .i64 (m))
          have hw := below_set (j := 3) (v := .int .i64 (wrap64 q3)) HB6.out (Nat.le_of_lt hlt4)
          refine bodyPost_ret (results_ct rfl _ _ w.heap.size 39 _ (0, 0) _ rfl (by simpa using hz) Try.underlying39 rfl (by kernel_rfl)) rfl ⟨rfl, ?_⟩
          exact ((((hw.setCell (Nat.le_refl _) _).setCell (Nat.le_refl _) _).setCell (Nat.le_refl _) _).setCell (Nat.le_refl _) _).setCell (Nat.le_refl _) _
        · have hx1 : True := trivial
          have h1 := HD1.out
          clear HD1
          rw [if_neg (by simp)] at h1
          obtain rfl := Option.some.inj h1
          have h2 := HD2.out
          clear HD2
          rw [if_pos rfl] at h2
          replace h2 := Option.bind_eq_some_iff.mp h2
          obtain ⟨q2, h2, h2_⟩ := h2
          obtain rfl := Option.some.inj h2_
          have HD2 := Aside0.mk h2
          clear h2
          have h3 := HD3.out
          clear HD3
          rw [if_neg (by simp)] at h3
          obtain rfl := Option.some.inj h3
          go_wp2_with (first | (go_at_call 39; refine (inst_fits.calls kq _ _ _ _ _ _ _ _ HF.out).mono ?_; rintro e w3 ⟨rfl, hb3⟩; have HX := Aside0.mk ((hb3.block _ (by simp)).trans (heap_alloc_last wr _)); have HR3 := Aside0.mk (blk_below (blk_alloc HR.out _) hb3); have HB3 := Aside0.mk (below_then (below_alloc HB.out _) (by have := HB.out.size; simp; omega) hb3); clear hb3 hx1; have hx1 := blk_cell HX.out 1) | (go_at_call 40; refine (inst_told.calls s2 a0 _ _ HM.out).mono ?_; rintro e w4 ⟨rfl, hd4⟩; have HX4 := Aside0.mk (blk_below HX.out hd4.below); have HR4 := Aside0.mk (blk_below HR3.out hd4.below); have HB4 := Aside0.mk (below_then HB3.out HB3.out.size hd4.below); have hlt4 : w.heap.size < w4.heap.size := blk_lt HR4.out; clear hd4 hx1; have hx1 := blk_cell HX4.out 1; have hx2 := blk_lt HX4.out) | (go_at_call 41; refine (inst_needs.calls kq s2 _ _ _ _ _ HN.out).mono ?_; rintro e w5 ⟨rfl, hd5⟩; have HI5 := Aside0.mk (blk_below (heap_alloc_last w4 _) hd5.below); have HR5 := Aside0.mk (blk_below (blk_alloc HR4.out _) hd5.below); have HB5 := Aside0.mk (below_then (below_alloc HB4.out _) (by have := HB4.out.size; simp; omega) hd5.below); clear hd5 hx1 hx2; have hi0 := blk_cell HI5.out 0; have hi1 := blk_cell HI5.out 1; have hi2 := blk_cell HI5.out 2; have hi3 := blk_cell HI5.out 3; have hi4 := blk_cell HI5.out 4; have hj1 := blk_frozen HI5.out 1; have hj2 := blk_frozen HI5.out 2; have hj3 := blk_frozen HI5.out 3; have hr0 := blk_cell HR5.out 0; have hs0 := blk_frozen HR5.out 0; have hr1 := blk_cell HR5.out 1; have hs1 := blk_frozen HR5.out 1; have hr2 := blk_cell HR5.out 2; have hs2 := blk_frozen HR5.out 2; have hr3 := blk_cell HR5.out 3; have hs3 := blk_frozen HR5.out 3; have hr4 := blk_cell HR5.out 4; have hs4 := blk_frozen HR5.out 4) | (go_at_call 42; (with_reducible refine (inst_bits.calls a0 15 5 _ _ HD2.out).mono ?_); rintro e w6 ⟨rfl, hd⟩; have HI6 := Aside0.mk (blk_below (HI5.out) hd.below); have HR6 := Aside0.mk (blk_below (HR5.out) hd.below); have HB6 := Aside0.mk (below_then (HB5.out) (below_size (HB5.out)) hd.below); clear hd; clear hi0 hi1 hi2 hi3 hi4 hj1 hj2 hj3 hr0 hr1 hr2 hr3 hr4 hs0 hs1 hs2 hs3 hs4; have hi0 := blk_cell HI6.out 0; have hi1 := blk_cell HI6.out 1; have hi2 := blk_cell HI6.out 2; have hi3 := blk_cell HI6.out 3; have hi4 := blk_cell HI6.out 4; have hj1 := blk_frozen HI6.out 1; have hj2 := blk_frozen HI6.out 2; have hj3 := blk_frozen HI6.out 3; have hr0 := blk_cell HR6.out 0; have hs0 := blk_frozen HR6.out 0; have hr1 := blk_cell HR6.out 1; have hs1 := blk_frozen HR6.out 1; have hr2 := blk_cell HR6.out 2; have hs2 := blk_frozen HR6.out 2; have hr3 := blk_cell HR6.out 3; have hs3 := blk_frozen HR6.out 3; have hr4 := blk_cell HR6.out 4; have hs4 := blk_frozen HR6.out 4))
          have hz := blk_far HR6.out (p := ⟨w4.heap.size, 2, none⟩) (Nat.ne_of_lt hlt4) (.int .i64 (wrap64 q2))
          replace hz := blk_set hz 0 (.int .i64 ((n : Int)))
          replace hz := blk_set hz 1 (.int .i64 (0))
          replace hz := blk_set hz 2 (.int .i64 (wrap64 q2))
          replace hz := blk_set hz 3 (.int .i64 (0))
          replace hz := blk_set hz 4 (.int .i64 (m))
          have hw := below_set (j := 2) (v := .int .i64 (wrap64 q2)) HB6.out (Nat.le_of_lt hlt4)
          refine bodyPost_ret (results_ct rfl _ _ w.heap.size 39 _ (0, 0) _ rfl (by simpa using hz) Try.underlying39 rfl (by kernel_rfl)) rfl ⟨rfl, ?_⟩
          exact ((((hw.setCell (Nat.le_refl _) _).setCell (Nat.le_refl _) _).setCell (Nat.le_refl _) _).setCell (Nat.le_refl _) _).setCell (Nat.le_refl _) _
        · have hx1 : True := trivial
          have h1 := HD1.out
          clear HD1
          rw [if_neg (by simp)] at h1
          obtain rfl := Option.some.inj h1
          have h2 := HD2.out
          clear HD2
          rw [if_pos rfl] at h2
          replace h2 := Option.bind_eq_some_iff.mp h2
          obtain ⟨q2, h2, h2_⟩ := h2
          obtain rfl := Option.some.inj h2_
          have HD2 := Aside0.mk h2
          clear h2
          have h3 := HD3.out
          clear HD3
          rw [if_pos rfl] at h3
          replace h3 := Option.bind_eq_some_iff.mp h3
          obtain ⟨q3, h3, h3_⟩ := h3
          obtain rfl := Option.some.inj h3_
          have HD3 := Aside0.mk h3
          clear h3
          go_wp2_with (first | (go_at_call 39; refine (inst_fits.calls kq _ _ _ _ _ _ _ _ HF.out).mono ?_; rintro e w3 ⟨rfl, hb3⟩; have HX := Aside0.mk ((hb3.block _ (by simp)).trans (heap_alloc_last wr _)); have HR3 := Aside0.mk (blk_below (blk_alloc HR.out _) hb3); have HB3 := Aside0.mk (below_then (below_alloc HB.out _) (by have := HB.out.size; simp; omega) hb3); clear hb3 hx1; have hx1 := blk_cell HX.out 1) | (go_at_call 40; refine (inst_told.calls s2 a0 _ _ HM.out).mono ?_; rintro e w4 ⟨rfl, hd4⟩; have HX4 := Aside0.mk (blk_below HX.out hd4.below); have HR4 := Aside0.mk (blk_below HR3.out hd4.below); have HB4 := Aside0.mk (below_then HB3.out HB3.out.size hd4.below); have hlt4 : w.heap.size < w4.heap.size := blk_lt HR4.out; clear hd4 hx1; have hx1 := blk_cell HX4.out 1; have hx2 := blk_lt HX4.out) | (go_at_call 41; refine (inst_needs.calls kq s2 _ _ _ _ _ HN.out).mono ?_; rintro e w5 ⟨rfl, hd5⟩; have HI5 := Aside0.mk (blk_below (heap_alloc_last w4 _) hd5.below); have HR5 := Aside0.mk (blk_below (blk_alloc HR4.out _) hd5.below); have HB5 := Aside0.mk (below_then (below_alloc HB4.out _) (by have := HB4.out.size; simp; omega) hd5.below); clear hd5 hx1 hx2; have hi0 := blk_cell HI5.out 0; have hi1 := blk_cell HI5.out 1; have hi2 := blk_cell HI5.out 2; have hi3 := blk_cell HI5.out 3; have hi4 := blk_cell HI5.out 4; have hj1 := blk_frozen HI5.out 1; have hj2 := blk_frozen HI5.out 2; have hj3 := blk_frozen HI5.out 3; have hr0 := blk_cell HR5.out 0; have hs0 := blk_frozen HR5.out 0; have hr1 := blk_cell HR5.out 1; have hs1 := blk_frozen HR5.out 1; have hr2 := blk_cell HR5.out 2; have hs2 := blk_frozen HR5.out 2; have hr3 := blk_cell HR5.out 3; have hs3 := blk_frozen HR5.out 3; have hr4 := blk_cell HR5.out 4; have hs4 := blk_frozen HR5.out 4) | (go_at_call 42; (with_reducible refine (inst_bits.calls a0 15 5 _ _ HD2.out).mono ?_); rintro e w6 ⟨rfl, hd⟩; have HI6 := Aside0.mk (blk_below (HI5.out) hd.below); have HR6 := Aside0.mk (blk_below (HR5.out) hd.below); have HB6 := Aside0.mk (below_then (HB5.out) (below_size (HB5.out)) hd.below); clear hd; clear hi0 hi1 hi2 hi3 hi4 hj1 hj2 hj3 hr0 hr1 hr2 hr3 hr4 hs0 hs1 hs2 hs3 hs4; have hi0 := blk_cell HI6.out 0; have hi1 := blk_cell HI6.out 1; have hi2 := blk_cell HI6.out 2; have hi3 := blk_cell HI6.out 3; have hi4 := blk_cell HI6.out 4; have hj1 := blk_frozen HI6.out 1; have hj2 := blk_frozen HI6.out 2; have hj3 := blk_frozen HI6.out 3; have hr0 := blk_cell HR6.out 0; have hs0 := blk_frozen HR6.out 0; have hr1 := blk_cell HR6.out 1; have hs1 := blk_frozen HR6.out 1; have hr2 := blk_cell HR6.out 2; have hs2 := blk_frozen HR6.out 2; have hr3 := blk_cell HR6.out 3; have hs3 := blk_frozen HR6.out 3; have hr4 := blk_cell HR6.out 4; have hs4 := blk_frozen HR6.out 4) | (go_at_call 42; (with_reducible refine (inst_bits.calls a0 20 5 _ _ HD3.out).mono ?_); rintro e w7 ⟨rfl, hd⟩; have HI7 := Aside0.mk (blk_below (blk_set HI6.out 2 (.int .i64 (wrap64 q2))) hd.below); have HR7 := Aside0.mk (blk_below (blk_far HR6.out (p := ⟨w4.heap.size, 2, none⟩) (Nat.ne_of_lt hlt4) (.int .i64 (wrap64 q2))) hd.below); have HB7 := Aside0.mk (below_then (below_set (j := 2) (v := .int .i64 (wrap64 q2)) HB6.out (Nat.le_of_lt hlt4)) (below_size (below_set (j := 2) (v := .int .i64 (wrap64 q2)) HB6.out (Nat.le_of_lt hlt4))) hd.below); clear hd; clear hi0 hi1 hi2 hi3 hi4 hj1 hj2 hj3 hr0 hr1 hr2 hr3 hr4 hs0 hs1 hs2 hs3 hs4; have hi0 := blk_cell HI7.out 0; have hi1 := blk_cell HI7.out 1; have hi2 := blk_cell HI7.out 2; have hi3 := blk_cell HI7.out 3; have hi4 := blk_cell HI7.out 4; have hj1 := blk_frozen HI7.out 1; have hj2 := blk_frozen HI7.out 2; have hj3 := blk_frozen HI7.out 3; have hr0 := blk_cell HR7.out 0; have hs0 := blk_frozen HR7.out 0; have hr1 := blk_cell HR7.out 1; have hs1 := blk_frozen HR7.out 1; have hr2 := blk_cell HR7.out 2; have hs2 := blk_frozen HR7.out 2; have hr3 := blk_cell HR7.out 3; have hs3 := blk_frozen HR7.out 3; have hr4 := blk_cell HR7.out 4; have hs4 := blk_frozen HR7.out 4))
          have hz := blk_far HR7.out (p := ⟨w4.heap.size, 3, none⟩) (Nat.ne_of_lt hlt4) (.int .i64 (wrap64 q3))
          replace hz := blk_set hz 0 (.int .i64 ((n : Int)))
          replace hz := blk_set hz 1 (.int .i64 (0))
          replace hz := blk_set hz 2 (.int .i64 (wrap64 q2))
          replace hz := blk_set hz 3 (.int .i64 (wrap64 q3))
          replace hz := blk_set hz 4 (.int .i64 (m))
          have hw := below_set (j := 3) (v := .int .i64 (wrap64 q3)) HB7.out (Nat.le_of_lt hlt4)
          refine bodyPost_ret (results_ct rfl _ _ w.heap.size 39 _ (0, 0) _ rfl (by simpa using hz) Try.underlying39 rfl (by kernel_rfl)) rfl ⟨rfl, ?_⟩
          exact ((((hw.setCell (Nat.le_refl _) _).setCell (Nat.le_refl _) _).setCell (Nat.le_refl _) _).setCell (Nat.le_refl _) _).setCell (Nat.le_refl _) _
        · have hx1 : True := trivial
          have h1 := HD1.out
          clear HD1
          rw [if_pos rfl] at h1
          replace h1 := Option.bind_eq_some_iff.mp h1
          obtain ⟨q1, h1, h1_⟩ := h1
          obtain rfl := Option.some.inj h1_
          have HD1 := Aside0.mk h1
          clear h1
          have h2 := HD2.out
          clear HD2
          rw [if_neg (by simp)] at h2
          obtain rfl := Option.some.inj h2
          have h3 := HD3.out
          clear HD3
          rw [if_neg (by simp)] at h3
          obtain rfl := Option.some.inj h3
          go_wp2_with (first | (go_at_call 39; refine (inst_fits.calls kq _ _ _ _ _ _ _ _ HF.out).mono ?_; rintro e w3 ⟨rfl, hb3⟩; have HX := Aside0.mk ((hb3.block _ (by simp)).trans (heap_alloc_last wr _)); have HR3 := Aside0.mk (blk_below (blk_alloc HR.out _) hb3); have HB3 := Aside0.mk (below_then (below_alloc HB.out _) (by have := HB.out.size; simp; omega) hb3); clear hb3 hx1; have hx1 := blk_cell HX.out 1) | (go_at_call 40; refine (inst_told.calls s2 a0 _ _ HM.out).mono ?_; rintro e w4 ⟨rfl, hd4⟩; have HX4 := Aside0.mk (blk_below HX.out hd4.below); have HR4 := Aside0.mk (blk_below HR3.out hd4.below); have HB4 := Aside0.mk (below_then HB3.out HB3.out.size hd4.below); have hlt4 : w.heap.size < w4.heap.size := blk_lt HR4.out; clear hd4 hx1; have hx1 := blk_cell HX4.out 1; have hx2 := blk_lt HX4.out) | (go_at_call 41; refine (inst_needs.calls kq s2 _ _ _ _ _ HN.out).mono ?_; rintro e w5 ⟨rfl, hd5⟩; have HI5 := Aside0.mk (blk_below (heap_alloc_last w4 _) hd5.below); have HR5 := Aside0.mk (blk_below (blk_alloc HR4.out _) hd5.below); have HB5 := Aside0.mk (below_then (below_alloc HB4.out _) (by have := HB4.out.size; simp; omega) hd5.below); clear hd5 hx1 hx2; have hi0 := blk_cell HI5.out 0; have hi1 := blk_cell HI5.out 1; have hi2 := blk_cell HI5.out 2; have hi3 := blk_cell HI5.out 3; have hi4 := blk_cell HI5.out 4; have hj1 := blk_frozen HI5.out 1; have hj2 := blk_frozen HI5.out 2; have hj3 := blk_frozen HI5.out 3; have hr0 := blk_cell HR5.out 0; have hs0 := blk_frozen HR5.out 0; have hr1 := blk_cell HR5.out 1; have hs1 := blk_frozen HR5.out 1; have hr2 := blk_cell HR5.out 2; have hs2 := blk_frozen HR5.out 2; have hr3 := blk_cell HR5.out 3; have hs3 := blk_frozen HR5.out 3; have hr4 := blk_cell HR5.out 4; have hs4 := blk_frozen HR5.out 4) | (go_at_call 42; (with_reducible refine (inst_bits.calls a0 7 5 _ _ HD1.out).mono ?_); rintro e w6 ⟨rfl, hd⟩; have HI6 := Aside0.mk (blk_below (HI5.out) hd.below); have HR6 := Aside0.mk (blk_below (HR5.out) hd.below); have HB6 := Aside0.mk (below_then (HB5.out) (below_size (HB5.out)) hd.below); clear hd; clear hi0 hi1 hi2 hi3 hi4 hj1 hj2 hj3 hr0 hr1 hr2 hr3 hr4 hs0 hs1 hs2 hs3 hs4; have hi0 := blk_cell HI6.out 0; have hi1 := blk_cell HI6.out 1; have hi2 := blk_cell HI6.out 2; have hi3 := blk_cell HI6.out 3; have hi4 := blk_cell HI6.out 4; have hj1 := blk_frozen HI6.out 1; have hj2 := blk_frozen HI6.out 2; have hj3 := blk_frozen HI6.out 3; have hr0 := blk_cell HR6.out 0; have hs0 := blk_frozen HR6.out 0; have hr1 := blk_cell HR6.out 1; have hs1 := blk_frozen HR6.out 1; have hr2 := blk_cell HR6.out 2; have hs2 := blk_frozen HR6.out 2; have hr3 := blk_cell HR6.out 3; have hs3 := blk_frozen HR6.out 3; have hr4 := blk_cell HR6.out 4; have hs4 := blk_frozen HR6.out 4))
          have hz := blk_far HR6.out (p := ⟨w4.heap.size, 1, none⟩) (Nat.ne_of_lt hlt4) (.int .i64 (wrap64 q1))
          replace hz := blk_set hz 0 (.int .i64 ((n : Int)))
          replace hz := blk_set hz 1 (.int .i64 (wrap64 q1))
          replace hz := blk_set hz 2 (.int .i64 (0))
          replace hz := blk_set hz 3 (.int .i64 (0))
          replace hz := blk_set hz 4 (.int .i64 (m))
          have hw := below_set (j := 1) (v := .int .i64 (wrap64 q1)) HB6.out (Nat.le_of_lt hlt4)
          refine bodyPost_ret (results_ct rfl _ _ w.heap.size 39 _ (0, 0) _ rfl (by simpa using hz) Try.underlying39 rfl (by kernel_rfl)) rfl ⟨rfl, ?_⟩
          exact ((((hw.setCell (Nat.le_refl _) _).setCell (Nat.le_refl _) _).setCell (Nat.le_refl _) _).setCell (Nat.le_refl _) _).setCell (Nat.le_refl _) _
        · have hx1 : True := trivial
          have h1 := HD1.out
          clear HD1
          rw [if_pos rfl] at h1
          replace h1 := Option.bind_eq_some_iff.mp h1
          obtain ⟨q1, h1, h1_⟩ := h1
          obtain rfl := Option.some.inj h1_
          have HD1 := Aside0.mk h1
          clear h1
          have h2 := HD2.out
          clear HD2
          rw [if_neg (by simp)] at h2
          obtain rfl := Option.some.inj h2
          have h3 := HD3.out
          clear HD3
          rw [if_pos rfl] at h3
          replace h3 := Option.bind_eq_some_iff.mp h3
          obtain ⟨q3, h3, h3_⟩ := h3
          obtain rfl := Option.some.inj h3_
          have HD3 := Aside0.mk h3
          clear h3
          go_wp2_with (first | (go_at_call 39; refine (inst_fits.calls kq _ _ _ _ _ _ _ _ HF.out).mono ?_; rintro e w3 ⟨rfl, hb3⟩; have HX := Aside0.mk ((hb3.block _ (by simp)).trans (heap_alloc_last wr _)); have HR3 := Aside0.mk (blk_below (blk_alloc HR.out _) hb3); have HB3 := Aside0.mk (below_then (below_alloc HB.out _) (by have := HB.out.size; simp; omega) hb3); clear hb3 hx1; have hx1 := blk_cell HX.out 1) | (go_at_call 40; refine (inst_told.calls s2 a0 _ _ HM.out).mono ?_; rintro e w4 ⟨rfl, hd4⟩; have HX4 := Aside0.mk (blk_below HX.out hd4.below); have HR4 := Aside0.mk (blk_below HR3.out hd4.below); have HB4 := Aside0.mk (below_then HB3.out HB3.out.size hd4.below); have hlt4 : w.heap.size < w4.heap.size := blk_lt HR4.out; clear hd4 hx1; have hx1 := blk_cell HX4.out 1; have hx2 := blk_lt HX4.out) | (go_at_call 41; refine (inst_needs.calls kq s2 _ _ _ _ _ HN.out).mono ?_; rintro e w5 ⟨rfl, hd5⟩; have HI5 := Aside0.mk (blk_below (heap_alloc_last w4 _) hd5.below); have HR5 := Aside0.mk (blk_below (blk_alloc HR4.out _) hd5.below); have HB5 := Aside0.mk (below_then (below_alloc HB4.out _) (by have := HB4.out.size; simp; omega) hd5.below); clear hd5 hx1 hx2; have hi0 := blk_cell HI5.out 0; have hi1 := blk_cell HI5.out 1; have hi2 := blk_cell HI5.out 2; have hi3 := blk_cell HI5.out 3; have hi4 := blk_cell HI5.out 4; have hj1 := blk_frozen HI5.out 1; have hj2 := blk_frozen HI5.out 2; have hj3 := blk_frozen HI5.out 3; have hr0 := blk_cell HR5.out 0; have hs0 := blk_frozen HR5.out 0; have hr1 := blk_cell HR5.out 1; have hs1 := blk_frozen HR5.out 1; have hr2 := blk_cell HR5.out 2; have hs2 := blk_frozen HR5.out 2; have hr3 := blk_cell HR5.out 3; have hs3 := blk_frozen HR5.out 3; have hr4 := blk_cell HR5.out 4; have hs4 := blk_frozen HR5.out 4) | (go_at_call 42; (with_reducible refine (inst_bits.calls a0 7 5 _ _ HD1.out).mono ?_); rintro e w6 ⟨rfl, hd⟩; have HI6 := Aside0.mk (blk_below (HI5.out) hd.below); have HR6 := Aside0.mk (blk_below (HR5.out) hd.below); have HB6 := Aside0.mk (below_then (HB5.out) (below_size (HB5.out)) hd.below); clear hd; clear hi0 hi1 hi2 hi3 hi4 hj1 hj2 hj3 hr0 hr1 hr2 hr3 hr4 hs0 hs1 hs2 hs3 hs4; have hi0 := blk_cell HI6.out 0; have hi1 := blk_cell HI6.out 1; have hi2 := blk_cell HI6.out 2; have hi3 := blk_cell HI6.out 3; have hi4 := blk_cell HI6.out 4; have hj1 := blk_frozen HI6.out 1; have hj2 := blk_frozen HI6.out 2; have hj3 := blk_frozen HI6.out 3; have hr0 := blk_cell HR6.out 0; have hs0 := blk_frozen HR6.out 0; have hr1 := blk_cell HR6.out 1; have hs1 := blk_frozen HR6.out 1; have hr2 := blk_cell HR6.out 2; have hs2 := blk_frozen HR6.out 2; have hr3 := blk_cell HR6.out 3; have hs3 := blk_frozen HR6.out 3; have hr4 := blk_cell HR6.out 4; have hs4 := blk_frozen HR6.out 4) | (go_at_call 42; (with_reducible refine (inst_bits.calls a0 20 5 _ _ HD3.out).mono ?_); rintro e w7 ⟨rfl, hd⟩; have HI7 := Aside0.mk (blk_below (blk_set HI6.out 1 (.int .i64 (wrap64 q1))) hd.below); have HR7 := Aside0.mk (blk_below (blk_far HR6.out (p := ⟨w4.heap.size, 1, none⟩) (Nat.ne_of_lt hlt4) (.int .i64 (wrap64 q1))) hd.below); have HB7 := Aside0.mk (below_then (below_set (j := 1) (v := .int .i64 (wrap64 q1)) HB6.out (Nat.le_of_lt hlt4)) (below_size (below_set (j := 1) (v := .int .i64 (wrap64 q1)) HB6.out (Nat.le_of_lt hlt4))) hd.below); clear hd; clear hi0 hi1 hi2 hi3 hi4 hj1 hj2 hj3 hr0 hr1 hr2 hr3 hr4 hs0 hs1 hs2 hs3 hs4; have hi0 := blk_cell HI7.out 0; have hi1 := blk_cell HI7.out 1; have hi2 := blk_cell HI7.out 2; have hi3 := blk_cell HI7.out 3; have hi4 := blk_cell HI7.out 4; have hj1 := blk_frozen HI7.out 1; have hj2 := blk_frozen HI7.out 2; have hj3 := blk_frozen HI7.out 3; have hr0 := blk_cell HR7.out 0; have hs0 := blk_frozen HR7.out 0; have hr1 := blk_cell HR7.out 1; have hs1 := blk_frozen HR7.out 1; have hr2 := blk_cell HR7.out 2; have hs2 := blk_frozen HR7.out 2; have hr3 := blk_cell HR7.out 3; have hs3 := blk_frozen HR7.out 3; have hr4 := blk_cell HR7.out 4; have hs4 := blk_frozen HR7.out 4))
          have hz := blk_far HR7.out (p := ⟨w4.heap.size, 3, none⟩) (Nat.ne_of_lt hlt4) (.int .i64 (wrap64 q3))
          replace hz := blk_set hz 0 (.int .i64 ((n : Int)))
          replace hz := blk_set hz 1 (.int .i64 (wrap64 q1))
          replace hz := blk_set hz 2 (.int .i64 (0))
          replace hz := blk_set hz 3 (.int .i64 (wrap64 q3))
          replace hz := blk_set hz 4 (.int .i64 (m))
          have hw := below_set (j := 3) (v := .int .i64 (wrap64 q3)) HB7.out (Nat.le_of_lt hlt4)
          refine bodyPost_ret (results_ct rfl _ _ w.heap.size 39 _ (0, 0) _ rfl (by simpa using hz) Try.underlying39 rfl (by kernel_rfl)) rfl ⟨rfl, ?_⟩
          exact ((((hw.setCell (Nat.le_refl _) _).setCell (Nat.le_refl _) _).setCell (Nat.le_refl _) _).setCell (Nat.le_refl _) _).setCell (Nat.le_refl _) _
        · have hx1 : True := trivial
          have h1 := HD1.out
          clear HD1
          rw [if_pos rfl] at h1
          replace h1 := Option.bind_eq_some_iff.mp h1
          obtain ⟨q1, h1, h1_⟩ := h1
          obtain rfl := Option.some.inj h1_
          have HD1 := Aside0.mk h1
          clear h1
          have h2 := HD2.out
          clear HD2
          rw [if_pos rfl] at h2
          replace h2 := Option.bind_eq_some_iff.mp h2
          obtain ⟨q2, h2, h2_⟩ := h2
          obtain rfl := Option.some.inj h2_
          have HD2 := Aside0.mk h2
          clear h2
          have h3 := HD3.out
          clear HD3
          rw [if_neg (by simp)] at h3
          obtain rfl := Option.some.inj h3
          go_wp2_with (first | (go_at_call 39; refine (inst_fits.calls kq _ _ _ _ _ _ _ _ HF.out).mono ?_; rintro e w3 ⟨rfl, hb3⟩; have HX := Aside0.mk ((hb3.block _ (by simp)).trans (heap_alloc_last wr _)); have HR3 := Aside0.mk (blk_below (blk_alloc HR.out _) hb3); have HB3 := Aside0.mk (below_then (below_alloc HB.out _) (by have := HB.out.size; simp; omega) hb3); clear hb3 hx1; have hx1 := blk_cell HX.out 1) | (go_at_call 40; refine (inst_told.calls s2 a0 _ _ HM.out).mono ?_; rintro e w4 ⟨rfl, hd4⟩; have HX4 := Aside0.mk (blk_below HX.out hd4.below); have HR4 := Aside0.mk (blk_below HR3.out hd4.below); have HB4 := Aside0.mk (below_then HB3.out HB3.out.size hd4.below); have hlt4 : w.heap.size < w4.heap.size := blk_lt HR4.out; clear hd4 hx1; have hx1 := blk_cell HX4.out 1; have hx2 := blk_lt HX4.out) | (go_at_call 41; refine (inst_needs.calls kq s2 _ _ _ _ _ HN.out).mono ?_; rintro e w5 ⟨rfl, hd5⟩; have HI5 := Aside0.mk (blk_below (heap_alloc_last w4 _) hd5.below); have HR5 := Aside0.mk (blk_below (blk_alloc HR4.out _) hd5.below); have HB5 := Aside0.mk (below_then (below_alloc HB4.out _) (by have := HB4.out.size; simp; omega) hd5.below); clear hd5 hx1 hx2; have hi0 := blk_cell HI5.out 0; have hi1 := blk_cell HI5.out 1; have hi2 := blk_cell HI5.out 2; have hi3 := blk_cell HI5.out 3; have hi4 := blk_cell HI5.out 4; have hj1 := blk_frozen HI5.out 1; have hj2 := blk_frozen HI5.out 2; have hj3 := blk_frozen HI5.out 3; have hr0 := blk_cell HR5.out 0; have hs0 := blk_frozen HR5.out 0; have hr1 := blk_cell HR5.out 1; have hs1 := blk_frozen HR5.out 1; have hr2 := blk_cell HR5.out 2; have hs2 := blk_frozen HR5.out 2; have hr3 := blk_cell HR5.out 3; have hs3 := blk_frozen HR5.out 3; have hr4 := blk_cell HR5.out 4; have hs4 := blk_frozen HR5.out 4) | (go_at_call 42; (with_reducible refine (inst_bits.calls a0 7 5 _ _ HD1.out).mono ?_); rintro e w6 ⟨rfl, hd⟩; have HI6 := Aside0.mk (blk_below (HI5.out) hd.below); have HR6 := Aside0.mk (blk_below (HR5.out) hd.below); have HB6 := Aside0.mk (below_then (HB5.out) (below_size (HB5.out)) hd.below); clear hd; clear hi0 hi1 hi2 hi3 hi4 hj1 hj2 hj3 hr0 hr1 hr2 hr3 hr4 hs0 hs1 hs2 hs3 hs4; have hi0 := blk_cell HI6.out 0; have hi1 := blk_cell HI6.out 1; have hi2 := blk_cell HI6.out 2; have hi3 := blk_cell HI6.out 3; have hi4 := blk_cell HI6.out 4; have hj1 := blk_frozen HI6.out 1; have hj2 := blk_frozen HI6.out 2; have hj3 := blk_frozen HI6.out 3; have hr0 := blk_cell HR6.out 0; have hs0 := blk_frozen HR6.out 0; have hr1 := blk_cell HR6.out 1; have hs1 := blk_frozen HR6.out 1; have hr2 := blk_cell HR6.out 2; have hs2 := blk_frozen HR6.out 2; have hr3 := blk_cell HR6.out 3; have hs3 := blk_frozen HR6.out 3; have hr4 := blk_cell HR6.out 4; have hs4 := blk_frozen HR6.out 4) | (go_at_call 42; (with_reducible refine (inst_bits.calls a0 15 5 _ _ HD2.out).mono ?_); rintro e w7 ⟨rfl, hd⟩; have HI7 := Aside0.mk (blk_below (blk_set HI6.out 1 (.int .i64 (wrap64 q1))) hd.below); have HR7 := Aside0.mk (blk_below (blk_far HR6.out (p := ⟨w4.heap.size, 1, none⟩) (Nat.ne_of_lt hlt4) (.int .i64 (wrap64 q1))) hd.below); have HB7 := Aside0.mk (below_then (below_set (j := 1) (v := .int .i64 (wrap64 q1)) HB6.out (Nat.le_of_lt hlt4)) (below_size (below_set (j := 1) (v := .int .i64 (wrap64 q1)) HB6.out (Nat.le_of_lt hlt4))) hd.below); clear hd; clear hi0 hi1 hi2 hi3 hi4 hj1 hj2 hj3 hr0 hr1 hr2 hr3 hr4 hs0 hs1 hs2 hs3 hs4; have hi0 := blk_cell HI7.out 0; have hi1 := blk_cell HI7.out 1; have hi2 := blk_cell HI7.out 2; have hi3 := blk_cell HI7.out 3; have hi4 := blk_cell HI7.out 4; have hj1 := blk_frozen HI7.out 1; have hj2 := blk_frozen HI7.out 2; have hj3 := blk_frozen HI7.out 3; have hr0 := blk_cell HR7.out 0; have hs0 := blk_frozen HR7.out 0; have hr1 := blk_cell HR7.out 1; have hs1 := blk_frozen HR7.out 1; have hr2 := blk_cell HR7.out 2; have hs2 := blk_frozen HR7.out 2; have hr3 := blk_cell HR7.out 3; have hs3 := blk_frozen HR7.out 3; have hr4 := blk_cell HR7.out 4; have hs4 := blk_frozen HR7.out 4))
          have hz := blk_far HR7.out (p := ⟨w4.heap.size, 2, none⟩) (Nat.ne_of_lt hlt4) (.int .i64 (wrap64 q2))
          replace hz := blk_set hz 0 (.int .i64 ((n : Int)))
          replace hz := blk_set hz 1 (.int .i64 (wrap64 q1))
          replace hz := blk_set hz 2 (.int .i64 (wrap64 q2))
          replace hz := blk_set hz 3 (.int .i64 (0))
          replace hz := blk_set hz 4 (.int .i64 (m))
          have hw := below_set (j := 2) (v := .int .i64 (wrap64 q2)) HB7.out (Nat.le_of_lt hlt4)
          refine bodyPost_ret (results_ct rfl _ _ w.heap.size 39 _ (0, 0) _ rfl (by simpa using hz) Try.underlying39 rfl (by kernel_rfl)) rfl ⟨rfl, ?_⟩
          exact ((((hw.setCell (Nat.le_refl _) _).setCell (Nat.le_refl _) _).setCell (Nat.le_refl _) _).setCell (Nat.le_refl _) _).setCell (Nat.le_refl _) _
        · have hx1 : True := trivial
          have h1 := HD1.out
          clear HD1
          rw [if_pos rfl] at h1
          replace h1 := Option.bind_eq_some_iff.mp h1
          obtain ⟨q1, h1, h1_⟩ := h1
          obtain rfl := Option.some.inj h1_
          have HD1 := Aside0.mk h1
          clear h1
          have h2 := HD2.out
          clear HD2
          rw [if_pos rfl] at h2
          replace h2 := Option.bind_eq_some_iff.mp h2
          obtain ⟨q2, h2, h2_⟩ := h2
          obtain rfl := Option.some.inj h2_
          have HD2 := Aside0.mk h2
          clear h2
          have h3 := HD3.out
          clear HD3
          rw [if_pos rfl] at h3
          replace h3 := Option.bind_eq_some_iff.mp h3
          obtain ⟨q3, h3, h3_⟩ := h3
          obtain rfl := Option.some.inj h3_
          have HD3 := Aside0.mk h3
          clear h3
          go_wp2_with (first | (go_at_call 39; refine (inst_fits.calls kq _ _ _ _ _ _ _ _ HF.out).mono ?_; rintro e w3 ⟨rfl, hb3⟩; have HX := Aside0.mk ((hb3.block _ (by simp)).trans (heap_alloc_last wr _)); have HR3 := Aside0.mk (blk_below (blk_alloc HR.out _) hb3); have HB3 := Aside0.mk (below_then (below_alloc HB.out _) (by have := HB.out.size; simp; omega) hb3); clear hb3 hx1; have hx1 := blk_cell HX.out 1) | (go_at_call 40; refine (inst_told.calls s2 a0 _ _ HM.out).mono ?_; rintro e w4 ⟨rfl, hd4⟩; have HX4 := Aside0.mk (blk_below HX.out hd4.below); have HR4 := Aside0.mk (blk_below HR3.out hd4.below); have HB4 := Aside0.mk (below_then HB3.out HB3.out.size hd4.below); have hlt4 : w.heap.size < w4.heap.size := blk_lt HR4.out; clear hd4 hx1; have hx1 := blk_cell HX4.out 1; have hx2 := blk_lt HX4.out) | (go_at_call 41; refine (inst_needs.calls kq s2 _ _ _ _ _ HN.out).mono ?_; rintro e w5 ⟨rfl, hd5⟩; have HI5 := Aside0.mk (blk_below (heap_alloc_last w4 _) hd5.below); have HR5 := Aside0.mk (blk_below (blk_alloc HR4.out _) hd5.below); have HB5 := Aside0.mk (below_then (below_alloc HB4.out _) (by have := HB4.out.size; simp; omega) hd5.below); clear hd5 hx1 hx2; have hi0 := blk_cell HI5.out 0; have hi1 := blk_cell HI5.out 1; have hi2 := blk_cell HI5.out 2; have hi3 := blk_cell HI5.out 3; have hi4 := blk_cell HI5.out 4; have hj1 := blk_frozen HI5.out 1; have hj2 := blk_frozen HI5.out 2; have hj3 := blk_frozen HI5.out 3; have hr0 := blk_cell HR5.out 0; have hs0 := blk_frozen HR5.out 0; have hr1 := blk_cell HR5.out 1; have hs1 := blk_frozen HR5.out 1; have hr2 := blk_cell HR5.out 2; have hs2 := blk_frozen HR5.out 2; have hr3 := blk_cell HR5.out 3; have hs3 := blk_frozen HR5.out 3; have hr4 := blk_cell HR5.out 4; have hs4 := blk_frozen HR5.out 4) | (go_at_call 42; (with_reducible refine (inst_bits.calls a0 7 5 _ _ HD1.out).mono ?_); rintro e w6 ⟨rfl, hd⟩; have HI6 := Aside0.mk (blk_below (HI5.out) hd.below); have HR6 := Aside0.mk (blk_below (HR5.out) hd.below); have HB6 := Aside0.mk (below_then (HB5.out) (below_size (HB5.out)) hd.below); clear hd; clear hi0 hi1 hi2 hi3 hi4 hj1 hj2 hj3 hr0 hr1 hr2 hr3 hr4 hs0 hs1 hs2 hs3 hs4; have hi0 := blk_cell HI6.out 0; have hi1 := blk_cell HI6.out 1; have hi2 := blk_cell HI6.out 2; have hi3 := blk_cell HI6.out 3; have hi4 := blk_cell HI6.out 4; have hj1 := blk_frozen HI6.out 1; have hj2 := blk_frozen HI6.out 2; have hj3 := blk_frozen HI6.out 3; have hr0 := blk_cell HR6.out 0; have hs0 := blk_frozen HR6.out 0; have hr1 := blk_cell HR6.out 1; have hs1 := blk_frozen HR6.out 1; have hr2 := blk_cell HR6.out 2; have hs2 := blk_frozen HR6.out 2; have hr3 := blk_cell HR6.out 3; have hs3 := blk_frozen HR6.out 3; have hr4 := blk_cell HR6.out 4; have hs4 := blk_frozen HR6.out 4) | (go_at_call 42; (with_reducible refine (inst_bits.calls a0 15 5 _ _ HD2.out).mono ?_); rintro e w7 ⟨rfl, hd⟩; have HI7 := Aside0.mk (blk_below (blk_set HI6.out 1 (.int .i64 (wrap64 q1))) hd.below); have HR7 := Aside0.mk (blk_below (blk_far HR6.out (p := ⟨w4.heap.size, 1, none⟩) (Nat.ne_of_lt hlt4) (.int .i64 (wrap64 q1))) hd.below); have HB7 := Aside0.mk (below_then (below_set (j := 1) (v := .int .i64 (wrap64 q1)) HB6.out (Nat.le_of_lt hlt4)) (below_size (below_set (j := 1) (v := .int .i64 (wrap64 q1)) HB6.out (Nat.le_of_lt hlt4))) hd.below); clear hd; clear hi0 hi1 hi2 hi3 hi4 hj1 hj2 hj3 hr0 hr1 hr2 hr3 hr4 hs0 hs1 hs2 hs3 hs4; have hi0 := blk_cell HI7.out 0; have hi1 := blk_cell HI7.out 1; have hi2 := blk_cell HI7.out 2; have hi3 := blk_cell HI7.out 3; have hi4 := blk_cell HI7.out 4; have hj1 := blk_frozen HI7.out 1; have hj2 := blk_frozen HI7.out 2; have hj3 := blk_frozen HI7.out 3; have hr0 := blk_cell HR7.out 0; have hs0 := blk_frozen HR7.out 0; have hr1 := blk_cell HR7.out 1; have hs1 := blk_frozen HR7.out 1; have hr2 := blk_cell HR7.out 2; have hs2 := blk_frozen HR7.out 2; have hr3 := blk_cell HR7.out 3; have hs3 := blk_frozen HR7.out 3; have hr4 := blk_cell HR7.out 4; have hs4 := blk_frozen HR7.out 4) | (go_at_call 42; (with_reducible refine (inst_bits.calls a0 20 5 _ _ HD3.out).mono ?_); rintro e w8 ⟨rfl, hd⟩; have HI8 := Aside0.mk (blk_below (blk_set HI7.out 2 (.int .i64 (wrap64 q2))) hd.below); have HR8 := Aside0.mk (blk_below (blk_far HR7.out (p := ⟨w4.heap.size, 2, none⟩) (Nat.ne_of_lt hlt4) (.int .i64 (wrap64 q2))) hd.below); have HB8 := Aside0.mk (below_then (below_set (j := 2) (v := .int .i64 (wrap64 q2)) HB7.out (Nat.le_of_lt hlt4)) (below_size (below_set (j := 2) (v := .int .i64 (wrap64 q2)) HB7.out (Nat.le_of_lt hlt4))) hd.below); clear hd; clear hi0 hi1 hi2 hi3 hi4 hj1 hj2 hj3 hr0 hr1 hr2 hr3 hr4 hs0 hs1 hs2 hs3 hs4; have hi0 := blk_cell HI8.out 0; have hi1 := blk_cell HI8.out 1; have hi2 := blk_cell HI8.out 2; have hi3 := blk_cell HI8.out 3; have hi4 := blk_cell HI8.out 4; have hj1 := blk_frozen HI8.out 1; have hj2 := blk_frozen HI8.out 2; have hj3 := blk_frozen HI8.out 3; have hr0 := blk_cell HR8.out 0; have hs0 := blk_frozen HR8.out 0; have hr1 := blk_cell HR8.out 1; have hs1 := blk_frozen HR8.out 1; have hr2 := blk_cell HR8.out 2; have hs2 := blk_frozen HR8.out 2; have hr3 := blk_cell HR8.out 3; have hs3 := blk_frozen HR8.out 3; have hr4 := blk_cell HR8.out 4; have hs4 := blk_frozen HR8.out 4))
          have hz := blk_far HR8.out (p := ⟨w4.heap.size, 3, none⟩) (Nat.ne_of_lt hlt4) (.int .i64 (wrap64 q3))
          replace hz := blk_set hz 0 (.int .i64 ((n : Int)))
          replace hz := blk_set hz 1 (.int .i64 (wrap64 q1))
          replace hz := blk_set hz 2 (.int .i64 (wrap64 q2))
          replace hz := blk_set hz 3 (.int .i64 (wrap64 q3))
          replace hz := blk_set hz 4 (.int .i64 (m))
          have hw := below_set (j := 3) (v := .int .i64 (wrap64 q3)) HB8.out (Nat.le_of_lt hlt4)
          refine bodyPost_ret (results_ct rfl _ _ w.heap.size 39 _ (0, 0) _ rfl (by simpa using hz) Try.underlying39 rfl (by kernel_rfl)) rfl ⟨rfl, ?_⟩
          exact ((((hw.setCell (Nat.le_refl _) _).setCell (Nat.le_refl _) _).setCell (Nat.le_refl _) _).setCell (Nat.le_refl _) _).setCell (Nat.le_refl _) _
    · have h0 := H.out
      clear H
      simp only [inst_Decode.l0] at h0
      rw [if_neg (by omega)] at h0
      simp only [Option.some.injEq, Prod.mk.injEq] at h0
      obtain ⟨rfl, rfl, rfl, rfl, rfl, rfl⟩ := h0
      have hr0 := blk_cell HR.out 0
      have hs0 := blk_frozen HR.out 0
      have hr1 := blk_cell HR.out 1
      have hs1 := blk_frozen HR.out 1
      have hr2 := blk_cell HR.out 2
      have hs2 := blk_frozen HR.out 2
      have hr3 := blk_cell HR.out 3
      have hs3 := blk_frozen HR.out 3
      have hr4 := blk_cell HR.out 4
      have hs4 := blk_frozen HR.out 4
      go_wp2
      have hz := HR.out
      replace hz := blk_set hz 0 (.int .i64 0)
      replace hz := blk_set hz 1 (.int .i64 0)
      replace hz := blk_set hz 2 (.int .i64 0)
      replace hz := blk_set hz 3 (.int .i64 0)
      replace hz := blk_set hz 4 (.int .i64 0)
      refine bodyPost_ret (results_ct rfl _ _ w.heap.size 39 _ (0, 0) _ rfl (by simpa using hz) Try.underlying39 rfl (by kernel_rfl)) rfl ⟨rfl, ?_⟩
      exact ((((HB.out.setCell (Nat.le_refl _) _).setCell (Nat.le_refl _) _).setCell (Nat.le_refl _) _).setCell (Nat.le_refl _) _).setCell (Nat.le_refl _) _
def rushlightlaw05_far.f (k : Nat) (a0 : Int) : Option (Bool) := (inst_Decode.f k a0).bind fun bt485 => (if bt485.2.2.2.2.2 = 0 then (if bt485.1 = 3 then (some (bt485.2.1 == 0)) else (some false)) else (some false))
set_option maxHeartbeats 8000000 in
set_option maxRecDepth 100000 in
theorem rushlightlaw05_far.calls (k : Nat) (a0 : Int) (r : Bool) (w : World) (h : rushlightlaw05_far.f k a0 = some r) :
    Calls Try.prog 23 #[.int .u32 a0] w fun e w' => e = .returned (.bool r) ∧ Below w.heap.size w w' := by
  have hu39 := Try.underlying39
  have HB := Aside0.mk (Below.refl w.heap.size w)
  have H : ((inst_Decode.f k a0).bind fun bt485 => (if bt485.2.2.2.2.2 = 0 then (if bt485.1 = 3 then (some (bt485.2.1 == 0)) else (some false)) else (some false))) = some r := h
  clear h
  replace H := Option.bind_eq_some_iff.mp H
  obtain ⟨⟨t485, t486, t487, t488, t489, t490⟩, A20, H⟩ := H
  replace H : (if t490 = 0 then (if t485 = 3 then (some (t486 == 0)) else (some false)) else (some false)) = some r := H
  have A2 := Aside0.mk A20
  clear A20
  by_cases c3 : t490 = 0
  · rw [if_pos c3] at H
    have c3b0 : (t490 == 0) = true := beq_iff_eq.mpr c3
    have c3b1 : (t490 != 0) = false := bne_eq_false_iff_eq.mpr c3
    clear c3
    by_cases c4 : t485 = 3
    · rw [if_pos c4] at H
      have c4b0 : (t485 == 3) = true := beq_iff_eq.mpr c4
      have c4b1 : (t485 != 3) = false := bne_eq_false_iff_eq.mpr c4
      clear c4
      obtain rfl := Option.some.inj H
      go_enter Try.func23, Try.ntmps23
      go_wp2_with (first | ((with_reducible refine gate_callee (f := 22) rfl ?_); refine goesL_ (some 7) rfl rfl Try.func22 (by kernel_rfl) rfl #[.int .u32 a0] rfl (by (try simp only [List.map_toArray, List.map_cons, List.map_nil]); first | done | rfl | (simp only [List.length_drop, List.length_take]; rfl)) ?_; (with_reducible refine (inst_Decode.calls k a0 t485 t486 t487 t488 t489 t490 _ A2.out).mono ?_); rintro e w5 ⟨rfl, hb⟩; refine ⟨_, rfl, ?_⟩; have n0_ := Aside0.mk (below_step (by repeat (first | (with_reducible first | exact HB.out | apply below_alloc | apply pw_below_drewN | apply below_drew1) | exact HB.out)) hb); clear HB; have HB := n0_; clear n0_; (try clear hb); (try clear hb2); (try clear hk); (try clear hi)) | ((with_reducible refine gate_dst (N := 3) rfl ?_); refine box_event ?hg (N := 3) ?hd (cs := #[.int .i64 0, .int .i64 0, .int .i64 0, .int .i64 0, .int .i64 0]) (t := 39) ?hr ?_; (case hd => rfl); (case hg => rfl); (case hr => first | (go_simp; done) | (go_simp; rfl)); intro gb491 hg w6 hbox hb; have n0_ := Aside0.mk (below_step (by repeat (first | (with_reducible first | exact HB.out | apply below_alloc | apply pw_below_drewN | apply below_drew1) | exact HB.out)) hb); have n1_ := Aside0.mk (hbox); have n2_ := Aside0.mk ((by rw [hg]; exact (below_size (by repeat (first | (with_reducible first | exact HB.out | apply below_alloc | apply pw_below_drewN | apply below_drew1) | exact HB.out))) : w.heap.size ≤ gb491)); have n3_ := Aside0.mk ((by rw [hg]; exact (below_size (by repeat (first | (with_reducible first | exact HB.out | apply below_alloc | apply pw_below_drewN | apply below_drew1) | exact HB.out))) : w.heap.size ≤ gb491)); clear HB; have HB := n0_; have BK491 := n1_; have GW491 := n2_; have GE491 := n3_; clear n0_ n1_ n2_ n3_; clear hb hbox hg; have hcz7_0 : w6.cell? ⟨gb491, 0, none⟩ = some (.int .i64 0) := (blk_cell BK491.out 0).trans rfl; have hcz7_1 : w6.cell? ⟨gb491, 1, none⟩ = some (.int .i64 0) := (blk_cell BK491.out 1).trans rfl; have hcz7_2 : w6.cell? ⟨gb491, 2, none⟩ = some (.int .i64 0) := (blk_cell BK491.out 2).trans rfl; have hcz7_3 : w6.cell? ⟨gb491, 3, none⟩ = some (.int .i64 0) := (blk_cell BK491.out 3).trans rfl; have hcz7_4 : w6.cell? ⟨gb491, 4, none⟩ = some (.int .i64 0) := (blk_cell BK491.out 4).trans rfl; have hfz7_0 := blk_frozen BK491.out 0; have hfz7_1 := blk_frozen BK491.out 1; have hfz7_2 := blk_frozen BK491.out 2; have hfz7_3 := blk_frozen BK491.out 3; have hfz7_4 := blk_frozen BK491.out 4))
      go_ret
      exact ⟨by first | rfl | (simp [errW_none, errW_some] <;> rfl) | (simp [*, errW_none, errW_some] <;> rfl), by repeat (first | (with_reducible first | exact HB.out | apply below_alloc | apply pw_below_drewN | apply below_drew1 | refine below_set ?_ GE491.out) | exact HB.out)⟩
    · rw [if_neg c4] at H
      have c4b0 : (t485 == 3) = false := beq_eq_false_iff_ne.mpr c4
      have c4b1 : (t485 != 3) = true := bne_iff_ne.mpr c4
      obtain rfl := Option.some.inj H
      go_enter Try.func23, Try.ntmps23
      go_wp2_with (first | ((with_reducible refine gate_callee (f := 22) rfl ?_); refine goesL_ (some 7) rfl rfl Try.func22 (by kernel_rfl) rfl #[.int .u32 a0] rfl (by (try simp only [List.map_toArray, List.map_cons, List.map_nil]); first | done | rfl | (simp only [List.length_drop, List.length_take]; rfl)) ?_; (with_reducible refine (inst_Decode.calls k a0 t485 t486 t487 t488 t489 t490 _ A2.out).mono ?_); rintro e w8 ⟨rfl, hb⟩; refine ⟨_, rfl, ?_⟩; have n0_ := Aside0.mk (below_step (by repeat (first | (with_reducible first | exact HB.out | apply below_alloc | apply pw_below_drewN | apply below_drew1) | exact HB.out)) hb); clear HB; have HB := n0_; clear n0_; (try clear hb); (try clear hb2); (try clear hk); (try clear hi)) | ((with_reducible refine gate_dst (N := 3) rfl ?_); refine box_event ?hg (N := 3) ?hd (cs := #[.int .i64 0, .int .i64 0, .int .i64 0, .int .i64 0, .int .i64 0]) (t := 39) ?hr ?_; (case hd => rfl); (case hg => rfl); (case hr => first | (go_simp; done) | (go_simp; rfl)); intro gb491 hg w9 hbox hb; have n0_ := Aside0.mk (below_step (by repeat (first | (with_reducible first | exact HB.out | apply below_alloc | apply pw_below_drewN | apply below_drew1) | exact HB.out)) hb); have n1_ := Aside0.mk (hbox); have n2_ := Aside0.mk ((by rw [hg]; exact (below_size (by repeat (first | (with_reducible first | exact HB.out | apply below_alloc | apply pw_below_drewN | apply below_drew1) | exact HB.out))) : w.heap.size ≤ gb491)); have n3_ := Aside0.mk ((by rw [hg]; exact (below_size (by repeat (first | (with_reducible first | exact HB.out | apply below_alloc | apply pw_below_drewN | apply below_drew1) | exact HB.out))) : w.heap.size ≤ gb491)); clear HB; have HB := n0_; have BK491 := n1_; have GW491 := n2_; have GE491 := n3_; clear n0_ n1_ n2_ n3_; clear hb hbox hg; have hcz10_0 : w9.cell? ⟨gb491, 0, none⟩ = some (.int .i64 0) := (blk_cell BK491.out 0).trans rfl; have hcz10_1 : w9.cell? ⟨gb491, 1, none⟩ = some (.int .i64 0) := (blk_cell BK491.out 1).trans rfl; have hcz10_2 : w9.cell? ⟨gb491, 2, none⟩ = some (.int .i64 0) := (blk_cell BK491.out 2).trans rfl; have hcz10_3 : w9.cell? ⟨gb491, 3, none⟩ = some (.int .i64 0) := (blk_cell BK491.out 3).trans rfl; have hcz10_4 : w9.cell? ⟨gb491, 4, none⟩ = some (.int .i64 0) := (blk_cell BK491.out 4).trans rfl; have hfz10_0 := blk_frozen BK491.out 0; have hfz10_1 := blk_frozen BK491.out 1; have hfz10_2 := blk_frozen BK491.out 2; have hfz10_3 := blk_frozen BK491.out 3; have hfz10_4 := blk_frozen BK491.out 4))
      go_ret
      exact ⟨by first | rfl | (simp [errW_none, errW_some] <;> rfl) | (simp [*, errW_none, errW_some] <;> rfl), by repeat (first | (with_reducible first | exact HB.out | apply below_alloc | apply pw_below_drewN | apply below_drew1 | refine below_set ?_ GE491.out) | exact HB.out)⟩
  · rw [if_neg c3] at H
    have c3b0 : (t490 == 0) = false := beq_eq_false_iff_ne.mpr c3
    have c3b1 : (t490 != 0) = true := bne_iff_ne.mpr c3
    obtain rfl := Option.some.inj H
    go_enter Try.func23, Try.ntmps23
    go_wp2_with (first | ((with_reducible refine gate_callee (f := 22) rfl ?_); refine goesL_ (some 7) rfl rfl Try.func22 (by kernel_rfl) rfl #[.int .u32 a0] rfl (by (try simp only [List.map_toArray, List.map_cons, List.map_nil]); first | done | rfl | (simp only [List.length_drop, List.length_take]; rfl)) ?_; (with_reducible refine (inst_Decode.calls k a0 t485 t486 t487 t488 t489 t490 _ A2.out).mono ?_); rintro e w11 ⟨rfl, hb⟩; refine ⟨_, rfl, ?_⟩; have n0_ := Aside0.mk (below_step (by repeat (first | (with_reducible first | exact HB.out | apply below_alloc | apply pw_below_drewN | apply below_drew1) | exact HB.out)) hb); clear HB; have HB := n0_; clear n0_; (try clear hb); (try clear hb2); (try clear hk); (try clear hi)) | ((with_reducible refine gate_dst (N := 3) rfl ?_); refine box_event ?hg (N := 3) ?hd (cs := #[.int .i64 0, .int .i64 0, .int .i64 0, .int .i64 0, .int .i64 0]) (t := 39) ?hr ?_; (case hd => rfl); (case hg => rfl); (case hr => first | (go_simp; done) | (go_simp; rfl)); intro gb491 hg w12 hbox hb; have n0_ := Aside0.mk (below_step (by repeat (first | (with_reducible first | exact HB.out | apply below_alloc | apply pw_below_drewN | apply below_drew1) | exact HB.out)) hb); have n1_ := Aside0.mk (hbox); have n2_ := Aside0.mk ((by rw [hg]; exact (below_size (by repeat (first | (with_reducible first | exact HB.out | apply below_alloc | apply pw_below_drewN | apply below_drew1) | exact HB.out))) : w.heap.size ≤ gb491)); have n3_ := Aside0.mk ((by rw [hg]; exact (below_size (by repeat (first | (with_reducible first | exact HB.out | apply below_alloc | apply pw_below_drewN | apply below_drew1) | exact HB.out))) : w.heap.size ≤ gb491)); clear HB; have HB := n0_; have BK491 := n1_; have GW491 := n2_; have GE491 := n3_; clear n0_ n1_ n2_ n3_; clear hb hbox hg; have hcz13_0 : w12.cell? ⟨gb491, 0, none⟩ = some (.int .i64 0) := (blk_cell BK491.out 0).trans rfl; have hcz13_1 : w12.cell? ⟨gb491, 1, none⟩ = some (.int .i64 0) := (blk_cell BK491.out 1).trans rfl; have hcz13_2 : w12.cell? ⟨gb491, 2, none⟩ = some (.int .i64 0) := (blk_cell BK491.out 2).trans rfl; have hcz13_3 : w12.cell? ⟨gb491, 3, none⟩ = some (.int .i64 0) := (blk_cell BK491.out 3).trans rfl; have hcz13_4 : w12.cell? ⟨gb491, 4, none⟩ = some (.int .i64 0) := (blk_cell BK491.out 4).trans rfl; have hfz13_0 := blk_frozen BK491.out 0; have hfz13_1 := blk_frozen BK491.out 1; have hfz13_2 := blk_frozen BK491.out 2; have hfz13_3 := blk_frozen BK491.out 3; have hfz13_4 := blk_frozen BK491.out 4))
    go_ret
    exact ⟨by first | rfl | (simp [errW_none, errW_some] <;> rfl) | (simp [*, errW_none, errW_some] <;> rfl), by repeat (first | (with_reducible first | exact HB.out | apply below_alloc | apply pw_below_drewN | apply below_drew1 | refine below_set ?_ GE491.out) | exact HB.out)⟩
end Go.Proofs.Ytecbponmpinnoaa.P
end
section
namespace Go.Proofs.Ytecbponmpinnoaa.P
open Go.RowKit Go.Proofs.YtecbponmpinnoaaW.PrintWords Go.Proofs.YtecbponmpinnoaaW.PrintLast Go.Proofs.YtecbponmpinnoaaW.PrintMore
attribute [local go_sem] max2_int min2_int max_two min_two max_three min_three max_four min_four   
set_option linter.unusedVariables false
set_option linter.unusedSimpArgs false
end Go.Proofs.Ytecbponmpinnoaa.P
end
section
namespace Go.Proofs.Ytecbponmpinnoaa.P
open Go.RowKit Go.Proofs.YtecbponmpinnoaaW.PrintWords Go.Proofs.YtecbponmpinnoaaW.PrintLast Go.Proofs.YtecbponmpinnoaaW.PrintMore
attribute [local go_sem] max2_int min2_int max_two min_two max_three min_three max_four min_four   
set_option linter.unusedVariables false
set_option linter.unusedSimpArgs false
end Go.Proofs.Ytecbponmpinnoaa.P
end
section
namespace Go.Proofs.Ytecbponmpinnoaa.P
open Go.RowKit Go.Proofs.YtecbponmpinnoaaW.PrintWords Go.Proofs.YtecbponmpinnoaaW.PrintLast Go.Proofs.YtecbponmpinnoaaW.PrintMore
attribute [local go_sem] max2_int min2_int max_two min_two max_three min_three max_four min_four   
set_option linter.unusedVariables false
set_option linter.unusedSimpArgs false
end Go.Proofs.Ytecbponmpinnoaa.P
end
section
namespace Go.Proofs.Ytecbponmpinnoaa.P
open Go.RowKit Go.Proofs.YtecbponmpinnoaaW.PrintWords Go.Proofs.YtecbponmpinnoaaW.PrintLast Go.Proofs.YtecbponmpinnoaaW.PrintMore
attribute [local go_sem] max2_int min2_int max_two min_two max_three min_three max_four min_four   
set_option linter.unusedVariables false
set_option linter.unusedSimpArgs false
def rushlightref01_Cut.f (a0 : Int) : Option (Int) := if (Int.tmod a0 4294967296) < 0 then (some ((wrap64 ((Int.tmod a0 4294967296) + 4294967296)) % 4294967296)) else (some ((Int.tmod a0 4294967296) % 4294967296))
set_option maxHeartbeats 8000000 in
set_option maxRecDepth 100000 in
theorem rushlightref01_Cut.calls (a0 : Int) (r : Int) (w : World) (h : rushlightref01_Cut.f a0 = some r) :
    Calls Try.prog 25 #[.int .i64 a0] w fun e w' => e = .returned (.int .u32 r) ∧ Drawn0 w w' := by
  have H : (if (Int.tmod a0 4294967296) < 0 then (some ((wrap64 ((Int.tmod a0 4294967296) + 4294967296)) % 4294967296)) else (some ((Int.tmod a0 4294967296) % 4294967296))) = some r := h
  clear h
  by_cases c2 : (Int.tmod a0 4294967296) < 0
  · rw [if_pos c2] at H
    have c2b0 : decide ((Int.tmod a0 4294967296) < 0) = true := decide_eq_true c2
    clear c2
    obtain rfl := Option.some.inj H
    go_enter Try.func25, Try.ntmps25
    go_wp2
    go_ret
    exact ⟨by first | rfl | (simp; done) | (simp [*]; done), by repeat (first | exact Drawn0.refl _ | apply Drawn0.step)⟩
  · rw [if_neg c2] at H
    have c2b0 : decide ((Int.tmod a0 4294967296) < 0) = false := decide_eq_false c2
    clear c2
    obtain rfl := Option.some.inj H
    go_enter Try.func25, Try.ntmps25
    go_wp2
    go_ret
    exact ⟨by first | rfl | (simp; done) | (simp [*]; done), by repeat (first | exact Drawn0.refl _ | apply Drawn0.step)⟩
def rushlightref01_Signed.f (a0 : Int) : Option (Int) := if a0 ≥ 2147483648 then (some (wrap64 ((wrap64 (a0)) - 4294967296))) else (some (wrap64 (a0)))
set_option maxHeartbeats 8000000 in
set_option maxRecDepth 100000 in
theorem rushlightref01_Signed.calls (a0 : Int) (r : Int) (w : World) (h : rushlightref01_Signed.f a0 = some r) :
    Calls Try.prog 43 #[.int .u32 a0] w fun e w' => e = .returned (.int .i64 r) ∧ Drawn0 w w' := by
  have H : (if a0 ≥ 2147483648 then (some (wrap64 ((wrap64 (a0)) - 4294967296))) else (some (wrap64 (a0)))) = some r := h
  clear h
  by_cases c2 : a0 ≥ 2147483648
  · rw [if_pos c2] at H
    have c2b0 : decide (2147483648 ≤ a0) = true := decide_eq_true c2
    clear c2
    obtain rfl := Option.some.inj H
    go_enter Try.func43, Try.ntmps43
    go_wp2
    go_ret
    exact ⟨by first | rfl | (simp; done) | (simp [*]; done), by repeat (first | exact Drawn0.refl _ | apply Drawn0.step)⟩
  · rw [if_neg c2] at H
    have c2b0 : decide (2147483648 ≤ a0) = false := decide_eq_false c2
    clear c2
    obtain rfl := Option.some.inj H
    go_enter Try.func43, Try.ntmps43
    go_wp2
    go_ret
    exact ⟨by first | rfl | (simp; done) | (simp [*]; done), by repeat (first | exact Drawn0.refl _ | apply Drawn0.step)⟩
mutual
def rushlightref01_Sign.j0 : Nat → Int → Int → Bool → Option (Int)
  | 0, _, _, _ => none
  | k + 1, x0, x1, x13 => if x13 = true then (some x0) else (rushlightref01_Sign.l0 k x0 x1 1 0)
def rushlightref01_Sign.l0 : Nat → Int → Int → Int → Int → Option (Int)
  | 0, _, _, _, _ => none
  | k + 1, x0, x1, x5, x6 => if x6 < x1 then (rushlightref01_Sign.l0 k x0 x1 (wrap64 (2 * x5)) (wrap64 (x6 + 1))) else (if x5 = 0 then (none) else (if (Int.tmod (wrap64 (x0)) x5) ≥ (wrap64 (Int.tdiv x5 2)) then ((rushlightref01_Cut.f (wrap64 ((Int.tmod (wrap64 (x0)) x5) - x5))).bind fun t248 => (some t248)) else ((rushlightref01_Cut.f (Int.tmod (wrap64 (x0)) x5)).bind fun t249 => (some t249))))
end
def rushlightref01_Sign.f (k : Nat) (a0 : Int) (a1 : Int) : Option (Int) := if a1 < 1 then (rushlightref01_Sign.j0 k a0 a1 true) else (rushlightref01_Sign.j0 k a0 a1 (decide (a1 > 31)))
set_option maxHeartbeats 8000000 in
set_option maxRecDepth 100000 in
theorem rushlightref01_Sign.calls (k : Nat) (a0 : Int) (a1 : Int) (r : Int) (w : World) (h : rushlightref01_Sign.f k a0 a1 = some r) :
    Calls Try.prog 44 #[.int .u32 a0, .int .i64 a1] w fun e w' => e = .returned (.int .u32 r) ∧ Drawn0 w w' := by
  have H : (if a1 < 1 then (rushlightref01_Sign.j0 k a0 a1 true) else (rushlightref01_Sign.j0 k a0 a1 (decide (a1 > 31)))) = some r := h
  clear h
  have HC3 := Aside0.mk H
  clear H
  go_enter Try.func44, Try.ntmps44
  go_upto_region 1 with (fail)
  go_cut [13] (fun v13 wc => ∃ (kq : Nat) (x13_2 : Bool), v13 = .bool x13_2 ∧ Aside0 (rushlightref01_Sign.j0 kq a0 a1 x13_2 = some r) ∧ Aside0 (kq ≤ k) ∧ Drawn0 w wc)
  case first =>
    have H := HC3.out
    clear HC3
    by_cases c4 : a1 < 1
    · rw [if_pos c4] at H
      have c4b0 : decide (a1 < 1) = true := decide_eq_true c4
      clear c4
      (first | rw [c4b0] | (simp only [i64_w, i32_w]; rw [c4b0]) | skip)
      have H' := Aside0.mk H
      clear H
      go_wp2
      go_meet
      case rel => exact ⟨_, (true), (by first | rfl | (simp; done) | (simp [*]; done)), H', ⟨by first | omega | exact Nat.le_refl _⟩, by repeat (first | exact Drawn0.refl _ | apply Drawn0.step)⟩
    · rw [if_neg c4] at H
      have c4b0 : decide (a1 < 1) = false := decide_eq_false c4
      clear c4
      (first | rw [c4b0] | (simp only [i64_w, i32_w]; rw [c4b0]) | skip)
      have H' := Aside0.mk H
      clear H
      go_wp2
      go_meet
      case rel => exact ⟨_, (decide (a1 > 31)), (by first | rfl | (simp; done) | (simp [*]; done)), H', ⟨by first | omega | exact Nat.le_refl _⟩, by repeat (first | exact Drawn0.refl _ | apply Drawn0.step)⟩
  case rest =>
    clear HC3
    try clear p2
    try clear c4
    try clear c4b0
    obtain ⟨kq, x13_2, rfl, HA, HJ2, ⟨mc2, rfl⟩⟩ := hcut
    cases kq with
    | zero => exact absurd HA.out (by simp [rushlightref01_Sign.j0])
    | succ kj2 =>
      have H := HA.out
      clear HA
      simp only [rushlightref01_Sign.j0] at H
      by_cases c5 : x13_2 = true
      · subst c5
        have H1 : (some a0) = some r := by rw [if_pos rfl] at H; exact H
        clear H
        have H := H1
        clear H1
        obtain rfl := Option.some.inj H
        go_wp2
        go_ret
        exact ⟨by first | rfl | (simp; done) | (simp [*]; done), by repeat (first | exact Drawn0.refl _ | apply Drawn0.step)⟩
      · replace c5 := Bool.eq_false_iff.mpr c5
        subst c5
        have H1 : (rushlightref01_Sign.l0 kj2 a0 a1 1 0) = some r := by rw [if_neg (show ¬ (false = true) by decide)] at H; exact H
        clear H
        have H := H1
        clear H1
        have H' := Aside0.mk H
        clear H
        go_wp2
        go_loopg [5, 6] kj2 (fun kq v5 v6 w' => ∃ (x5_2 : Int) (x6_2 : Int), v5 = .int .i64 x5_2 ∧ v6 = .int .i64 x6_2 ∧ Aside0 (rushlightref01_Sign.l0 kq a0 a1 x5_2 x6_2 = some r) ∧ Aside0 (kq ≤ kj2) ∧ Drawn0 w w')
        case atStart => exact ⟨(1), (0), (by first | rfl | (simp; done) | (simp [*]; done)), (by first | rfl | (simp; done) | (simp [*]; done)), H', ⟨Nat.le_refl _⟩, by repeat (first | exact Drawn0.refl _ | apply Drawn0.step)⟩
        case round =>
          clear H'
          try clear c2
          try clear p2
          try clear c4
          try clear c4b0
          try clear c5
          try clear p2
          obtain ⟨x5_2, x6_2, rfl, rfl, HA, HK2, ⟨m2, rfl⟩⟩ := hrel
          cases gk with
          | zero => exact absurd HA.out (by simp [rushlightref01_Sign.l0])
          | succ k2 =>
            have H := HA.out
            clear HA
            simp only [rushlightref01_Sign.l0] at H
            by_cases c6 : x6_2 < a1
            · rw [if_pos c6] at H
              have c6b0 : decide (x6_2 < a1) = true := decide_eq_true c6
              clear c6
              have H' := Aside0.mk H
              clear H
              go_wp2
              go_roundg k2
              case measure => have := HJ2.out; have := HK2.out; omega
              case rel => exact ⟨(wrap64 (2 * x5_2)), (wrap64 (x6_2 + 1)), (by first | rfl | (simp; done) | (simp [*]; done)), (by first | rfl | (simp; done) | (simp [*]; done)), H', ⟨by have := HJ2.out; have := HK2.out; omega⟩, by repeat (first | exact Drawn0.refl _ | apply Drawn0.step)⟩
            · rw [if_neg c6] at H
              have c6b0 : decide (x6_2 < a1) = false := decide_eq_false c6
              clear c6
              by_cases c7 : x5_2 = 0
              · rw [if_pos c7] at H
                exact absurd H (by simp)
              · rw [if_neg c7] at H
                have c7b0 : (x5_2 == 0) = false := beq_eq_false_iff_ne.mpr c7
                have c7b1 : (x5_2 != 0) = true := bne_iff_ne.mpr c7
                by_cases c8 : (Int.tmod (wrap64 (a0)) x5_2) ≥ (wrap64 (Int.tdiv x5_2 2))
                · rw [if_pos c8] at H
                  have c8b0 : decide ((wrap64 (Int.tdiv x5_2 2)) ≤ (Int.tmod (wrap64 (a0)) x5_2)) = true := decide_eq_true c8
                  clear c8
                  replace H := Option.bind_eq_some_iff.mp H
                  obtain ⟨t248, A90, H⟩ := H
                  replace H : (some t248) = some r := H
                  have A9 := Aside0.mk A90
                  clear A90
                  obtain rfl := Option.some.inj H
                  go_wp2_with (first | ((with_reducible refine gate_callee (f := 25) rfl ?_); refine goesL_ (some 34) rfl rfl Try.func25 (by kernel_rfl) rfl #[.int .i64 (wrap64 ((Int.tmod (wrap64 (a0)) x5_2) - x5_2))] rfl (by (try simp only [List.map_toArray, List.map_cons, List.map_nil]); first | done | rfl | (simp only [List.length_drop, List.length_take]; rfl)) ?_; (with_reducible refine (rushlightref01_Cut.calls (wrap64 ((Int.tmod (wrap64 (a0)) x5_2) - x5_2)) t248 _ A9.out).mono ?_); rintro e w' ⟨rfl, ⟨nd, rfl⟩⟩; refine ⟨_, rfl, ?_⟩))
                  go_ret
                  exact ⟨by first | rfl | (simp; done) | (simp [*]; done), by repeat (first | exact Drawn0.refl _ | apply Drawn0.step)⟩
                · rw [if_neg c8] at H
                  have c8b0 : decide ((wrap64 (Int.tdiv x5_2 2)) ≤ (Int.tmod (wrap64 (a0)) x5_2)) = false := decide_eq_false c8
                  clear c8
                  replace H := Option.bind_eq_some_iff.mp H
                  obtain ⟨t249, A100, H⟩ := H
                  replace H : (some t249) = some r := H
                  have A10 := Aside0.mk A100
                  clear A100
                  obtain rfl := Option.some.inj H
                  go_wp2_with (first | ((with_reducible refine gate_callee (f := 25) rfl ?_); refine goesL_ (some 34) rfl rfl Try.func25 (by kernel_rfl) rfl #[.int .i64 (Int.tmod (wrap64 (a0)) x5_2)] rfl (by (try simp only [List.map_toArray, List.map_cons, List.map_nil]); first | done | rfl | (simp only [List.length_drop, List.length_take]; rfl)) ?_; (with_reducible refine (rushlightref01_Cut.calls (Int.tmod (wrap64 (a0)) x5_2) t249 _ A10.out).mono ?_); rintro e w' ⟨rfl, ⟨nd, rfl⟩⟩; refine ⟨_, rfl, ?_⟩))
                  go_ret
                  exact ⟨by first | rfl | (simp; done) | (simp [*]; done), by repeat (first | exact Drawn0.refl _ | apply Drawn0.step)⟩
def rushlightref05_Number.j0 : Nat → Int → Int → Int → Bool → Option ((List (S46)))
  | 0, _, _, _, _ => none
  | k + 1, x0, x1, x5, x16 => if x16 = true then (some (([(⟨19, x0, 0, 0, x5⟩ : S46)] : List (S46)))) else ((rushlightref01_Cut.f x1).bind fun t255 => ((rushlightref01_Sign.f k t255 12).bind fun t256 => ((rushlightref01_Signed.f t256).bind fun t257 => ((rushlightref01_Cut.f (wrap64 (x5 - t257))).bind fun t258 => ((rushlightref01_Signed.f t258).bind fun t259 => (if t257 = 0 then (some (([(⟨1, x0, 0, 0, t259⟩ : S46)] : List (S46)))) else (some (([(⟨1, x0, 0, 0, t259⟩ : S46), (⟨19, x0, x0, 0, t257⟩ : S46)] : List (S46))))))))))
def rushlightref05_Number.f (k : Nat) (a0 : Int) (a1 : Int) : Option ((List (S46))) := (rushlightref01_Cut.f a1).bind fun t250 => ((rushlightref01_Signed.f t250).bind fun t251 => (if t251 ≥ (-2048) then (rushlightref05_Number.j0 k a0 a1 t251 (decide (t251 ≤ 2047))) else (rushlightref05_Number.j0 k a0 a1 t251 false)))
set_option maxHeartbeats 8000000 in
set_option maxRecDepth 100000 in
theorem rushlightref05_Number.calls (k : Nat) (a0 : Int) (a1 : Int) (r : List (S46)) (w : World) (h : rushlightref05_Number.f k a0 a1 = some r) :
    Calls Try.prog 24 #[.int .i64 a0, .int .i64 a1] w fun e w' => ∃ v0_ : Value, e = .returned (v0_) ∧ Kd.R k46 46 w' w.heap.size (fun _ => True) v0_ r ∧ Below w.heap.size w w' := by
  have hu46 := Try.underlying46
  have HB := Aside0.mk (Below.refl w.heap.size w)
  have H : ((rushlightref01_Cut.f a1).bind fun t250 => ((rushlightref01_Signed.f t250).bind fun t251 => (if t251 ≥ (-2048) then (rushlightref05_Number.j0 k a0 a1 t251 (decide (t251 ≤ 2047))) else (rushlightref05_Number.j0 k a0 a1 t251 false)))) = some r := h
  clear h
  replace H := Option.bind_eq_some_iff.mp H
  obtain ⟨t250, A30, H⟩ := H
  replace H : ((rushlightref01_Signed.f t250).bind fun t251 => (if t251 ≥ (-2048) then (rushlightref05_Number.j0 k a0 a1 t251 (decide (t251 ≤ 2047))) else (rushlightref05_Number.j0 k a0 a1 t251 false))) = some r := H
  have A3 := Aside0.mk A30
  clear A30
  replace H := Option.bind_eq_some_iff.mp H
  obtain ⟨t251, A40, H⟩ := H
  replace H : (if t251 ≥ (-2048) then (rushlightref05_Number.j0 k a0 a1 t251 (decide (t251 ≤ 2047))) else (rushlightref05_Number.j0 k a0 a1 t251 false)) = some r := H
  have A4 := Aside0.mk A40
  clear A40
  have HC5 := Aside0.mk H
  clear H
  go_enter Try.func24, Try.ntmps24
  go_upto_region 2 with (first | ((with_reducible refine gate_callee (f := 25) rfl ?_); refine goesL_ (some 9) rfl rfl Try.func25 (by kernel_rfl) rfl #[.int .i64 a1] rfl (by (try simp only [List.map_toArray, List.map_cons, List.map_nil]); first | done | rfl | (simp only [List.length_drop, List.length_take]; rfl)) ?_; (with_reducible refine (rushlightref01_Cut.calls a1 t250 _ A3.out).mono ?_); rintro e w' ⟨rfl, ⟨nd, rfl⟩⟩; refine ⟨_, rfl, ?_⟩) | ((with_reducible refine gate_callee (f := 43) rfl ?_); refine goesL_ (some 10) rfl rfl Try.func43 (by kernel_rfl) rfl #[.int .u32 t250] rfl (by (try simp only [List.map_toArray, List.map_cons, List.map_nil]); first | done | rfl | (simp only [List.length_drop, List.length_take]; rfl)) ?_; (with_reducible refine (rushlightref01_Signed.calls t250 t251 _ A4.out).mono ?_); rintro e w' ⟨rfl, ⟨nd, rfl⟩⟩; refine ⟨_, rfl, ?_⟩))
  (try simp only [Act.put, List.setIfInBounds_toArray, List.set_cons_zero, List.set_cons_succ])
  go_cut [16] (fun v16 wc => ∃ (kq : Nat) (x16_4 : Bool), v16 = .bool x16_4 ∧ Aside0 (rushlightref05_Number.j0 kq a0 a1 t251 x16_4 = some r) ∧ Aside0 (kq ≤ k) ∧ Aside0 (Below w.heap.size w wc))
  case first =>
    have H := HC5.out
    clear HC5
    by_cases c6 : t251 ≥ (-2048)
    · rw [if_pos c6] at H
      have c6b0 : decide ((-2048) ≤ t251) = true := decide_eq_true c6
      clear c6
      (first | rw [c6b0] | (simp only [i64_w, i32_w]; rw [c6b0]) | skip)
      have H' := Aside0.mk H
      clear H
      go_wp2
      go_meet
      case rel => exact ⟨_, (decide (t251 ≤ 2047)), (by first | rfl | (simp; done) | (simp [*]; done)), H', ⟨by first | omega | exact Nat.le_refl _⟩, ⟨by repeat (first | (with_reducible first | exact HB.out | apply below_alloc | apply pw_below_drewN | apply below_drew1) | exact HB.out)⟩⟩
    · rw [if_neg c6] at H
      have c6b0 : decide ((-2048) ≤ t251) = false := decide_eq_false c6
      clear c6
      (first | rw [c6b0] | (simp only [i64_w, i32_w]; rw [c6b0]) | skip)
      have H' := Aside0.mk H
      clear H
      go_wp2
      go_meet
      case rel => exact ⟨_, (false), (by first | rfl | (simp; done) | (simp [*]; done)), H', ⟨by first | omega | exact Nat.le_refl _⟩, ⟨by repeat (first | (with_reducible first | exact HB.out | apply below_alloc | apply pw_below_drewN | apply below_drew1) | exact HB.out)⟩⟩
  case rest =>
    clear HC5
    try clear c2
    try clear p2
    try clear c4
    try clear c6
    try clear c6b0
    obtain ⟨kq, x16_4, rfl, HA, HJ4, HB⟩ := hcut
    cases kq with
    | zero => exact absurd HA.out (by simp [rushlightref05_Number.j0])
    | succ kj4 =>
      have H := HA.out
      clear HA
      simp only [rushlightref05_Number.j0] at H
      by_cases c7 : x16_4 = true
      · subst c7
        have H1 : (some (([(⟨19, a0, 0, 0, t251⟩ : S46)] : List (S46)))) = some r := by rw [if_pos rfl] at H; exact H
        clear H
        have H := H1
        clear H1
        obtain ⟨y252, hy252⟩ : ∃ y_ : List (S46), y_ = (([(⟨19, a0, 0, 0, t251⟩ : S46)] : List (S46))) := ⟨_, rfl⟩
        replace H : (some y252) = some r := by first | (rw [hy252]; with_reducible exact H) | (have H2_ := (Option.bind_some _ _).symm.trans H; rw [hy252]; with_reducible exact H2_) | (have H2_ := (Option.bind_some _ _).symm.trans H; with_reducible exact H2_) | with_reducible exact H | (rw [hy252]; exact H) | exact H
        have Ny252 := Aside0.mk hy252
        clear hy252
        obtain rfl := Option.some.inj H
        go_wp2_with (first | ((with_reducible refine gate_dst (N := 20) rfl ?_); refine Kd.R_lit k46 _ 46 ?hg (N := 20) ?hd (xs := ([(⟨19, a0, 0, 0, t251⟩ : S46)] : List (S46))) (inner := [.int .i64 19, .int .i64 a0, .int .i64 0, .int .i64 0, .int .i64 t251]) (ok := fun _ => True) (okp := fun _ => True) ?hr ?hp (fun _ hk => hk) trivial (Below.refl _ _) (Nat.le_refl _) (by simp) ?_; (case hd => rfl); (case hg => rfl); (case hr => first | (go_simp; done) | (go_simp; rfl)); (case hp => exact (Reps.c5 (show Kd.M k46 _ _ _ (⟨19, a0, 0, 0, t251⟩ : S46) [.int .i64 19, .int .i64 a0, .int .i64 0, .int .i64 0, .int .i64 t251] from (k46_mkM _ _ _ (⟨19, a0, 0, 0, t251⟩ : S46) )) (Reps.none _ _))); intro v253 w8 ho9 hb hg_ hnew_; clear hg_ hnew_; (first | rw [← Ny252.out] at ho9 | (simp only [Int.reduceToNat] at ho9; rw [← Ny252.out] at ho9)); have n0_ := Aside0.mk (Kd.R_lower ho9 (below_size (by repeat (first | (with_reducible first | exact HB.out | apply below_alloc | apply pw_below_drewN | apply below_drew1) | exact HB.out)))); have n1_ := Aside0.mk (below_step (by repeat (first | (with_reducible first | exact HB.out | apply below_alloc | apply pw_below_drewN | apply below_drew1) | exact HB.out)) hb); clear HB; have HO254 := n0_; have HB := n1_; clear n0_ n1_; clear hb ho9))
        go_ret
        exact ⟨_, by first | rfl | (simp [errW_none, errW_some] <;> rfl) | (simp [*, errW_none, errW_some] <;> rfl), by (with_reducible repeat (first | apply Kd.R_alloc | apply Kd.R_drewN | apply Kd.R_drew)); exact HO254.out, by repeat (first | (with_reducible first | exact HB.out | apply below_alloc | apply pw_below_drewN | apply below_drew1) | exact HB.out)⟩
      · replace c7 := Bool.eq_false_iff.mpr c7
        subst c7
        have H1 : ((rushlightref01_Cut.f a1).bind fun t255 => ((rushlightref01_Sign.f kj4 t255 12).bind fun t256 => ((rushlightref01_Signed.f t256).bind fun t257 => ((rushlightref01_Cut.f (wrap64 (t251 - t257))).bind fun t258 => ((rushlightref01_Signed.f t258).bind fun t259 => (if t257 = 0 then (some (([(⟨1, a0, 0, 0, t259⟩ : S46)] : List (S46)))) else (some (([(⟨1, a0, 0, 0, t259⟩ : S46), (⟨19, a0, a0, 0, t257⟩ : S46)] : List (S46)))))))))) = some r := by rw [if_neg (show ¬ (false = true) by decide)] at H; exact H
        clear H
        have H := H1
        clear H1
        replace H := Option.bind_eq_some_iff.mp H
        obtain ⟨t255, A100, H⟩ := H
        replace H : ((rushlightref01_Sign.f kj4 t255 12).bind fun t256 => ((rushlightref01_Signed.f t256).bind fun t257 => ((rushlightref01_Cut.f (wrap64 (t251 - t257))).bind fun t258 => ((rushlightref01_Signed.f t258).bind fun t259 => (if t257 = 0 then (some (([(⟨1, a0, 0, 0, t259⟩ : S46)] : List (S46)))) else (some (([(⟨1, a0, 0, 0, t259⟩ : S46), (⟨19, a0, a0, 0, t257⟩ : S46)] : List (S46))))))))) = some r := H
        have A10 := Aside0.mk A100
        clear A100
        replace H := Option.bind_eq_some_iff.mp H
        obtain ⟨t256, A110, H⟩ := H
        replace H : ((rushlightref01_Signed.f t256).bind fun t257 => ((rushlightref01_Cut.f (wrap64 (t251 - t257))).bind fun t258 => ((rushlightref01_Signed.f t258).bind fun t259 => (if t257 = 0 then (some (([(⟨1, a0, 0, 0, t259⟩ : S46)] : List (S46)))) else (some (([(⟨1, a0, 0, 0, t259⟩ : S46), (⟨19, a0, a0, 0, t257⟩ : S46)] : List (S46)))))))) = some r := H
        have A11 := Aside0.mk A110
        clear A110
        replace H := Option.bind_eq_some_iff.mp H
        obtain ⟨t257, A120, H⟩ := H
        replace H : ((rushlightref01_Cut.f (wrap64 (t251 - t257))).bind fun t258 => ((rushlightref01_Signed.f t258).bind fun t259 => (if t257 = 0 then (some (([(⟨1, a0, 0, 0, t259⟩ : S46)] : List (S46)))) else (some (([(⟨1, a0, 0, 0, t259⟩ : S46), (⟨19, a0, a0, 0, t257⟩ : S46)] : List (S46))))))) = some r := H
        have A12 := Aside0.mk A120
        clear A120
        replace H := Option.bind_eq_some_iff.mp H
        obtain ⟨t258, A130, H⟩ := H
        replace H : ((rushlightref01_Signed.f t258).bind fun t259 => (if t257 = 0 then (some (([(⟨1, a0, 0, 0, t259⟩ : S46)] : List (S46)))) else (some (([(⟨1, a0, 0, 0, t259⟩ : S46), (⟨19, a0, a0, 0, t257⟩ : S46)] : List (S46)))))) = some r := H
        have A13 := Aside0.mk A130
        clear A130
        replace H := Option.bind_eq_some_iff.mp H
        obtain ⟨t259, A140, H⟩ := H
        replace H : (if t257 = 0 then (some (([(⟨1, a0, 0, 0, t259⟩ : S46)] : List (S46)))) else (some (([(⟨1, a0, 0, 0, t259⟩ : S46), (⟨19, a0, a0, 0, t257⟩ : S46)] : List (S46))))) = some r := H
        have A14 := Aside0.mk A140
        clear A140
        by_cases c15 : t257 = 0
        · rw [if_pos c15] at H
          have c15b0 : (t257 == 0) = true := beq_iff_eq.mpr c15
          have c15b1 : (t257 != 0) = false := bne_eq_false_iff_eq.mpr c15
          clear c15
          obtain ⟨y260, hy260⟩ : ∃ y_ : List (S46), y_ = (([(⟨1, a0, 0, 0, t259⟩ : S46)] : List (S46))) := ⟨_, rfl⟩
          replace H : (some y260) = some r := by first | (rw [hy260]; with_reducible exact H) | (have H2_ := (Option.bind_some _ _).symm.trans H; rw [hy260]; with_reducible exact H2_) | (have H2_ := (Option.bind_some _ _).symm.trans H; with_reducible exact H2_) | with_reducible exact H | (rw [hy260]; exact H) | exact H
          have Ny260 := Aside0.mk hy260
          clear hy260
          obtain rfl := Option.some.inj H
          go_wp2_with (first | ((with_reducible refine gate_callee (f := 25) rfl ?_); refine goesL_ (some 22) rfl rfl Try.func25 (by kernel_rfl) rfl #[.int .i64 a1] rfl (by (try simp only [List.map_toArray, List.map_cons, List.map_nil]); first | done | rfl | (simp only [List.length_drop, List.length_take]; rfl)) ?_; (with_reducible refine (rushlightref01_Cut.calls a1 t255 _ A10.out).mono ?_); rintro e w' ⟨rfl, ⟨nd, rfl⟩⟩; refine ⟨_, rfl, ?_⟩) | ((with_reducible refine gate_callee (f := 44) rfl ?_); refine goesL_ (some 23) rfl rfl Try.func44 (by kernel_rfl) rfl #[.int .u32 t255, .int .i64 12] rfl (by (try simp only [List.map_toArray, List.map_cons, List.map_nil]); first | done | rfl | (simp only [List.length_drop, List.length_take]; rfl)) ?_; (with_reducible refine (rushlightref01_Sign.calls kj4 t255 12 t256 _ A11.out).mono ?_); rintro e w' ⟨rfl, ⟨nd, rfl⟩⟩; refine ⟨_, rfl, ?_⟩) | ((with_reducible refine gate_callee (f := 43) rfl ?_); refine goesL_ (some 24) rfl rfl Try.func43 (by kernel_rfl) rfl #[.int .u32 t256] rfl (by (try simp only [List.map_toArray, List.map_cons, List.map_nil]); first | done | rfl | (simp only [List.length_drop, List.length_take]; rfl)) ?_; (with_reducible refine (rushlightref01_Signed.calls t256 t257 _ A12.out).mono ?_); rintro e w' ⟨rfl, ⟨nd, rfl⟩⟩; refine ⟨_, rfl, ?_⟩) | ((with_reducible refine gate_callee (f := 25) rfl ?_); refine goesL_ (some 28) rfl rfl Try.func25 (by kernel_rfl) rfl #[.int .i64 (wrap64 (t251 - t257))] rfl (by (try simp only [List.map_toArray, List.map_cons, List.map_nil]); first | done | rfl | (simp only [List.length_drop, List.length_take]; rfl)) ?_; (with_reducible refine (rushlightref01_Cut.calls (wrap64 (t251 - t257)) t258 _ A13.out).mono ?_); rintro e w' ⟨rfl, ⟨nd, rfl⟩⟩; refine ⟨_, rfl, ?_⟩) | ((with_reducible refine gate_callee (f := 43) rfl ?_); refine goesL_ (some 29) rfl rfl Try.func43 (by kernel_rfl) rfl #[.int .u32 t258] rfl (by (try simp only [List.map_toArray, List.map_cons, List.map_nil]); first | done | rfl | (simp only [List.length_drop, List.length_take]; rfl)) ?_; (with_reducible refine (rushlightref01_Signed.calls t258 t259 _ A14.out).mono ?_); rintro e w' ⟨rfl, ⟨nd, rfl⟩⟩; refine ⟨_, rfl, ?_⟩) | ((with_reducible refine gate_dst (N := 35) rfl ?_); refine Kd.R_lit k46 _ 46 ?hg (N := 35) ?hd (xs := ([(⟨1, a0, 0, 0, t259⟩ : S46)] : List (S46))) (inner := [.int .i64 1, .int .i64 a0, .int .i64 0, .int .i64 0, .int .i64 t259]) (ok := fun _ => True) (okp := fun _ => True) ?hr ?hp (fun _ hk => hk) trivial (Below.refl _ _) (Nat.le_refl _) (by simp) ?_; (case hd => rfl); (case hg => rfl); (case hr => first | (go_simp; done) | (go_simp; rfl)); (case hp => exact (Reps.c5 (show Kd.M k46 _ _ _ (⟨1, a0, 0, 0, t259⟩ : S46) [.int .i64 1, .int .i64 a0, .int .i64 0, .int .i64 0, .int .i64 t259] from (k46_mkM _ _ _ (⟨1, a0, 0, 0, t259⟩ : S46) )) (Reps.none _ _))); intro v261 w16 ho17 hb hg_ hnew_; clear hg_ hnew_; (first | rw [← Ny260.out] at ho17 | (simp only [Int.reduceToNat] at ho17; rw [← Ny260.out] at ho17)); have n0_ := Aside0.mk (Kd.R_lower ho17 (below_size (by repeat (first | (with_reducible first | exact HB.out | apply below_alloc | apply pw_below_drewN | apply below_drew1) | exact HB.out)))); have n1_ := Aside0.mk (below_step (by repeat (first | (with_reducible first | exact HB.out | apply below_alloc | apply pw_below_drewN | apply below_drew1) | exact HB.out)) hb); clear HB; have HO262 := n0_; have HB := n1_; clear n0_ n1_; clear hb ho17))
          go_ret
          exact ⟨_, by first | rfl | (simp [errW_none, errW_some] <;> rfl) | (simp [*, errW_none, errW_some] <;> rfl), by (with_reducible repeat (first | apply Kd.R_alloc | apply Kd.R_drewN | apply Kd.R_drew)); exact HO262.out, by repeat (first | (with_reducible first | exact HB.out | apply below_alloc | apply pw_below_drewN | apply below_drew1) | exact HB.out)⟩
        · rw [if_neg c15] at H
          have c15b0 : (t257 == 0) = false := beq_eq_false_iff_ne.mpr c15
          have c15b1 : (t257 != 0) = true := bne_iff_ne.mpr c15
          obtain ⟨y263, hy263⟩ : ∃ y_ : List (S46), y_ = (([(⟨1, a0, 0, 0, t259⟩ : S46), (⟨19, a0, a0, 0, t257⟩ : S46)] : List (S46))) := ⟨_, rfl⟩
          replace H : (some y263) = some r := by first | (rw [hy263]; with_reducible exact H) | (have H2_ := (Option.bind_some _ _).symm.trans H; rw [hy263]; with_reducible exact H2_) | (have H2_ := (Option.bind_some _ _).symm.trans H; with_reducible exact H2_) | with_reducible exact H | (rw [hy263]; exact H) | exact H
          have Ny263 := Aside0.mk hy263
          clear hy263
          obtain rfl := Option.some.inj H
          go_wp2_with (first | ((with_reducible refine gate_callee (f := 25) rfl ?_); refine goesL_ (some 22) rfl rfl Try.func25 (by kernel_rfl) rfl #[.int .i64 a1] rfl (by (try simp only [List.map_toArray, List.map_cons, List.map_nil]); first | done | rfl | (simp only [List.length_drop, List.length_take]; rfl)) ?_; (with_reducible refine (rushlightref01_Cut.calls a1 t255 _ A10.out).mono ?_); rintro e w' ⟨rfl, ⟨nd, rfl⟩⟩; refine ⟨_, rfl, ?_⟩) | ((with_reducible refine gate_callee (f := 44) rfl ?_); refine goesL_ (some 23) rfl rfl Try.func44 (by kernel_rfl) rfl #[.int .u32 t255, .int .i64 12] rfl (by (try simp only [List.map_toArray, List.map_cons, List.map_nil]); first | done | rfl | (simp only [List.length_drop, List.length_take]; rfl)) ?_; (with_reducible refine (rushlightref01_Sign.calls kj4 t255 12 t256 _ A11.out).mono ?_); rintro e w' ⟨rfl, ⟨nd, rfl⟩⟩; refine ⟨_, rfl, ?_⟩) | ((with_reducible refine gate_callee (f := 43) rfl ?_); refine goesL_ (some 24) rfl rfl Try.func43 (by kernel_rfl) rfl #[.int .u32 t256] rfl (by (try simp only [List.map_toArray, List.map_cons, List.map_nil]); first | done | rfl | (simp only [List.length_drop, List.length_take]; rfl)) ?_; (with_reducible refine (rushlightref01_Signed.calls t256 t257 _ A12.out).mono ?_); rintro e w' ⟨rfl, ⟨nd, rfl⟩⟩; refine ⟨_, rfl, ?_⟩) | ((with_reducible refine gate_callee (f := 25) rfl ?_); refine goesL_ (some 28) rfl rfl Try.func25 (by kernel_rfl) rfl #[.int .i64 (wrap64 (t251 - t257))] rfl (by (try simp only [List.map_toArray, List.map_cons, List.map_nil]); first | done | rfl | (simp only [List.length_drop, List.length_take]; rfl)) ?_; (with_reducible refine (rushlightref01_Cut.calls (wrap64 (t251 - t257)) t258 _ A13.out).mono ?_); rintro e w' ⟨rfl, ⟨nd, rfl⟩⟩; refine ⟨_, rfl, ?_⟩) | ((with_reducible refine gate_callee (f := 43) rfl ?_); refine goesL_ (some 29) rfl rfl Try.func43 (by kernel_rfl) rfl #[.int .u32 t258] rfl (by (try simp only [List.map_toArray, List.map_cons, List.map_nil]); first | done | rfl | (simp only [List.length_drop, List.length_take]; rfl)) ?_; (with_reducible refine (rushlightref01_Signed.calls t258 t259 _ A14.out).mono ?_); rintro e w' ⟨rfl, ⟨nd, rfl⟩⟩; refine ⟨_, rfl, ?_⟩) | ((with_reducible refine gate_dst (N := 43) rfl ?_); refine Kd.R_lit k46 _ 46 ?hg (N := 43) ?hd (xs := ([(⟨1, a0, 0, 0, t259⟩ : S46), (⟨19, a0, a0, 0, t257⟩ : S46)] : List (S46))) (inner := [.int .i64 1, .int .i64 a0, .int .i64 0, .int .i64 0, .int .i64 t259, .int .i64 19, .int .i64 a0, .int .i64 a0, .int .i64 0, .int .i64 t257]) (ok := fun _ => True) (okp := fun _ => True) ?hr ?hp (fun _ hk => hk) trivial (Below.refl _ _) (Nat.le_refl _) (by simp) ?_; (case hd => rfl); (case hg => rfl); (case hr => first | (go_simp; done) | (go_simp; rfl)); (case hp => exact (Reps.c5 (show Kd.M k46 _ _ _ (⟨1, a0, 0, 0, t259⟩ : S46) [.int .i64 1, .int .i64 a0, .int .i64 0, .int .i64 0, .int .i64 t259] from (k46_mkM _ _ _ (⟨1, a0, 0, 0, t259⟩ : S46) )) (Reps.c5 (show Kd.M k46 _ _ _ (⟨19, a0, a0, 0, t257⟩ : S46) [.int .i64 19, .int .i64 a0, .int .i64 a0, .int .i64 0, .int .i64 t257] from (k46_mkM _ _ _ (⟨19, a0, a0, 0, t257⟩ : S46) )) (Reps.none _ _)))); intro v264 w18 ho19 hb hg_ hnew_; clear hg_ hnew_; (first | rw [← Ny263.out] at ho19 | (simp only [Int.reduceToNat] at ho19; rw [← Ny263.out] at ho19)); have n0_ := Aside0.mk (Kd.R_lower ho19 (below_size (by repeat (first | (with_reducible first | exact HB.out | apply below_alloc | apply pw_below_drewN | apply below_drew1) | exact HB.out)))); have n1_ := Aside0.mk (below_step (by repeat (first | (with_reducible first | exact HB.out | apply below_alloc | apply pw_below_drewN | apply below_drew1) | exact HB.out)) hb); clear HB; have HO265 := n0_; have HB := n1_; clear n0_ n1_; clear hb ho19))
          go_ret
          exact ⟨_, by first | rfl | (simp [errW_none, errW_some] <;> rfl) | (simp [*, errW_none, errW_some] <;> rfl), by (with_reducible repeat (first | apply Kd.R_alloc | apply Kd.R_drewN | apply Kd.R_drew)); exact HO265.out, by repeat (first | (with_reducible first | exact HB.out | apply below_alloc | apply pw_below_drewN | apply below_drew1) | exact HB.out)⟩
end Go.Proofs.Ytecbponmpinnoaa.P
end
section
namespace Go.Proofs.Ytecbponmpinnoaa.P
open Go.RowKit Go.Proofs.YtecbponmpinnoaaW.PrintWords Go.Proofs.YtecbponmpinnoaaW.PrintLast Go.Proofs.YtecbponmpinnoaaW.PrintMore
attribute [local go_sem] max2_int min2_int max_two min_two max_three min_three max_four min_four   
set_option linter.unusedVariables false
set_option linter.unusedSimpArgs false
end Go.Proofs.Ytecbponmpinnoaa.P
end
section
namespace Go.Proofs.Ytecbponmpinnoaa.P
open Go.RowKit Go.Proofs.YtecbponmpinnoaaW.PrintWords Go.Proofs.YtecbponmpinnoaaW.PrintLast Go.Proofs.YtecbponmpinnoaaW.PrintMore
attribute [local go_sem] max2_int min2_int max_two min_two max_three min_three max_four min_four   
set_option linter.unusedVariables false
set_option linter.unusedSimpArgs false
end Go.Proofs.Ytecbponmpinnoaa.P
end
section
namespace Go.Proofs.Ytecbponmpinnoaa.P
open Go.RowKit Go.Proofs.YtecbponmpinnoaaW.PrintWords Go.Proofs.YtecbponmpinnoaaW.PrintLast Go.Proofs.YtecbponmpinnoaaW.PrintMore
attribute [local go_sem] max2_int min2_int max_two min_two max_three min_three max_four min_four   
set_option linter.unusedVariables false
set_option linter.unusedSimpArgs false
end Go.Proofs.Ytecbponmpinnoaa.P
end
section
namespace Go.Proofs.Ytecbponmpinnoaa.P
open Go.RowKit Go.Proofs.YtecbponmpinnoaaW.PrintWords Go.Proofs.YtecbponmpinnoaaW.PrintLast Go.Proofs.YtecbponmpinnoaaW.PrintMore
attribute [local go_sem] max2_int min2_int max_two min_two max_three min_three max_four min_four   
set_option linter.unusedVariables false
set_option linter.unusedSimpArgs false
theorem eqA39 (d : Nat) (w : World) (x0 y0 : Int) (x1 y1 : Int) (x2 y2 : Int) (x3 y3 : Int) (x4 y4 : Int) :
    (Op.equalIn (d + 2) 39 (.agg #[.int .i64 x0, .int .i64 x1, .int .i64 x2, .int .i64 x3, .int .i64 x4]) (.agg #[.int .i64 y0, .int .i64 y1, .int .i64 y2, .int .i64 y3, .int .i64 y4])).run Try.prog w = .ok (x0 == y0 && (x1 == y1 && (x2 == y2 && (x3 == y3 && (x4 == y4))))) w := by
  refine eqA_of Try.underlying39 (by kernel_rfl) ?_
  refine eqf_cons (by rfl) (by go_simp; rfl) (by go_simp; rfl) (by go_simp) ?_
  refine eqf_cons (by rfl) (by go_simp; rfl) (by go_simp; rfl) (by go_simp) ?_
  refine eqf_cons (by rfl) (by go_simp; rfl) (by go_simp; rfl) (by go_simp) ?_
  refine eqf_cons (by rfl) (by go_simp; rfl) (by go_simp; rfl) (by go_simp) ?_
  exact eqf_last (by rfl) (by go_simp; rfl) (by go_simp; rfl) (by go_simp)
end Go.Proofs.Ytecbponmpinnoaa.P
end
section
namespace Go.Proofs.Ytecbponmpinnoaa.P
open Go.RowKit Go.Proofs.YtecbponmpinnoaaW.PrintWords Go.Proofs.YtecbponmpinnoaaW.PrintLast Go.Proofs.YtecbponmpinnoaaW.PrintMore
attribute [local go_sem] max2_int min2_int max_two min_two max_three min_three max_four min_four   
set_option linter.unusedVariables false
set_option linter.unusedSimpArgs false
attribute [local go_sem high] eqA39
def asm_Right.j0 : Nat → Bool → Int → Int → Int → Int → Int → Int → Int → Option (Bool)
  | 0, _, _, _, _, _, _, _, _ => none
  | k + 1, x3, x117000, x117001, x117002, x117003, x117004, x117005, x117006 => if x117000 = 1 then ((inst_Right.f k x117001 x117002 x117003 x117004 x117005).bind fun t117 => (if t117 = true then (some (x117006 == 0)) else (some false))) else (if x117000 = 2 then (if (x117001 == 0 && (x117002 == 0 && (x117003 == 0 && (x117004 == 0 && (x117005 == 0))))) = true then (some x3) else (some false)) else (if x117000 = 3 then ((inst_Right.f k x117001 x117002 x117003 x117004 x117005).bind fun t118 => (if t118 = true then ((asm_Contrary.f k x117001).bind fun t119 => (if t119 = 0 then (some false) else (if x117005 = 0 then (some x3) else (some false)))) else (some false))) else (if x117000 = 4 then ((inst_Right.f k x117001 x117002 x117003 x117004 x117005).bind fun t120 => (if t120 = true then (if x117001 = 3 then (if x117005 = 0 then (some x3) else (some false)) else (some false)) else (some false))) else (if x117000 = 5 then (if x117002 ≥ 0 then (if x117002 < 32 then (if (x117001 == 0 && (x117003 == 0 && (x117004 == 0))) = true then (if x117005 ≥ (-2147483648) then (if x117005 < 4294967296 then (some (x117006 == 0)) else (some false)) else (some false)) else (some false)) else (some false)) else (some false)) else (some false)))))
def asm_Right.f (k : Nat) (a0_0 : Int) (a0_1 : Int) (a0_2 : Int) (a0_3 : Int) (a0_4 : Int) (a0_5 : Int) (a0_6 : Int) : Option (Bool) := if a0_6 ≥ 0 then (asm_Right.j0 k (decide (a0_6 < 4096)) a0_0 a0_1 a0_2 a0_3 a0_4 a0_5 a0_6) else (asm_Right.j0 k false a0_0 a0_1 a0_2 a0_3 a0_4 a0_5 a0_6)
theorem asm_Right.mono_l : ∀ k, (∀ y0 y1 y2 y3 y4 y5 y6 y7, LeO (asm_Right.j0 k y0 y1 y2 y3 y4 y5 y6 y7) (asm_Right.j0 (k + 1) y0 y1 y2 y3 y4 y5 y6 y7))
  | 0 => fun _ _ _ _ _ _ _ _ r h => by simp [asm_Right.j0] at h
  | k + 1 => by
    have ih0 := asm_Right.mono_l k
    · intro y0 y1 y2 y3 y4 y5 y6 y7
      unfold asm_Right.j0
      repeat' first
      | (with_reducible exact ih0 _ _ _ _ _ _ _ _)
      | (with_reducible exact asm_Contrary.mono _ _)
      | (with_reducible exact inst_Right.mono _ _ _ _ _ _)
      | (with_reducible exact LeO.refl _)
      | (with_reducible exact LeO.none _)
      | (with_reducible refine LeO.ite ?_ ?_)
      | (with_reducible refine LeO.bind ?_ (fun _ => ?_))
      | exact ih0 _ _ _ _ _ _ _ _
      | exact asm_Contrary.mono _ _
      | exact inst_Right.mono _ _ _ _ _ _
      | exact LeO.none _
      | refine LeO.ite ?_ ?_
      | refine LeO.bind ?_ (fun _ => ?_)
theorem asm_Right.mono : ∀ a0 a1 a2 a3 a4 a5 a6 k, LeO (asm_Right.f k a0 a1 a2 a3 a4 a5 a6) (asm_Right.f (k + 1) a0 a1 a2 a3 a4 a5 a6) := by
  intro a0 a1 a2 a3 a4 a5 a6 k
  have ih0 := asm_Right.mono_l k
  unfold asm_Right.f
  repeat' first
      | (with_reducible exact ih0 _ _ _ _ _ _ _ _)
      | (with_reducible exact asm_Contrary.mono _ _)
      | (with_reducible exact inst_Right.mono _ _ _ _ _ _)
      | (with_reducible exact LeO.refl _)
      | (with_reducible exact LeO.none _)
      | (with_reducible refine LeO.ite ?_ ?_)
      | (with_reducible refine LeO.bind ?_ (fun _ => ?_))
      | exact ih0 _ _ _ _ _ _ _ _
      | exact asm_Contrary.mono _ _
      | exact inst_Right.mono _ _ _ _ _ _
      | exact LeO.none _
      | refine LeO.ite ?_ ?_
      | refine LeO.bind ?_ (fun _ => ?_)
set_option maxHeartbeats 8000000 in
set_option maxRecDepth 100000 in
theorem asm_Right.calls (k : Nat) (a0_0 : Int) (a0_1 : Int) (a0_2 : Int) (a0_3 : Int) (a0_4 : Int) (a0_5 : Int) (a0_6 : Int) (r : Bool) (w : World) (h : asm_Right.f k a0_0 a0_1 a0_2 a0_3 a0_4 a0_5 a0_6 = some r) :
    Calls Try.prog 14 #[.agg #[.int .i64 a0_0, .int .i64 a0_1, .int .i64 a0_2, .int .i64 a0_3, .int .i64 a0_4, .int .i64 a0_5, .int .i64 a0_6]] w fun e w' => e = .returned (.bool r) ∧ Below w.heap.size w w' := by
  have hu41 := Try.underlying41
  have hu39 := Try.underlying39
  have HB := Aside0.mk (Below.refl w.heap.size w)
  have H : (if a0_6 ≥ 0 then (asm_Right.j0 k (decide (a0_6 < 4096)) a0_0 a0_1 a0_2 a0_3 a0_4 a0_5 a0_6) else (asm_Right.j0 k false a0_0 a0_1 a0_2 a0_3 a0_4 a0_5 a0_6)) = some r := h
  clear h
  have HC2 := Aside0.mk H
  clear H
  go_enter Try.func14, Try.ntmps14
  go_upto_region 1 with (first | ((with_reducible refine gate_dst (N := 1) rfl ?_); refine box_event ?hg (N := 1) ?hd (cs := #[.int .i64 a0_0, .int .i64 a0_1, .int .i64 a0_2, .int .i64 a0_3, .int .i64 a0_4, .int .i64 a0_5, .int .i64 a0_6]) (t := 41) ?hr ?_; (case hd => rfl); (case hg => rfl); (case hr => first | (go_simp; done) | (go_simp; rfl)); intro gb116 hg w3 hbox hb; have n0_ := Aside0.mk (below_step (by repeat (first | (with_reducible first | exact HB.out | apply below_alloc | apply pw_below_drewN | apply below_drew1) | exact HB.out)) hb); have n1_ := Aside0.mk (hbox); have n2_ := Aside0.mk ((by rw [hg]; exact (below_size (by repeat (first | (with_reducible first | exact HB.out | apply below_alloc | apply pw_below_drewN | apply below_drew1) | exact HB.out))) : w.heap.size ≤ gb116)); have n3_ := Aside0.mk ((by rw [hg]; exact (below_size (by repeat (first | (with_reducible first | exact HB.out | apply below_alloc | apply pw_below_drewN | apply below_drew1) | exact HB.out))) : w.heap.size ≤ gb116)); clear HB; have HB := n0_; have BK116 := n1_; have GW116 := n2_; have GE116 := n3_; clear n0_ n1_ n2_ n3_; clear hb hbox hg))
  (try simp only [Act.put, List.setIfInBounds_toArray, List.set_cons_zero, List.set_cons_succ])
  go_cut [3] (fun v3 wc => ∃ (kq : Nat) (x3_1 : Bool), v3 = .bool x3_1 ∧ Aside0 (asm_Right.j0 kq x3_1 a0_0 a0_1 a0_2 a0_3 a0_4 a0_5 a0_6 = some r) ∧ Aside0 (kq ≤ k) ∧ Aside0 (wc.heap[gb116]? = some (.cells #[.int .i64 a0_0, .int .i64 a0_1, .int .i64 a0_2, .int .i64 a0_3, .int .i64 a0_4, .int .i64 a0_5, .int .i64 a0_6] 41 (0, 0))) ∧ Aside0 (Below w.heap.size w wc))
  case first =>
    have H := HC2.out
    clear HC2
    by_cases c4 : a0_6 ≥ 0
    · rw [if_pos c4] at H
      have c4b0 : decide (0 ≤ a0_6) = true := decide_eq_true c4
      clear c4
      (first | rw [c4b0] | (simp only [i64_w, i32_w]; rw [c4b0]) | skip)
      have H' := Aside0.mk H
      clear H
      have hcz5_0 : w3.cell? ⟨gb116, 0, none⟩ = some (.int .i64 a0_0) := (blk_cell BK116.out 0).trans rfl
      have hcz5_1 : w3.cell? ⟨gb116, 1, none⟩ = some (.int .i64 a0_1) := (blk_cell BK116.out 1).trans rfl
      have hcz5_2 : w3.cell? ⟨gb116, 2, none⟩ = some (.int .i64 a0_2) := (blk_cell BK116.out 2).trans rfl
      have hcz5_3 : w3.cell? ⟨gb116, 3, none⟩ = some (.int .i64 a0_3) := (blk_cell BK116.out 3).trans rfl
      have hcz5_4 : w3.cell? ⟨gb116, 4, none⟩ = some (.int .i64 a0_4) := (blk_cell BK116.out 4).trans rfl
      have hcz5_5 : w3.cell? ⟨gb116, 5, none⟩ = some (.int .i64 a0_5) := (blk_cell BK116.out 5).trans rfl
      have hcz5_6 : w3.cell? ⟨gb116, 6, none⟩ = some (.int .i64 a0_6) := (blk_cell BK116.out 6).trans rfl
      have hfz5_0 := blk_frozen BK116.out 0
      have hfz5_1 := blk_frozen BK116.out 1
      have hfz5_2 := blk_frozen BK116.out 2
      have hfz5_3 := blk_frozen BK116.out 3
      have hfz5_4 := blk_frozen BK116.out 4
      have hfz5_5 := blk_frozen BK116.out 5
      have hfz5_6 := blk_frozen BK116.out 6
      go_wp2
      go_meet
      case rel => exact ⟨_, (decide (a0_6 < 4096)), (by first | rfl | (simp; done) | (simp [*]; done)), H', ⟨by first | omega | exact Nat.le_refl _⟩, ⟨by (with_reducible repeat (first | refine blk_drewN ?_ _ | refine blk_drew ?_ | refine blk_alloc ?_ _)); exact BK116.out⟩, ⟨by repeat (first | (with_reducible first | exact HB.out | apply below_alloc | apply pw_below_drewN | apply below_drew1 | refine below_set ?_ GE116.out) | exact HB.out)⟩⟩
    · rw [if_neg c4] at H
      have c4b0 : decide (0 ≤ a0_6) = false := decide_eq_false c4
      clear c4
      (first | rw [c4b0] | (simp only [i64_w, i32_w]; rw [c4b0]) | skip)
      have H' := Aside0.mk H
      clear H
      have hcz6_0 : w3.cell? ⟨gb116, 0, none⟩ = some (.int .i64 a0_0) := (blk_cell BK116.out 0).trans rfl
      have hcz6_1 : w3.cell? ⟨gb116, 1, none⟩ = some (.int .i64 a0_1) := (blk_cell BK116.out 1).trans rfl
      have hcz6_2 : w3.cell? ⟨gb116, 2, none⟩ = some (.int .i64 a0_2) := (blk_cell BK116.out 2).trans rfl
      have hcz6_3 : w3.cell? ⟨gb116, 3, none⟩ = some (.int .i64 a0_3) := (blk_cell BK116.out 3).trans rfl
      have hcz6_4 : w3.cell? ⟨gb116, 4, none⟩ = some (.int .i64 a0_4) := (blk_cell BK116.out 4).trans rfl
      have hcz6_5 : w3.cell? ⟨gb116, 5, none⟩ = some (.int .i64 a0_5) := (blk_cell BK116.out 5).trans rfl
      have hcz6_6 : w3.cell? ⟨gb116, 6, none⟩ = some (.int .i64 a0_6) := (blk_cell BK116.out 6).trans rfl
      have hfz6_0 := blk_frozen BK116.out 0
      have hfz6_1 := blk_frozen BK116.out 1
      have hfz6_2 := blk_frozen BK116.out 2
      have hfz6_3 := blk_frozen BK116.out 3
      have hfz6_4 := blk_frozen BK116.out 4
      have hfz6_5 := blk_frozen BK116.out 5
      have hfz6_6 := blk_frozen BK116.out 6
      go_wp2
      go_meet
      case rel => exact ⟨_, (false), (by first | rfl | (simp; done) | (simp [*]; done)), H', ⟨by first | omega | exact Nat.le_refl _⟩, ⟨by (with_reducible repeat (first | refine blk_drewN ?_ _ | refine blk_drew ?_ | refine blk_alloc ?_ _)); exact BK116.out⟩, ⟨by repeat (first | (with_reducible first | exact HB.out | apply below_alloc | apply pw_below_drewN | apply below_drew1 | refine below_set ?_ GE116.out) | exact HB.out)⟩⟩
  case rest =>
    clear HC2
    try clear c1
    try clear p2
    try clear c4
    try clear c4b0
    try clear hcz5_0
    try clear hcz5_1
    try clear hcz5_2
    try clear hcz5_3
    try clear hcz5_4
    try clear hcz5_5
    try clear hcz5_6
    try clear hcz6_0
    try clear hcz6_1
    try clear hcz6_2
    try clear hcz6_3
    try clear hcz6_4
    try clear hcz6_5
    try clear hcz6_6
    try clear hfz5_0
    try clear hfz5_1
    try clear hfz5_2
    try clear hfz5_3
    try clear hfz5_4
    try clear hfz5_5
    try clear hfz5_6
    try clear hfz6_0
    try clear hfz6_1
    try clear hfz6_2
    try clear hfz6_3
    try clear hfz6_4
    try clear hfz6_5
    try clear hfz6_6
    obtain ⟨kq, x3_1, rfl, HA, HJ1, BK116, HB⟩ := hcut
    cases kq with
    | zero => exact absurd HA.out (by simp [asm_Right.j0])
    | succ kj1 =>
      have H := HA.out
      clear HA
      simp only [asm_Right.j0] at H
      by_cases c7 : a0_0 = 1
      · rw [if_pos c7] at H
        have c7b0 : (a0_0 == 1) = true := beq_iff_eq.mpr c7
        have c7b1 : (a0_0 != 1) = false := bne_eq_false_iff_eq.mpr c7
        clear c7
        replace H := Option.bind_eq_some_iff.mp H
        obtain ⟨t117, A80, H⟩ := H
        replace H : (if t117 = true then (some (a0_6 == 0)) else (some false)) = some r := H
        have A8 := Aside0.mk A80
        clear A80
        by_cases c9 : t117 = true
        · subst c9
          have H1 : (some (a0_6 == 0)) = some r := by rw [if_pos rfl] at H; exact H
          clear H
          have H := H1
          clear H1
          obtain rfl := Option.some.inj H
          have hcz10_0 : wc.cell? ⟨gb116, 0, none⟩ = some (.int .i64 a0_0) := (blk_cell BK116.out 0).trans rfl
          have hcz10_1 : wc.cell? ⟨gb116, 1, none⟩ = some (.int .i64 a0_1) := (blk_cell BK116.out 1).trans rfl
          have hcz10_2 : wc.cell? ⟨gb116, 2, none⟩ = some (.int .i64 a0_2) := (blk_cell BK116.out 2).trans rfl
          have hcz10_3 : wc.cell? ⟨gb116, 3, none⟩ = some (.int .i64 a0_3) := (blk_cell BK116.out 3).trans rfl
          have hcz10_4 : wc.cell? ⟨gb116, 4, none⟩ = some (.int .i64 a0_4) := (blk_cell BK116.out 4).trans rfl
          have hcz10_5 : wc.cell? ⟨gb116, 5, none⟩ = some (.int .i64 a0_5) := (blk_cell BK116.out 5).trans rfl
          have hcz10_6 : wc.cell? ⟨gb116, 6, none⟩ = some (.int .i64 a0_6) := (blk_cell BK116.out 6).trans rfl
          have hfz10_0 := blk_frozen BK116.out 0
          have hfz10_1 := blk_frozen BK116.out 1
          have hfz10_2 := blk_frozen BK116.out 2
          have hfz10_3 := blk_frozen BK116.out 3
          have hfz10_4 := blk_frozen BK116.out 4
          have hfz10_5 := blk_frozen BK116.out 5
          have hfz10_6 := blk_frozen BK116.out 6
          go_wp2_with (first | ((with_reducible refine gate_callee (f := 35) rfl ?_); refine goesL_ (some 19) rfl rfl Try.func35 (by kernel_rfl) rfl #[.agg #[.int .i64 a0_1, .int .i64 a0_2, .int .i64 a0_3, .int .i64 a0_4, .int .i64 a0_5]] rfl (by (try simp only [List.map_toArray, List.map_cons, List.map_nil]); first | done | rfl | (simp only [List.length_drop, List.length_take]; rfl)) ?_; (with_reducible refine (inst_Right.calls kj1 a0_1 a0_2 a0_3 a0_4 a0_5 true _ A8.out).mono ?_); rintro e w11 ⟨rfl, hb⟩; refine ⟨_, rfl, ?_⟩; have n0_ := Aside0.mk (blk_below (g := gb116) (o := .cells #[.int .i64 a0_0, .int .i64 a0_1, .int .i64 a0_2, .int .i64 a0_3, .int .i64 a0_4, .int .i64 a0_5, .int .i64 a0_6] 41 (0, 0)) (by (with_reducible repeat (first | refine blk_drewN ?_ _ | refine blk_drew ?_ | refine blk_alloc ?_ _)); exact BK116.out) hb); have n1_ := Aside0.mk (below_step (by repeat (first | (with_reducible first | exact HB.out | apply below_alloc | apply pw_below_drewN | apply below_drew1 | refine below_set ?_ GE116.out) | exact HB.out)) hb); clear BK116; clear HB; have BK116 := n0_; have HB := n1_; clear n0_ n1_; (try clear hb); (try clear hb2); (try clear hk); (try clear hi); have hcz12_0 : w11.cell? ⟨gb116, 0, none⟩ = some (.int .i64 a0_0) := (blk_cell BK116.out 0).trans rfl; have hcz12_1 : w11.cell? ⟨gb116, 1, none⟩ = some (.int .i64 a0_1) := (blk_cell BK116.out 1).trans rfl; have hcz12_2 : w11.cell? ⟨gb116, 2, none⟩ = some (.int .i64 a0_2) := (blk_cell BK116.out 2).trans rfl; have hcz12_3 : w11.cell? ⟨gb116, 3, none⟩ = some (.int .i64 a0_3) := (blk_cell BK116.out 3).trans rfl; have hcz12_4 : w11.cell? ⟨gb116, 4, none⟩ = some (.int .i64 a0_4) := (blk_cell BK116.out 4).trans rfl; have hcz12_5 : w11.cell? ⟨gb116, 5, none⟩ = some (.int .i64 a0_5) := (blk_cell BK116.out 5).trans rfl; have hcz12_6 : w11.cell? ⟨gb116, 6, none⟩ = some (.int .i64 a0_6) := (blk_cell BK116.out 6).trans rfl; have hfz12_0 := blk_frozen BK116.out 0; have hfz12_1 := blk_frozen BK116.out 1; have hfz12_2 := blk_frozen BK116.out 2; have hfz12_3 := blk_frozen BK116.out 3; have hfz12_4 := blk_frozen BK116.out 4; have hfz12_5 := blk_frozen BK116.out 5; have hfz12_6 := blk_frozen BK116.out 6))
          go_ret
          exact ⟨by first | rfl | (simp [errW_none, errW_some] <;> rfl) | (simp [*, errW_none, errW_some] <;> rfl), by repeat (first | (with_reducible first | exact HB.out | apply below_alloc | apply pw_below_drewN | apply below_drew1 | refine below_set ?_ GE116.out) | exact HB.out)⟩
        · replace c9 := Bool.eq_false_iff.mpr c9
          subst c9
          have H1 : (some false) = some r := by rw [if_neg (show ¬ (false = true) by decide)] at H; exact H
          clear H
          have H := H1
          clear H1
          obtain rfl := Option.some.inj H
          have hcz13_0 : wc.cell? ⟨gb116, 0, none⟩ = some (.int .i64 a0_0) := (blk_cell BK116.out 0).trans rfl
          have hcz13_1 : wc.cell? ⟨gb116, 1, none⟩ = some (.int .i64 a0_1) := (blk_cell BK116.out 1).trans rfl
          have hcz13_2 : wc.cell? ⟨gb116, 2, none⟩ = some (.int .i64 a0_2) := (blk_cell BK116.out 2).trans rfl
          have hcz13_3 : wc.cell? ⟨gb116, 3, none⟩ = some (.int .i64 a0_3) := (blk_cell BK116.out 3).trans rfl
          have hcz13_4 : wc.cell? ⟨gb116, 4, none⟩ = some (.int .i64 a0_4) := (blk_cell BK116.out 4).trans rfl
          have hcz13_5 : wc.cell? ⟨gb116, 5, none⟩ = some (.int .i64 a0_5) := (blk_cell BK116.out 5).trans rfl
          have hcz13_6 : wc.cell? ⟨gb116, 6, none⟩ = some (.int .i64 a0_6) := (blk_cell BK116.out 6).trans rfl
          have hfz13_0 := blk_frozen BK116.out 0
          have hfz13_1 := blk_frozen BK116.out 1
          have hfz13_2 := blk_frozen BK116.out 2
          have hfz13_3 := blk_frozen BK116.out 3
          have hfz13_4 := blk_frozen BK116.out 4
          have hfz13_5 := blk_frozen BK116.out 5
          have hfz13_6 := blk_frozen BK116.out 6
          go_wp2_with (first | ((with_reducible refine gate_callee (f := 35) rfl ?_); refine goesL_ (some 19) rfl rfl Try.func35 (by kernel_rfl) rfl #[.agg #[.int .i64 a0_1, .int .i64 a0_2, .int .i64 a0_3, .int .i64 a0_4, .int .i64 a0_5]] rfl (by (try simp only [List.map_toArray, List.map_cons, List.map_nil]); first | done | rfl | (simp only [List.length_drop, List.length_take]; rfl)) ?_; (with_reducible refine (inst_Right.calls kj1 a0_1 a0_2 a0_3 a0_4 a0_5 false _ A8.out).mono ?_); rintro e w14 ⟨rfl, hb⟩; refine ⟨_, rfl, ?_⟩; have n0_ := Aside0.mk (blk_below (g := gb116) (o := .cells #[.int .i64 a0_0, .int .i64 a0_1, .int .i64 a0_2, .int .i64 a0_3, .int .i64 a0_4, .int .i64 a0_5, .int .i64 a0_6] 41 (0, 0)) (by (with_reducible repeat (first | refine blk_drewN ?_ _ | refine blk_drew ?_ | refine blk_alloc ?_ _)); exact BK116.out) hb); have n1_ := Aside0.mk (below_step (by repeat (first | (with_reducible first | exact HB.out | apply below_alloc | apply pw_below_drewN | apply below_drew1 | refine below_set ?_ GE116.out) | exact HB.out)) hb); clear BK116; clear HB; have BK116 := n0_; have HB := n1_; clear n0_ n1_; (try clear hb); (try clear hb2); (try clear hk); (try clear hi)))
          go_ret
          exact ⟨by first | rfl | (simp [errW_none, errW_some] <;> rfl) | (simp [*, errW_none, errW_some] <;> rfl), by repeat (first | (with_reducible first | exact HB.out | apply below_alloc | apply pw_below_drewN | apply below_drew1 | refine below_set ?_ GE116.out) | exact HB.out)⟩
      · rw [if_neg c7] at H
        have c7b0 : (a0_0 == 1) = false := beq_eq_false_iff_ne.mpr c7
        have c7b1 : (a0_0 != 1) = true := bne_iff_ne.mpr c7
        by_cases c15 : a0_0 = 2
        · rw [if_pos c15] at H
          have c15b0 : (a0_0 == 2) = true := beq_iff_eq.mpr c15
          have c15b1 : (a0_0 != 2) = false := bne_eq_false_iff_eq.mpr c15
          clear c15
          by_cases c16 : (a0_1 == 0 && (a0_2 == 0 && (a0_3 == 0 && (a0_4 == 0 && (a0_5 == 0))))) = true
          · rw [if_pos c16] at H
            have c16b0 : (a0_1 == 0 && (a0_2 == 0 && (a0_3 == 0 && (a0_4 == 0 && (a0_5 == 0))))) = true := c16
            (try (have c16b1 : decide (a0_1 = 0 && (a0_2 == 0 && (a0_3 == 0 && (a0_4 == 0 && (a0_5 == 0))))) = true := by simpa using c16))
            (try (have c16b2 : (a0_1 == 0 && (a0_2 == 0 && (a0_3 == 0 && (a0_4 == 0 && (a0_5 == 0))))) = true := by simpa using c16))
            clear c16
            obtain rfl := Option.some.inj H
            have hcz17_0 : wc.cell? ⟨gb116, 0, none⟩ = some (.int .i64 a0_0) := (blk_cell BK116.out 0).trans rfl
            have hcz17_1 : wc.cell? ⟨gb116, 1, none⟩ = some (.int .i64 a0_1) := (blk_cell BK116.out 1).trans rfl
            have hcz17_2 : wc.cell? ⟨gb116, 2, none⟩ = some (.int .i64 a0_2) := (blk_cell BK116.out 2).trans rfl
            have hcz17_3 : wc.cell? ⟨gb116, 3, none⟩ = some (.int .i64 a0_3) := (blk_cell BK116.out 3).trans rfl
            have hcz17_4 : wc.cell? ⟨gb116, 4, none⟩ = some (.int .i64 a0_4) := (blk_cell BK116.out 4).trans rfl
            have hcz17_5 : wc.cell? ⟨gb116, 5, none⟩ = some (.int .i64 a0_5) := (blk_cell BK116.out 5).trans rfl
            have hcz17_6 : wc.cell? ⟨gb116, 6, none⟩ = some (.int .i64 a0_6) := (blk_cell BK116.out 6).trans rfl
            have hfz17_0 := blk_frozen BK116.out 0
            have hfz17_1 := blk_frozen BK116.out 1
            have hfz17_2 := blk_frozen BK116.out 2
            have hfz17_3 := blk_frozen BK116.out 3
            have hfz17_4 := blk_frozen BK116.out 4
            have hfz17_5 := blk_frozen BK116.out 5
            have hfz17_6 := blk_frozen BK116.out 6
            go_wp2
            go_ret
            exact ⟨by first | rfl | (simp [errW_none, errW_some] <;> rfl) | (simp [*, errW_none, errW_some] <;> rfl), by repeat (first | (with_reducible first | exact HB.out | apply below_alloc | apply pw_below_drewN | apply below_drew1 | refine below_set ?_ GE116.out) | exact HB.out)⟩
          · rw [if_neg c16] at H
            have c16b0 : (a0_1 == 0 && (a0_2 == 0 && (a0_3 == 0 && (a0_4 == 0 && (a0_5 == 0))))) = false := by simpa using c16
            (try (have c16b1 : decide (a0_1 = 0 && (a0_2 == 0 && (a0_3 == 0 && (a0_4 == 0 && (a0_5 == 0))))) = false := by simpa using c16))
            (try (have c16b2 : (a0_1 == 0 && (a0_2 == 0 && (a0_3 == 0 && (a0_4 == 0 && (a0_5 == 0))))) = false := by simpa using c16))
            (try (have c16b3 : ¬ (a0_1 = 0 && (a0_2 == 0 && (a0_3 == 0 && (a0_4 == 0 && (a0_5 == 0))))) := by simpa using c16))
            clear c16
            obtain rfl := Option.some.inj H
            have hcz18_0 : wc.cell? ⟨gb116, 0, none⟩ = some (.int .i64 a0_0) := (blk_cell BK116.out 0).trans rfl
            have hcz18_1 : wc.cell? ⟨gb116, 1, none⟩ = some (.int .i64 a0_1) := (blk_cell BK116.out 1).trans rfl
            have hcz18_2 : wc.cell? ⟨gb116, 2, none⟩ = some (.int .i64 a0_2) := (blk_cell BK116.out 2).trans rfl
            have hcz18_3 : wc.cell? ⟨gb116, 3, none⟩ = some (.int .i64 a0_3) := (blk_cell BK116.out 3).trans rfl
            have hcz18_4 : wc.cell? ⟨gb116, 4, none⟩ = some (.int .i64 a0_4) := (blk_cell BK116.out 4).trans rfl
            have hcz18_5 : wc.cell? ⟨gb116, 5, none⟩ = some (.int .i64 a0_5) := (blk_cell BK116.out 5).trans rfl
            have hcz18_6 : wc.cell? ⟨gb116, 6, none⟩ = some (.int .i64 a0_6) := (blk_cell BK116.out 6).trans rfl
            have hfz18_0 := blk_frozen BK116.out 0
            have hfz18_1 := blk_frozen BK116.out 1
            have hfz18_2 := blk_frozen BK116.out 2
            have hfz18_3 := blk_frozen BK116.out 3
            have hfz18_4 := blk_frozen BK116.out 4
            have hfz18_5 := blk_frozen BK116.out 5
            have hfz18_6 := blk_frozen BK116.out 6
            go_wp2
            go_ret
            exact ⟨by first | rfl | (simp [errW_none, errW_some] <;> rfl) | (simp [*, errW_none, errW_some] <;> rfl), by repeat (first | (with_reducible first | exact HB.out | apply below_alloc | apply pw_below_drewN | apply below_drew1 | refine below_set ?_ GE116.out) | exact HB.out)⟩
        · rw [if_neg c15] at H
          have c15b0 : (a0_0 == 2) = false := beq_eq_false_iff_ne.mpr c15
          have c15b1 : (a0_0 != 2) = true := bne_iff_ne.mpr c15
          by_cases c19 : a0_0 = 3
          · rw [if_pos c19] at H
            have c19b0 : (a0_0 == 3) = true := beq_iff_eq.mpr c19
            have c19b1 : (a0_0 != 3) = false := bne_eq_false_iff_eq.mpr c19
            clear c19
            replace H := Option.bind_eq_some_iff.mp H
            obtain ⟨t118, A200, H⟩ := H
            replace H : (if t118 = true then ((asm_Contrary.f kj1 a0_1).bind fun t119 => (if t119 = 0 then (some false) else (if a0_5 = 0 then (some x3_1) else (some false)))) else (some false)) = some r := H
            have A20 := Aside0.mk A200
            clear A200
            by_cases c21 : t118 = true
            · subst c21
              have H1 : ((asm_Contrary.f kj1 a0_1).bind fun t119 => (if t119 = 0 then (some false) else (if a0_5 = 0 then (some x3_1) else (some false)))) = some r := by rw [if_pos rfl] at H; exact H
              clear H
              have H := H1
              clear H1
              replace H := Option.bind_eq_some_iff.mp H
              obtain ⟨t119, A220, H⟩ := H
              replace H : (if t119 = 0 then (some false) else (if a0_5 = 0 then (some x3_1) else (some false))) = some r := H
              have A22 := Aside0.mk A220
              clear A220
              by_cases c23 : t119 = 0
              · rw [if_pos c23] at H
                have c23b0 : (t119 == 0) = true := beq_iff_eq.mpr c23
                have c23b1 : (t119 != 0) = false := bne_eq_false_iff_eq.mpr c23
                clear c23
                obtain rfl := Option.some.inj H
                have hcz24_0 : wc.cell? ⟨gb116, 0, none⟩ = some (.int .i64 a0_0) := (blk_cell BK116.out 0).trans rfl
                have hcz24_1 : wc.cell? ⟨gb116, 1, none⟩ = some (.int .i64 a0_1) := (blk_cell BK116.out 1).trans rfl
                have hcz24_2 : wc.cell? ⟨gb116, 2, none⟩ = some (.int .i64 a0_2) := (blk_cell BK116.out 2).trans rfl
                have hcz24_3 : wc.cell? ⟨gb116, 3, none⟩ = some (.int .i64 a0_3) := (blk_cell BK116.out 3).trans rfl
                have hcz24_4 : wc.cell? ⟨gb116, 4, none⟩ = some (.int .i64 a0_4) := (blk_cell BK116.out 4).trans rfl
                have hcz24_5 : wc.cell? ⟨gb116, 5, none⟩ = some (.int .i64 a0_5) := (blk_cell BK116.out 5).trans rfl
                have hcz24_6 : wc.cell? ⟨gb116, 6, none⟩ = some (.int .i64 a0_6) := (blk_cell BK116.out 6).trans rfl
                have hfz24_0 := blk_frozen BK116.out 0
                have hfz24_1 := blk_frozen BK116.out 1
                have hfz24_2 := blk_frozen BK116.out 2
                have hfz24_3 := blk_frozen BK116.out 3
                have hfz24_4 := blk_frozen BK116.out 4
                have hfz24_5 := blk_frozen BK116.out 5
                have hfz24_6 := blk_frozen BK116.out 6
                go_wp2_with (first | ((with_reducible refine gate_callee (f := 35) rfl ?_); refine goesL_ (some 38) rfl rfl Try.func35 (by kernel_rfl) rfl #[.agg #[.int .i64 a0_1, .int .i64 a0_2, .int .i64 a0_3, .int .i64 a0_4, .int .i64 a0_5]] rfl (by (try simp only [List.map_toArray, List.map_cons, List.map_nil]); first | done | rfl | (simp only [List.length_drop, List.length_take]; rfl)) ?_; (with_reducible refine (inst_Right.calls kj1 a0_1 a0_2 a0_3 a0_4 a0_5 true _ A20.out).mono ?_); rintro e w25 ⟨rfl, hb⟩; refine ⟨_, rfl, ?_⟩; have n0_ := Aside0.mk (blk_below (g := gb116) (o := .cells #[.int .i64 a0_0, .int .i64 a0_1, .int .i64 a0_2, .int .i64 a0_3, .int .i64 a0_4, .int .i64 a0_5, .int .i64 a0_6] 41 (0, 0)) (by (with_reducible repeat (first | refine blk_drewN ?_ _ | refine blk_drew ?_ | refine blk_alloc ?_ _)); exact BK116.out) hb); have n1_ := Aside0.mk (below_step (by repeat (first | (with_reducible first | exact HB.out | apply below_alloc | apply pw_below_drewN | apply below_drew1 | refine below_set ?_ GE116.out) | exact HB.out)) hb); clear BK116; clear HB; have BK116 := n0_; have HB := n1_; clear n0_ n1_; (try clear hb); (try clear hb2); (try clear hk); (try clear hi); have hcz26_0 : w25.cell? ⟨gb116, 0, none⟩ = some (.int .i64 a0_0) := (blk_cell BK116.out 0).trans rfl; have hcz26_1 : w25.cell? ⟨gb116, 1, none⟩ = some (.int .i64 a0_1) := (blk_cell BK116.out 1).trans rfl; have hcz26_2 : w25.cell? ⟨gb116, 2, none⟩ = some (.int .i64 a0_2) := (blk_cell BK116.out 2).trans rfl; have hcz26_3 : w25.cell? ⟨gb116, 3, none⟩ = some (.int .i64 a0_3) := (blk_cell BK116.out 3).trans rfl; have hcz26_4 : w25.cell? ⟨gb116, 4, none⟩ = some (.int .i64 a0_4) := (blk_cell BK116.out 4).trans rfl; have hcz26_5 : w25.cell? ⟨gb116, 5, none⟩ = some (.int .i64 a0_5) := (blk_cell BK116.out 5).trans rfl; have hcz26_6 : w25.cell? ⟨gb116, 6, none⟩ = some (.int .i64 a0_6) := (blk_cell BK116.out 6).trans rfl; have hfz26_0 := blk_frozen BK116.out 0; have hfz26_1 := blk_frozen BK116.out 1; have hfz26_2 := blk_frozen BK116.out 2; have hfz26_3 := blk_frozen BK116.out 3; have hfz26_4 := blk_frozen BK116.out 4; have hfz26_5 := blk_frozen BK116.out 5; have hfz26_6 := blk_frozen BK116.out 6) | (go_at_call 16; (with_reducible refine (asm_Contrary.calls kj1 a0_1 t119 _ A22.out).mono ?_); rintro e w' ⟨rfl, ⟨nd, rfl⟩⟩))
                go_ret
                exact ⟨by first | rfl | (simp [errW_none, errW_some] <;> rfl) | (simp [*, errW_none, errW_some] <;> rfl), by repeat (first | (with_reducible first | exact HB.out | apply below_alloc | apply pw_below_drewN | apply below_drew1 | refine below_set ?_ GE116.out) | exact HB.out)⟩
              · rw [if_neg c23] at H
                have c23b0 : (t119 == 0) = false := beq_eq_false_iff_ne.mpr c23
                have c23b1 : (t119 != 0) = true := bne_iff_ne.mpr c23
                by_cases c27 : a0_5 = 0
                · rw [if_pos c27] at H
                  have c27b0 : (a0_5 == 0) = true := beq_iff_eq.mpr c27
                  have c27b1 : (a0_5 != 0) = false := bne_eq_false_iff_eq.mpr c27
                  clear c27
                  obtain rfl := Option.some.inj H
                  have hcz28_0 : wc.cell? ⟨gb116, 0, none⟩ = some (.int .i64 a0_0) := (blk_cell BK116.out 0).trans rfl
                  have hcz28_1 : wc.cell? ⟨gb116, 1, none⟩ = some (.int .i64 a0_1) := (blk_cell BK116.out 1).trans rfl
                  have hcz28_2 : wc.cell? ⟨gb116, 2, none⟩ = some (.int .i64 a0_2) := (blk_cell BK116.out 2).trans rfl
                  have hcz28_3 : wc.cell? ⟨gb116, 3, none⟩ = some (.int .i64 a0_3) := (blk_cell BK116.out 3).trans rfl
                  have hcz28_4 : wc.cell? ⟨gb116, 4, none⟩ = some (.int .i64 a0_4) := (blk_cell BK116.out 4).trans rfl
                  have hcz28_5 : wc.cell? ⟨gb116, 5, none⟩ = some (.int .i64 a0_5) := (blk_cell BK116.out 5).trans rfl
                  have hcz28_6 : wc.cell? ⟨gb116, 6, none⟩ = some (.int .i64 a0_6) := (blk_cell BK116.out 6).trans rfl
                  have hfz28_0 := blk_frozen BK116.out 0
                  have hfz28_1 := blk_frozen BK116.out 1
                  have hfz28_2 := blk_frozen BK116.out 2
                  have hfz28_3 := blk_frozen BK116.out 3
                  have hfz28_4 := blk_frozen BK116.out 4
                  have hfz28_5 := blk_frozen BK116.out 5
                  have hfz28_6 := blk_frozen BK116.out 6
                  go_wp2_with (first | ((with_reducible refine gate_callee (f := 35) rfl ?_); refine goesL_ (some 38) rfl rfl Try.func35 (by kernel_rfl) rfl #[.agg #[.int .i64 a0_1, .int .i64 a0_2, .int .i64 a0_3, .int .i64 a0_4, .int .i64 a0_5]] rfl (by (try simp only [List.map_toArray, List.map_cons, List.map_nil]); first | done | rfl | (simp only [List.length_drop, List.length_take]; rfl)) ?_; (with_reducible refine (inst_Right.calls kj1 a0_1 a0_2 a0_3 a0_4 a0_5 true _ A20.out).mono ?_); rintro e w29 ⟨rfl, hb⟩; refine ⟨_, rfl, ?_⟩; have n0_ := Aside0.mk (blk_below (g := gb116) (o := .cells #[.int .i64 a0_0, .int .i64 a0_1, .int .i64 a0_2, .int .i64 a0_3, .int .i64 a0_4, .int .i64 a0_5, .int .i64 a0_6] 41 (0, 0)) (by (with_reducible repeat (first | refine blk_drewN ?_ _ | refine blk_drew ?_ | refine blk_alloc ?_ _)); exact BK116.out) hb); have n1_ := Aside0.mk (below_step (by repeat (first | (with_reducible first | exact HB.out | apply below_alloc | apply pw_below_drewN | apply below_drew1 | refine below_set ?_ GE116.out) | exact HB.out)) hb); clear BK116; clear HB; have BK116 := n0_; have HB := n1_; clear n0_ n1_; (try clear hb); (try clear hb2); (try clear hk); (try clear hi); have hcz30_0 : w29.cell? ⟨gb116, 0, none⟩ = some (.int .i64 a0_0) := (blk_cell BK116.out 0).trans rfl; have hcz30_1 : w29.cell? ⟨gb116, 1, none⟩ = some (.int .i64 a0_1) := (blk_cell BK116.out 1).trans rfl; have hcz30_2 : w29.cell? ⟨gb116, 2, none⟩ = some (.int .i64 a0_2) := (blk_cell BK116.out 2).trans rfl; have hcz30_3 : w29.cell? ⟨gb116, 3, none⟩ = some (.int .i64 a0_3) := (blk_cell BK116.out 3).trans rfl; have hcz30_4 : w29.cell? ⟨gb116, 4, none⟩ = some (.int .i64 a0_4) := (blk_cell BK116.out 4).trans rfl; have hcz30_5 : w29.cell? ⟨gb116, 5, none⟩ = some (.int .i64 a0_5) := (blk_cell BK116.out 5).trans rfl; have hcz30_6 : w29.cell? ⟨gb116, 6, none⟩ = some (.int .i64 a0_6) := (blk_cell BK116.out 6).trans rfl; have hfz30_0 := blk_frozen BK116.out 0; have hfz30_1 := blk_frozen BK116.out 1; have hfz30_2 := blk_frozen BK116.out 2; have hfz30_3 := blk_frozen BK116.out 3; have hfz30_4 := blk_frozen BK116.out 4; have hfz30_5 := blk_frozen BK116.out 5; have hfz30_6 := blk_frozen BK116.out 6) | (go_at_call 16; (with_reducible refine (asm_Contrary.calls kj1 a0_1 t119 _ A22.out).mono ?_); rintro e w' ⟨rfl, ⟨nd, rfl⟩⟩))
                  go_ret
                  exact ⟨by first | rfl | (simp [errW_none, errW_some] <;> rfl) | (simp [*, errW_none, errW_some] <;> rfl), by repeat (first | (with_reducible first | exact HB.out | apply below_alloc | apply pw_below_drewN | apply below_drew1 | refine below_set ?_ GE116.out) | exact HB.out)⟩
                · rw [if_neg c27] at H
                  have c27b0 : (a0_5 == 0) = false := beq_eq_false_iff_ne.mpr c27
                  have c27b1 : (a0_5 != 0) = true := bne_iff_ne.mpr c27
                  obtain rfl := Option.some.inj H
                  have hcz31_0 : wc.cell? ⟨gb116, 0, none⟩ = some (.int .i64 a0_0) := (blk_cell BK116.out 0).trans rfl
                  have hcz31_1 : wc.cell? ⟨gb116, 1, none⟩ = some (.int .i64 a0_1) := (blk_cell BK116.out 1).trans rfl
                  have hcz31_2 : wc.cell? ⟨gb116, 2, none⟩ = some (.int .i64 a0_2) := (blk_cell BK116.out 2).trans rfl
                  have hcz31_3 : wc.cell? ⟨gb116, 3, none⟩ = some (.int .i64 a0_3) := (blk_cell BK116.out 3).trans rfl
                  have hcz31_4 : wc.cell? ⟨gb116, 4, none⟩ = some (.int .i64 a0_4) := (blk_cell BK116.out 4).trans rfl
                  have hcz31_5 : wc.cell? ⟨gb116, 5, none⟩ = some (.int .i64 a0_5) := (blk_cell BK116.out 5).trans rfl
                  have hcz31_6 : wc.cell? ⟨gb116, 6, none⟩ = some (.int .i64 a0_6) := (blk_cell BK116.out 6).trans rfl
                  have hfz31_0 := blk_frozen BK116.out 0
                  have hfz31_1 := blk_frozen BK116.out 1
                  have hfz31_2 := blk_frozen BK116.out 2
                  have hfz31_3 := blk_frozen BK116.out 3
                  have hfz31_4 := blk_frozen BK116.out 4
                  have hfz31_5 := blk_frozen BK116.out 5
                  have hfz31_6 := blk_frozen BK116.out 6
                  go_wp2_with (first | ((with_reducible refine gate_callee (f := 35) rfl ?_); refine goesL_ (some 38) rfl rfl Try.func35 (by kernel_rfl) rfl #[.agg #[.int .i64 a0_1, .int .i64 a0_2, .int .i64 a0_3, .int .i64 a0_4, .int .i64 a0_5]] rfl (by (try simp only [List.map_toArray, List.map_cons, List.map_nil]); first | done | rfl | (simp only [List.length_drop, List.length_take]; rfl)) ?_; (with_reducible refine (inst_Right.calls kj1 a0_1 a0_2 a0_3 a0_4 a0_5 true _ A20.out).mono ?_); rintro e w32 ⟨rfl, hb⟩; refine ⟨_, rfl, ?_⟩; have n0_ := Aside0.mk (blk_below (g := gb116) (o := .cells #[.int .i64 a0_0, .int .i64 a0_1, .int .i64 a0_2, .int .i64 a0_3, .int .i64 a0_4, .int .i64 a0_5, .int .i64 a0_6] 41 (0, 0)) (by (with_reducible repeat (first | refine blk_drewN ?_ _ | refine blk_drew ?_ | refine blk_alloc ?_ _)); exact BK116.out) hb); have n1_ := Aside0.mk (below_step (by repeat (first | (with_reducible first | exact HB.out | apply below_alloc | apply pw_below_drewN | apply below_drew1 | refine below_set ?_ GE116.out) | exact HB.out)) hb); clear BK116; clear HB; have BK116 := n0_; have HB := n1_; clear n0_ n1_; (try clear hb); (try clear hb2); (try clear hk); (try clear hi); have hcz33_0 : w32.cell? ⟨gb116, 0, none⟩ = some (.int .i64 a0_0) := (blk_cell BK116.out 0).trans rfl; have hcz33_1 : w32.cell? ⟨gb116, 1, none⟩ = some (.int .i64 a0_1) := (blk_cell BK116.out 1).trans rfl; have hcz33_2 : w32.cell? ⟨gb116, 2, none⟩ = some (.int .i64 a0_2) := (blk_cell BK116.out 2).trans rfl; have hcz33_3 : w32.cell? ⟨gb116, 3, none⟩ = some (.int .i64 a0_3) := (blk_cell BK116.out 3).trans rfl; have hcz33_4 : w32.cell? ⟨gb116, 4, none⟩ = some (.int .i64 a0_4) := (blk_cell BK116.out 4).trans rfl; have hcz33_5 : w32.cell? ⟨gb116, 5, none⟩ = some (.int .i64 a0_5) := (blk_cell BK116.out 5).trans rfl; have hcz33_6 : w32.cell? ⟨gb116, 6, none⟩ = some (.int .i64 a0_6) := (blk_cell BK116.out 6).trans rfl; have hfz33_0 := blk_frozen BK116.out 0; have hfz33_1 := blk_frozen BK116.out 1; have hfz33_2 := blk_frozen BK116.out 2; have hfz33_3 := blk_frozen BK116.out 3; have hfz33_4 := blk_frozen BK116.out 4; have hfz33_5 := blk_frozen BK116.out 5; have hfz33_6 := blk_frozen BK116.out 6) | (go_at_call 16; (with_reducible refine (asm_Contrary.calls kj1 a0_1 t119 _ A22.out).mono ?_); rintro e w' ⟨rfl, ⟨nd, rfl⟩⟩))
                  go_ret
                  exact ⟨by first | rfl | (simp [errW_none, errW_some] <;> rfl) | (simp [*, errW_none, errW_some] <;> rfl), by repeat (first | (with_reducible first | exact HB.out | apply below_alloc | apply pw_below_drewN | apply below_drew1 | refine below_set ?_ GE116.out) | exact HB.out)⟩
            · replace c21 := Bool.eq_false_iff.mpr c21
              subst c21
              have H1 : (some false) = some r := by rw [if_neg (show ¬ (false = true) by decide)] at H; exact H
              clear H
              have H := H1
              clear H1
              obtain rfl := Option.some.inj H
              have hcz34_0 : wc.cell? ⟨gb116, 0, none⟩ = some (.int .i64 a0_0) := (blk_cell BK116.out 0).trans rfl
              have hcz34_1 : wc.cell? ⟨gb116, 1, none⟩ = some (.int .i64 a0_1) := (blk_cell BK116.out 1).trans rfl
              have hcz34_2 : wc.cell? ⟨gb116, 2, none⟩ = some (.int .i64 a0_2) := (blk_cell BK116.out 2).trans rfl
              have hcz34_3 : wc.cell? ⟨gb116, 3, none⟩ = some (.int .i64 a0_3) := (blk_cell BK116.out 3).trans rfl
              have hcz34_4 : wc.cell? ⟨gb116, 4, none⟩ = some (.int .i64 a0_4) := (blk_cell BK116.out 4).trans rfl
              have hcz34_5 : wc.cell? ⟨gb116, 5, none⟩ = some (.int .i64 a0_5) := (blk_cell BK116.out 5).trans rfl
              have hcz34_6 : wc.cell? ⟨gb116, 6, none⟩ = some (.int .i64 a0_6) := (blk_cell BK116.out 6).trans rfl
              have hfz34_0 := blk_frozen BK116.out 0
              have hfz34_1 := blk_frozen BK116.out 1
              have hfz34_2 := blk_frozen BK116.out 2
              have hfz34_3 := blk_frozen BK116.out 3
              have hfz34_4 := blk_frozen BK116.out 4
              have hfz34_5 := blk_frozen BK116.out 5
              have hfz34_6 := blk_frozen BK116.out 6
              go_wp2_with (first | ((with_reducible refine gate_callee (f := 35) rfl ?_); refine goesL_ (some 38) rfl rfl Try.func35 (by kernel_rfl) rfl #[.agg #[.int .i64 a0_1, .int .i64 a0_2, .int .i64 a0_3, .int .i64 a0_4, .int .i64 a0_5]] rfl (by (try simp only [List.map_toArray, List.map_cons, List.map_nil]); first | done | rfl | (simp only [List.length_drop, List.length_take]; rfl)) ?_; (with_reducible refine (inst_Right.calls kj1 a0_1 a0_2 a0_3 a0_4 a0_5 false _ A20.out).mono ?_); rintro e w35 ⟨rfl, hb⟩; refine ⟨_, rfl, ?_⟩; have n0_ := Aside0.mk (blk_below (g := gb116) (o := .cells #[.int .i64 a0_0, .int .i64 a0_1, .int .i64 a0_2, .int .i64 a0_3, .int .i64 a0_4, .int .i64 a0_5, .int .i64 a0_6] 41 (0, 0)) (by (with_reducible repeat (first | refine blk_drewN ?_ _ | refine blk_drew ?_ | refine blk_alloc ?_ _)); exact BK116.out) hb); have n1_ := Aside0.mk (below_step (by repeat (first | (with_reducible first | exact HB.out | apply below_alloc | apply pw_below_drewN | apply below_drew1 | refine below_set ?_ GE116.out) | exact HB.out)) hb); clear BK116; clear HB; have BK116 := n0_; have HB := n1_; clear n0_ n1_; (try clear hb); (try clear hb2); (try clear hk); (try clear hi)))
              go_ret
              exact ⟨by first | rfl | (simp [errW_none, errW_some] <;> rfl) | (simp [*, errW_none, errW_some] <;> rfl), by repeat (first | (with_reducible first | exact HB.out | apply below_alloc | apply pw_below_drewN | apply below_drew1 | refine below_set ?_ GE116.out) | exact HB.out)⟩
          · rw [if_neg c19] at H
            have c19b0 : (a0_0 == 3) = false := beq_eq_false_iff_ne.mpr c19
            have c19b1 : (a0_0 != 3) = true := bne_iff_ne.mpr c19
            by_cases c36 : a0_0 = 4
            · rw [if_pos c36] at H
              have c36b0 : (a0_0 == 4) = true := beq_iff_eq.mpr c36
              have c36b1 : (a0_0 != 4) = false := bne_eq_false_iff_eq.mpr c36
              clear c36
              replace H := Option.bind_eq_some_iff.mp H
              obtain ⟨t120, A370, H⟩ := H
              replace H : (if t120 = true then (if a0_1 = 3 then (if a0_5 = 0 then (some x3_1) else (some false)) else (some false)) else (some false)) = some r := H
              have A37 := Aside0.mk A370
              clear A370
              by_cases c38 : t120 = true
              · subst c38
                have H1 : (if a0_1 = 3 then (if a0_5 = 0 then (some x3_1) else (some false)) else (some false)) = some r := by rw [if_pos rfl] at H; exact H
                clear H
                have H := H1
                clear H1
                by_cases c39 : a0_1 = 3
                · rw [if_pos c39] at H
                  have c39b0 : (a0_1 == 3) = true := beq_iff_eq.mpr c39
                  have c39b1 : (a0_1 != 3) = false := bne_eq_false_iff_eq.mpr c39
                  clear c39
                  by_cases c40 : a0_5 = 0
                  · rw [if_pos c40] at H
                    have c40b0 : (a0_5 == 0) = true := beq_iff_eq.mpr c40
                    have c40b1 : (a0_5 != 0) = false := bne_eq_false_iff_eq.mpr c40
                    clear c40
                    obtain rfl := Option.some.inj H
                    have hcz41_0 : wc.cell? ⟨gb116, 0, none⟩ = some (.int .i64 a0_0) := (blk_cell BK116.out 0).trans rfl
                    have hcz41_1 : wc.cell? ⟨gb116, 1, none⟩ = some (.int .i64 a0_1) := (blk_cell BK116.out 1).trans rfl
                    have hcz41_2 : wc.cell? ⟨gb116, 2, none⟩ = some (.int .i64 a0_2) := (blk_cell BK116.out 2).trans rfl
                    have hcz41_3 : wc.cell? ⟨gb116, 3, none⟩ = some (.int .i64 a0_3) := (blk_cell BK116.out 3).trans rfl
                    have hcz41_4 : wc.cell? ⟨gb116, 4, none⟩ = some (.int .i64 a0_4) := (blk_cell BK116.out 4).trans rfl
                    have hcz41_5 : wc.cell? ⟨gb116, 5, none⟩ = some (.int .i64 a0_5) := (blk_cell BK116.out 5).trans rfl
                    have hcz41_6 : wc.cell? ⟨gb116, 6, none⟩ = some (.int .i64 a0_6) := (blk_cell BK116.out 6).trans rfl
                    have hfz41_0 := blk_frozen BK116.out 0
                    have hfz41_1 := blk_frozen BK116.out 1
                    have hfz41_2 := blk_frozen BK116.out 2
                    have hfz41_3 := blk_frozen BK116.out 3
                    have hfz41_4 := blk_frozen BK116.out 4
                    have hfz41_5 := blk_frozen BK116.out 5
                    have hfz41_6 := blk_frozen BK116.out 6
                    go_wp2_with (first | ((with_reducible refine gate_callee (f := 35) rfl ?_); refine goesL_ (some 59) rfl rfl Try.func35 (by kernel_rfl) rfl #[.agg #[.int .i64 a0_1, .int .i64 a0_2, .int .i64 a0_3, .int .i64 a0_4, .int .i64 a0_5]] rfl (by (try simp only [List.map_toArray, List.map_cons, List.map_nil]); first | done | rfl | (simp only [List.length_drop, List.length_take]; rfl)) ?_; (with_reducible refine (inst_Right.calls kj1 a0_1 a0_2 a0_3 a0_4 a0_5 true _ A37.out).mono ?_); rintro e w42 ⟨rfl, hb⟩; refine ⟨_, rfl, ?_⟩; have n0_ := Aside0.mk (blk_below (g := gb116) (o := .cells #[.int .i64 a0_0, .int .i64 a0_1, .int .i64 a0_2, .int .i64 a0_3, .int .i64 a0_4, .int .i64 a0_5, .int .i64 a0_6] 41 (0, 0)) (by (with_reducible repeat (first | refine blk_drewN ?_ _ | refine blk_drew ?_ | refine blk_alloc ?_ _)); exact BK116.out) hb); have n1_ := Aside0.mk (below_step (by repeat (first | (with_reducible first | exact HB.out | apply below_alloc | apply pw_below_drewN | apply below_drew1 | refine below_set ?_ GE116.out) | exact HB.out)) hb); clear BK116; clear HB; have BK116 := n0_; have HB := n1_; clear n0_ n1_; (try clear hb); (try clear hb2); (try clear hk); (try clear hi); have hcz43_0 : w42.cell? ⟨gb116, 0, none⟩ = some (.int .i64 a0_0) := (blk_cell BK116.out 0).trans rfl; have hcz43_1 : w42.cell? ⟨gb116, 1, none⟩ = some (.int .i64 a0_1) := (blk_cell BK116.out 1).trans rfl; have hcz43_2 : w42.cell? ⟨gb116, 2, none⟩ = some (.int .i64 a0_2) := (blk_cell BK116.out 2).trans rfl; have hcz43_3 : w42.cell? ⟨gb116, 3, none⟩ = some (.int .i64 a0_3) := (blk_cell BK116.out 3).trans rfl; have hcz43_4 : w42.cell? ⟨gb116, 4, none⟩ = some (.int .i64 a0_4) := (blk_cell BK116.out 4).trans rfl; have hcz43_5 : w42.cell? ⟨gb116, 5, none⟩ = some (.int .i64 a0_5) := (blk_cell BK116.out 5).trans rfl; have hcz43_6 : w42.cell? ⟨gb116, 6, none⟩ = some (.int .i64 a0_6) := (blk_cell BK116.out 6).trans rfl; have hfz43_0 := blk_frozen BK116.out 0; have hfz43_1 := blk_frozen BK116.out 1; have hfz43_2 := blk_frozen BK116.out 2; have hfz43_3 := blk_frozen BK116.out 3; have hfz43_4 := blk_frozen BK116.out 4; have hfz43_5 := blk_frozen BK116.out 5; have hfz43_6 := blk_frozen BK116.out 6))
                    go_ret
                    exact ⟨by first | rfl | (simp [errW_none, errW_some] <;> rfl) | (simp [*, errW_none, errW_some] <;> rfl), by repeat (first | (with_reducible first | exact HB.out | apply below_alloc | apply pw_below_drewN | apply below_drew1 | refine below_set ?_ GE116.out) | exact HB.out)⟩
                  · rw [if_neg c40] at H
                    have c40b0 : (a0_5 == 0) = false := beq_eq_false_iff_ne.mpr c40
                    have c40b1 : (a0_5 != 0) = true := bne_iff_ne.mpr c40
                    obtain rfl := Option.some.inj H
                    have hcz44_0 : wc.cell? ⟨gb116, 0, none⟩ = some (.int .i64 a0_0) := (blk_cell BK116.out 0).trans rfl
                    have hcz44_1 : wc.cell? ⟨gb116, 1, none⟩ = some (.int .i64 a0_1) := (blk_cell BK116.out 1).trans rfl
                    have hcz44_2 : wc.cell? ⟨gb116, 2, none⟩ = some (.int .i64 a0_2) := (blk_cell BK116.out 2).trans rfl
                    have hcz44_3 : wc.cell? ⟨gb116, 3, none⟩ = some (.int .i64 a0_3) := (blk_cell BK116.out 3).trans rfl
                    have hcz44_4 : wc.cell? ⟨gb116, 4, none⟩ = some (.int .i64 a0_4) := (blk_cell BK116.out 4).trans rfl
                    have hcz44_5 : wc.cell? ⟨gb116, 5, none⟩ = some (.int .i64 a0_5) := (blk_cell BK116.out 5).trans rfl
                    have hcz44_6 : wc.cell? ⟨gb116, 6, none⟩ = some (.int .i64 a0_6) := (blk_cell BK116.out 6).trans rfl
                    have hfz44_0 := blk_frozen BK116.out 0
                    have hfz44_1 := blk_frozen BK116.out 1
                    have hfz44_2 := blk_frozen BK116.out 2
                    have hfz44_3 := blk_frozen BK116.out 3
                    have hfz44_4 := blk_frozen BK116.out 4
                    have hfz44_5 := blk_frozen BK116.out 5
                    have hfz44_6 := blk_frozen BK116.out 6
                    go_wp2_with (first | ((with_reducible refine gate_callee (f := 35) rfl ?_); refine goesL_ (some 59) rfl rfl Try.func35 (by kernel_rfl) rfl #[.agg #[.int .i64 a0_1, .int .i64 a0_2, .int .i64 a0_3, .int .i64 a0_4, .int .i64 a0_5]] rfl (by (try simp only [List.map_toArray, List.map_cons, List.map_nil]); first | done | rfl | (simp only [List.length_drop, List.length_take]; rfl)) ?_; (with_reducible refine (inst_Right.calls kj1 a0_1 a0_2 a0_3 a0_4 a0_5 true _ A37.out).mono ?_); rintro e w45 ⟨rfl, hb⟩; refine ⟨_, rfl, ?_⟩; have n0_ := Aside0.mk (blk_below (g := gb116) (o := .cells #[.int .i64 a0_0, .int .i64 a0_1, .int .i64 a0_2, .int .i64 a0_3, .int .i64 a0_4, .int .i64 a0_5, .int .i64 a0_6] 41 (0, 0)) (by (with_reducible repeat (first | refine blk_drewN ?_ _ | refine blk_drew ?_ | refine blk_alloc ?_ _)); exact BK116.out) hb); have n1_ := Aside0.mk (below_step (by repeat (first | (with_reducible first | exact HB.out | apply below_alloc | apply pw_below_drewN | apply below_drew1 | refine below_set ?_ GE116.out) | exact HB.out)) hb); clear BK116; clear HB; have BK116 := n0_; have HB := n1_; clear n0_ n1_; (try clear hb); (try clear hb2); (try clear hk); (try clear hi); have hcz46_0 : w45.cell? ⟨gb116, 0, none⟩ = some (.int .i64 a0_0) := (blk_cell BK116.out 0).trans rfl; have hcz46_1 : w45.cell? ⟨gb116, 1, none⟩ = some (.int .i64 a0_1) := (blk_cell BK116.out 1).trans rfl; have hcz46_2 : w45.cell? ⟨gb116, 2, none⟩ = some (.int .i64 a0_2) := (blk_cell BK116.out 2).trans rfl; have hcz46_3 : w45.cell? ⟨gb116, 3, none⟩ = some (.int .i64 a0_3) := (blk_cell BK116.out 3).trans rfl; have hcz46_4 : w45.cell? ⟨gb116, 4, none⟩ = some (.int .i64 a0_4) := (blk_cell BK116.out 4).trans rfl; have hcz46_5 : w45.cell? ⟨gb116, 5, none⟩ = some (.int .i64 a0_5) := (blk_cell BK116.out 5).trans rfl; have hcz46_6 : w45.cell? ⟨gb116, 6, none⟩ = some (.int .i64 a0_6) := (blk_cell BK116.out 6).trans rfl; have hfz46_0 := blk_frozen BK116.out 0; have hfz46_1 := blk_frozen BK116.out 1; have hfz46_2 := blk_frozen BK116.out 2; have hfz46_3 := blk_frozen BK116.out 3; have hfz46_4 := blk_frozen BK116.out 4; have hfz46_5 := blk_frozen BK116.out 5; have hfz46_6 := blk_frozen BK116.out 6))
                    go_ret
                    exact ⟨by first | rfl | (simp [errW_none, errW_some] <;> rfl) | (simp [*, errW_none, errW_some] <;> rfl), by repeat (first | (with_reducible first | exact HB.out | apply below_alloc | apply pw_below_drewN | apply below_drew1 | refine below_set ?_ GE116.out) | exact HB.out)⟩
                · rw [if_neg c39] at H
                  have c39b0 : (a0_1 == 3) = false := beq_eq_false_iff_ne.mpr c39
                  have c39b1 : (a0_1 != 3) = true := bne_iff_ne.mpr c39
                  obtain rfl := Option.some.inj H
                  have hcz47_0 : wc.cell? ⟨gb116, 0, none⟩ = some (.int .i64 a0_0) := (blk_cell BK116.out 0).trans rfl
                  have hcz47_1 : wc.cell? ⟨gb116, 1, none⟩ = some (.int .i64 a0_1) := (blk_cell BK116.out 1).trans rfl
                  have hcz47_2 : wc.cell? ⟨gb116, 2, none⟩ = some (.int .i64 a0_2) := (blk_cell BK116.out 2).trans rfl
                  have hcz47_3 : wc.cell? ⟨gb116, 3, none⟩ = some (.int .i64 a0_3) := (blk_cell BK116.out 3).trans rfl
                  have hcz47_4 : wc.cell? ⟨gb116, 4, none⟩ = some (.int .i64 a0_4) := (blk_cell BK116.out 4).trans rfl
                  have hcz47_5 : wc.cell? ⟨gb116, 5, none⟩ = some (.int .i64 a0_5) := (blk_cell BK116.out 5).trans rfl
                  have hcz47_6 : wc.cell? ⟨gb116, 6, none⟩ = some (.int .i64 a0_6) := (blk_cell BK116.out 6).trans rfl
                  have hfz47_0 := blk_frozen BK116.out 0
                  have hfz47_1 := blk_frozen BK116.out 1
                  have hfz47_2 := blk_frozen BK116.out 2
                  have hfz47_3 := blk_frozen BK116.out 3
                  have hfz47_4 := blk_frozen BK116.out 4
                  have hfz47_5 := blk_frozen BK116.out 5
                  have hfz47_6 := blk_frozen BK116.out 6
                  go_wp2_with (first | ((with_reducible refine gate_callee (f := 35) rfl ?_); refine goesL_ (some 59) rfl rfl Try.func35 (by kernel_rfl) rfl #[.agg #[.int .i64 a0_1, .int .i64 a0_2, .int .i64 a0_3, .int .i64 a0_4, .int .i64 a0_5]] rfl (by (try simp only [List.map_toArray, List.map_cons, List.map_nil]); first | done | rfl | (simp only [List.length_drop, List.length_take]; rfl)) ?_; (with_reducible refine (inst_Right.calls kj1 a0_1 a0_2 a0_3 a0_4 a0_5 true _ A37.out).mono ?_); rintro e w48 ⟨rfl, hb⟩; refine ⟨_, rfl, ?_⟩; have n0_ := Aside0.mk (blk_below (g := gb116) (o := .cells #[.int .i64 a0_0, .int .i64 a0_1, .int .i64 a0_2, .int .i64 a0_3, .int .i64 a0_4, .int .i64 a0_5, .int .i64 a0_6] 41 (0, 0)) (by (with_reducible repeat (first | refine blk_drewN ?_ _ | refine blk_drew ?_ | refine blk_alloc ?_ _)); exact BK116.out) hb); have n1_ := Aside0.mk (below_step (by repeat (first | (with_reducible first | exact HB.out | apply below_alloc | apply pw_below_drewN | apply below_drew1 | refine below_set ?_ GE116.out) | exact HB.out)) hb); clear BK116; clear HB; have BK116 := n0_; have HB := n1_; clear n0_ n1_; (try clear hb); (try clear hb2); (try clear hk); (try clear hi); have hcz49_0 : w48.cell? ⟨gb116, 0, none⟩ = some (.int .i64 a0_0) := (blk_cell BK116.out 0).trans rfl; have hcz49_1 : w48.cell? ⟨gb116, 1, none⟩ = some (.int .i64 a0_1) := (blk_cell BK116.out 1).trans rfl; have hcz49_2 : w48.cell? ⟨gb116, 2, none⟩ = some (.int .i64 a0_2) := (blk_cell BK116.out 2).trans rfl; have hcz49_3 : w48.cell? ⟨gb116, 3, none⟩ = some (.int .i64 a0_3) := (blk_cell BK116.out 3).trans rfl; have hcz49_4 : w48.cell? ⟨gb116, 4, none⟩ = some (.int .i64 a0_4) := (blk_cell BK116.out 4).trans rfl; have hcz49_5 : w48.cell? ⟨gb116, 5, none⟩ = some (.int .i64 a0_5) := (blk_cell BK116.out 5).trans rfl; have hcz49_6 : w48.cell? ⟨gb116, 6, none⟩ = some (.int .i64 a0_6) := (blk_cell BK116.out 6).trans rfl; have hfz49_0 := blk_frozen BK116.out 0; have hfz49_1 := blk_frozen BK116.out 1; have hfz49_2 := blk_frozen BK116.out 2; have hfz49_3 := blk_frozen BK116.out 3; have hfz49_4 := blk_frozen BK116.out 4; have hfz49_5 := blk_frozen BK116.out 5; have hfz49_6 := blk_frozen BK116.out 6))
                  go_ret
                  exact ⟨by first | rfl | (simp [errW_none, errW_some] <;> rfl) | (simp [*, errW_none, errW_some] <;> rfl), by repeat (first | (with_reducible first | exact HB.out | apply below_alloc | apply pw_below_drewN | apply below_drew1 | refine below_set ?_ GE116.out) | exact HB.out)⟩
              · replace c38 := Bool.eq_false_iff.mpr c38
                subst c38
                have H1 : (some false) = some r := by rw [if_neg (show ¬ (false = true) by decide)] at H; exact H
                clear H
                have H := H1
                clear H1
                obtain rfl := Option.some.inj H
                have hcz50_0 : wc.cell? ⟨gb116, 0, none⟩ = some (.int .i64 a0_0) := (blk_cell BK116.out 0).trans rfl
                have hcz50_1 : wc.cell? ⟨gb116, 1, none⟩ = some (.int .i64 a0_1) := (blk_cell BK116.out 1).trans rfl
                have hcz50_2 : wc.cell? ⟨gb116, 2, none⟩ = some (.int .i64 a0_2) := (blk_cell BK116.out 2).trans rfl
                have hcz50_3 : wc.cell? ⟨gb116, 3, none⟩ = some (.int .i64 a0_3) := (blk_cell BK116.out 3).trans rfl
                have hcz50_4 : wc.cell? ⟨gb116, 4, none⟩ = some (.int .i64 a0_4) := (blk_cell BK116.out 4).trans rfl
                have hcz50_5 : wc.cell? ⟨gb116, 5, none⟩ = some (.int .i64 a0_5) := (blk_cell BK116.out 5).trans rfl
                have hcz50_6 : wc.cell? ⟨gb116, 6, none⟩ = some (.int .i64 a0_6) := (blk_cell BK116.out 6).trans rfl
                have hfz50_0 := blk_frozen BK116.out 0
                have hfz50_1 := blk_frozen BK116.out 1
                have hfz50_2 := blk_frozen BK116.out 2
                have hfz50_3 := blk_frozen BK116.out 3
                have hfz50_4 := blk_frozen BK116.out 4
                have hfz50_5 := blk_frozen BK116.out 5
                have hfz50_6 := blk_frozen BK116.out 6
                go_wp2_with (first | ((with_reducible refine gate_callee (f := 35) rfl ?_); refine goesL_ (some 59) rfl rfl Try.func35 (by kernel_rfl) rfl #[.agg #[.int .i64 a0_1, .int .i64 a0_2, .int .i64 a0_3, .int .i64 a0_4, .int .i64 a0_5]] rfl (by (try simp only [List.map_toArray, List.map_cons, List.map_nil]); first | done | rfl | (simp only [List.length_drop, List.length_take]; rfl)) ?_; (with_reducible refine (inst_Right.calls kj1 a0_1 a0_2 a0_3 a0_4 a0_5 false _ A37.out).mono ?_); rintro e w51 ⟨rfl, hb⟩; refine ⟨_, rfl, ?_⟩; have n0_ := Aside0.mk (blk_below (g := gb116) (o := .cells #[.int .i64 a0_0, .int .i64 a0_1, .int .i64 a0_2, .int .i64 a0_3, .int .i64 a0_4, .int .i64 a0_5, .int .i64 a0_6] 41 (0, 0)) (by (with_reducible repeat (first | refine blk_drewN ?_ _ | refine blk_drew ?_ | refine blk_alloc ?_ _)); exact BK116.out) hb); have n1_ := Aside0.mk (below_step (by repeat (first | (with_reducible first | exact HB.out | apply below_alloc | apply pw_below_drewN | apply below_drew1 | refine below_set ?_ GE116.out) | exact HB.out)) hb); clear BK116; clear HB; have BK116 := n0_; have HB := n1_; clear n0_ n1_; (try clear hb); (try clear hb2); (try clear hk); (try clear hi)))
                go_ret
                exact ⟨by first | rfl | (simp [errW_none, errW_some] <;> rfl) | (simp [*, errW_none, errW_some] <;> rfl), by repeat (first | (with_reducible first | exact HB.out | apply below_alloc | apply pw_below_drewN | apply below_drew1 | refine below_set ?_ GE116.out) | exact HB.out)⟩
            · rw [if_neg c36] at H
              have c36b0 : (a0_0 == 4) = false := beq_eq_false_iff_ne.mpr c36
              have c36b1 : (a0_0 != 4) = true := bne_iff_ne.mpr c36
              by_cases c52 : a0_0 = 5
              · rw [if_pos c52] at H
                have c52b0 : (a0_0 == 5) = true := beq_iff_eq.mpr c52
                have c52b1 : (a0_0 != 5) = false := bne_eq_false_iff_eq.mpr c52
                clear c52
                by_cases c53 : a0_2 ≥ 0
                · rw [if_pos c53] at H
                  have c53b0 : decide (0 ≤ a0_2) = true := decide_eq_true c53
                  clear c53
                  by_cases c54 : a0_2 < 32
                  · rw [if_pos c54] at H
                    have c54b0 : decide (a0_2 < 32) = true := decide_eq_true c54
                    clear c54
                    by_cases c55 : (a0_1 == 0 && (a0_3 == 0 && (a0_4 == 0))) = true
                    · rw [if_pos c55] at H
                      have c55b0 : (a0_1 == 0 && (a0_3 == 0 && (a0_4 == 0))) = true := c55
                      (try (have c55b1 : decide (a0_1 = 0 && (a0_3 == 0 && (a0_4 == 0))) = true := by simpa using c55))
                      (try (have c55b2 : (a0_1 == 0 && (a0_3 == 0 && (a0_4 == 0))) = true := by simpa using c55))
                      clear c55
                      by_cases c56 : a0_5 ≥ (-2147483648)
                      · rw [if_pos c56] at H
                        have c56b0 : decide ((-2147483648) ≤ a0_5) = true := decide_eq_true c56
                        clear c56
                        by_cases c57 : a0_5 < 4294967296
                        · rw [if_pos c57] at H
                          have c57b0 : decide (a0_5 < 4294967296) = true := decide_eq_true c57
                          clear c57
                          obtain rfl := Option.some.inj H
                          have hcz58_0 : wc.cell? ⟨gb116, 0, none⟩ = some (.int .i64 a0_0) := (blk_cell BK116.out 0).trans rfl
                          have hcz58_1 : wc.cell? ⟨gb116, 1, none⟩ = some (.int .i64 a0_1) := (blk_cell BK116.out 1).trans rfl
                          have hcz58_2 : wc.cell? ⟨gb116, 2, none⟩ = some (.int .i64 a0_2) := (blk_cell BK116.out 2).trans rfl
                          have hcz58_3 : wc.cell? ⟨gb116, 3, none⟩ = some (.int .i64 a0_3) := (blk_cell BK116.out 3).trans rfl
                          have hcz58_4 : wc.cell? ⟨gb116, 4, none⟩ = some (.int .i64 a0_4) := (blk_cell BK116.out 4).trans rfl
                          have hcz58_5 : wc.cell? ⟨gb116, 5, none⟩ = some (.int .i64 a0_5) := (blk_cell BK116.out 5).trans rfl
                          have hcz58_6 : wc.cell? ⟨gb116, 6, none⟩ = some (.int .i64 a0_6) := (blk_cell BK116.out 6).trans rfl
                          have hfz58_0 := blk_frozen BK116.out 0
                          have hfz58_1 := blk_frozen BK116.out 1
                          have hfz58_2 := blk_frozen BK116.out 2
                          have hfz58_3 := blk_frozen BK116.out 3
                          have hfz58_4 := blk_frozen BK116.out 4
                          have hfz58_5 := blk_frozen BK116.out 5
                          have hfz58_6 := blk_frozen BK116.out 6
                          go_wp2_with (first | ((with_reducible refine gate_dst (N := 4) rfl ?_); refine box_event ?hg (N := 4) ?hd (cs := #[.int .i64 0, .int .i64 0, .int .i64 0, .int .i64 0, .int .i64 0]) (t := 39) ?hr ?_; (case hd => rfl); (case hg => rfl); (case hr => first | (go_simp; done) | (go_simp; rfl)); intro gb121 hg w59 hbox hb; have n0_ := Aside0.mk (blk_below (g := gb116) (o := .cells #[.int .i64 a0_0, .int .i64 a0_1, .int .i64 a0_2, .int .i64 a0_3, .int .i64 a0_4, .int .i64 a0_5, .int .i64 a0_6] 41 (0, 0)) (by (with_reducible repeat (first | refine blk_drewN ?_ _ | refine blk_drew ?_ | refine blk_alloc ?_ _)); exact BK116.out) hb); have n1_ := Aside0.mk (below_step (by repeat (first | (with_reducible first | exact HB.out | apply below_alloc | apply pw_below_drewN | apply below_drew1 | refine below_set ?_ GE116.out) | exact HB.out)) hb); have n2_ := Aside0.mk (hbox); have n3_ := Aside0.mk ((by rw [hg]; exact (below_size (by repeat (first | (with_reducible first | exact HB.out | apply below_alloc | apply pw_below_drewN | apply below_drew1 | refine below_set ?_ GE116.out) | exact HB.out))) : w.heap.size ≤ gb121)); have n4_ := Aside0.mk ((by rw [hg]; exact (below_size (by repeat (first | (with_reducible first | exact HB.out | apply below_alloc | apply pw_below_drewN | apply below_drew1 | refine below_set ?_ GE116.out) | exact HB.out))) : w.heap.size ≤ gb121)); have n5_ := Aside0.mk ((by rw [hg]; exact Nat.ne_of_lt (blk_lt (g := gb116) (o := .cells #[.int .i64 a0_0, .int .i64 a0_1, .int .i64 a0_2, .int .i64 a0_3, .int .i64 a0_4, .int .i64 a0_5, .int .i64 a0_6] 41 (0, 0)) (by (with_reducible repeat (first | refine blk_drewN ?_ _ | refine blk_drew ?_ | refine blk_alloc ?_ _)); exact BK116.out)) : gb116 ≠ gb121)); have n6_ := Aside0.mk ((by rw [hg]; exact Nat.ne_of_gt (blk_lt (g := gb116) (o := .cells #[.int .i64 a0_0, .int .i64 a0_1, .int .i64 a0_2, .int .i64 a0_3, .int .i64 a0_4, .int .i64 a0_5, .int .i64 a0_6] 41 (0, 0)) (by (with_reducible repeat (first | refine blk_drewN ?_ _ | refine blk_drew ?_ | refine blk_alloc ?_ _)); exact BK116.out)) : gb121 ≠ gb116)); clear BK116; clear HB; have BK116 := n0_; have HB := n1_; have BK121 := n2_; have GW121 := n3_; have GE121 := n4_; have NB116_121 := n5_; have NB121_116 := n6_; clear n0_ n1_ n2_ n3_ n4_ n5_ n6_; clear hb hbox hg; have hnb60 := NB121_116.out; have hnc60 := NB116_121.out; have hcz61_0 : w59.cell? ⟨gb121, 0, none⟩ = some (.int .i64 0) := (blk_cell BK121.out 0).trans rfl; have hcz61_1 : w59.cell? ⟨gb121, 1, none⟩ = some (.int .i64 0) := (blk_cell BK121.out 1).trans rfl; have hcz61_2 : w59.cell? ⟨gb121, 2, none⟩ = some (.int .i64 0) := (blk_cell BK121.out 2).trans rfl; have hcz61_3 : w59.cell? ⟨gb121, 3, none⟩ = some (.int .i64 0) := (blk_cell BK121.out 3).trans rfl; have hcz61_4 : w59.cell? ⟨gb121, 4, none⟩ = some (.int .i64 0) := (blk_cell BK121.out 4).trans rfl; have hfz61_0 := blk_frozen BK121.out 0; have hfz61_1 := blk_frozen BK121.out 1; have hfz61_2 := blk_frozen BK121.out 2; have hfz61_3 := blk_frozen BK121.out 3; have hfz61_4 := blk_frozen BK121.out 4; have hcz62_0 : w59.cell? ⟨gb116, 0, none⟩ = some (.int .i64 a0_0) := (blk_cell BK116.out 0).trans rfl; have hcz62_1 : w59.cell? ⟨gb116, 1, none⟩ = some (.int .i64 a0_1) := (blk_cell BK116.out 1).trans rfl; have hcz62_2 : w59.cell? ⟨gb116, 2, none⟩ = some (.int .i64 a0_2) := (blk_cell BK116.out 2).trans rfl; have hcz62_3 : w59.cell? ⟨gb116, 3, none⟩ = some (.int .i64 a0_3) := (blk_cell BK116.out 3).trans rfl; have hcz62_4 : w59.cell? ⟨gb116, 4, none⟩ = some (.int .i64 a0_4) := (blk_cell BK116.out 4).trans rfl; have hcz62_5 : w59.cell? ⟨gb116, 5, none⟩ = some (.int .i64 a0_5) := (blk_cell BK116.out 5).trans rfl; have hcz62_6 : w59.cell? ⟨gb116, 6, none⟩ = some (.int .i64 a0_6) := (blk_cell BK116.out 6).trans rfl; have hfz62_0 := blk_frozen BK116.out 0; have hfz62_1 := blk_frozen BK116.out 1; have hfz62_2 := blk_frozen BK116.out 2; have hfz62_3 := blk_frozen BK116.out 3; have hfz62_4 := blk_frozen BK116.out 4; have hfz62_5 := blk_frozen BK116.out 5; have hfz62_6 := blk_frozen BK116.out 6))
                          go_ret
                          exact ⟨by first | rfl | (simp [errW_none, errW_some] <;> rfl) | (simp [*, errW_none, errW_some] <;> rfl), by repeat (first | (with_reducible first | exact HB.out | apply below_alloc | apply pw_below_drewN | apply below_drew1 | refine below_set ?_ GE116.out | refine below_set ?_ GE121.out) | exact HB.out)⟩
                        · rw [if_neg c57] at H
                          have c57b0 : decide (a0_5 < 4294967296) = false := decide_eq_false c57
                          clear c57
                          obtain rfl := Option.some.inj H
                          have hcz63_0 : wc.cell? ⟨gb116, 0, none⟩ = some (.int .i64 a0_0) := (blk_cell BK116.out 0).trans rfl
                          have hcz63_1 : wc.cell? ⟨gb116, 1, none⟩ = some (.int .i64 a0_1) := (blk_cell BK116.out 1).trans rfl
                          have hcz63_2 : wc.cell? ⟨gb116, 2, none⟩ = some (.int .i64 a0_2) := (blk_cell BK116.out 2).trans rfl
                          have hcz63_3 : wc.cell? ⟨gb116, 3, none⟩ = some (.int .i64 a0_3) := (blk_cell BK116.out 3).trans rfl
                          have hcz63_4 : wc.cell? ⟨gb116, 4, none⟩ = some (.int .i64 a0_4) := (blk_cell BK116.out 4).trans rfl
                          have hcz63_5 : wc.cell? ⟨gb116, 5, none⟩ = some (.int .i64 a0_5) := (blk_cell BK116.out 5).trans rfl
                          have hcz63_6 : wc.cell? ⟨gb116, 6, none⟩ = some (.int .i64 a0_6) := (blk_cell BK116.out 6).trans rfl
                          have hfz63_0 := blk_frozen BK116.out 0
                          have hfz63_1 := blk_frozen BK116.out 1
                          have hfz63_2 := blk_frozen BK116.out 2
                          have hfz63_3 := blk_frozen BK116.out 3
                          have hfz63_4 := blk_frozen BK116.out 4
                          have hfz63_5 := blk_frozen BK116.out 5
                          have hfz63_6 := blk_frozen BK116.out 6
                          go_wp2_with (first | ((with_reducible refine gate_dst (N := 4) rfl ?_); refine box_event ?hg (N := 4) ?hd (cs := #[.int .i64 0, .int .i64 0, .int .i64 0, .int .i64 0, .int .i64 0]) (t := 39) ?hr ?_; (case hd => rfl); (case hg => rfl); (case hr => first | (go_simp; done) | (go_simp; rfl)); intro gb121 hg w64 hbox hb; have n0_ := Aside0.mk (blk_below (g := gb116) (o := .cells #[.int .i64 a0_0, .int .i64 a0_1, .int .i64 a0_2, .int .i64 a0_3, .int .i64 a0_4, .int .i64 a0_5, .int .i64 a0_6] 41 (0, 0)) (by (with_reducible repeat (first | refine blk_drewN ?_ _ | refine blk_drew ?_ | refine blk_alloc ?_ _)); exact BK116.out) hb); have n1_ := Aside0.mk (below_step (by repeat (first | (with_reducible first | exact HB.out | apply below_alloc | apply pw_below_drewN | apply below_drew1 | refine below_set ?_ GE116.out) | exact HB.out)) hb); have n2_ := Aside0.mk (hbox); have n3_ := Aside0.mk ((by rw [hg]; exact (below_size (by repeat (first | (with_reducible first | exact HB.out | apply below_alloc | apply pw_below_drewN | apply below_drew1 | refine below_set ?_ GE116.out) | exact HB.out))) : w.heap.size ≤ gb121)); have n4_ := Aside0.mk ((by rw [hg]; exact (below_size (by repeat (first | (with_reducible first | exact HB.out | apply below_alloc | apply pw_below_drewN | apply below_drew1 | refine below_set ?_ GE116.out) | exact HB.out))) : w.heap.size ≤ gb121)); have n5_ := Aside0.mk ((by rw [hg]; exact Nat.ne_of_lt (blk_lt (g := gb116) (o := .cells #[.int .i64 a0_0, .int .i64 a0_1, .int .i64 a0_2, .int .i64 a0_3, .int .i64 a0_4, .int .i64 a0_5, .int .i64 a0_6] 41 (0, 0)) (by (with_reducible repeat (first | refine blk_drewN ?_ _ | refine blk_drew ?_ | refine blk_alloc ?_ _)); exact BK116.out)) : gb116 ≠ gb121)); have n6_ := Aside0.mk ((by rw [hg]; exact Nat.ne_of_gt (blk_lt (g := gb116) (o := .cells #[.int .i64 a0_0, .int .i64 a0_1, .int .i64 a0_2, .int .i64 a0_3, .int .i64 a0_4, .int .i64 a0_5, .int .i64 a0_6] 41 (0, 0)) (by (with_reducible repeat (first | refine blk_drewN ?_ _ | refine blk_drew ?_ | refine blk_alloc ?_ _)); exact BK116.out)) : gb121 ≠ gb116)); clear BK116; clear HB; have BK116 := n0_; have HB := n1_; have BK121 := n2_; have GW121 := n3_; have GE121 := n4_; have NB116_121 := n5_; have NB121_116 := n6_; clear n0_ n1_ n2_ n3_ n4_ n5_ n6_; clear hb hbox hg; have hnb65 := NB121_116.out; have hnc65 := NB116_121.out; have hcz66_0 : w64.cell? ⟨gb121, 0, none⟩ = some (.int .i64 0) := (blk_cell BK121.out 0).trans rfl; have hcz66_1 : w64.cell? ⟨gb121, 1, none⟩ = some (.int .i64 0) := (blk_cell BK121.out 1).trans rfl; have hcz66_2 : w64.cell? ⟨gb121, 2, none⟩ = some (.int .i64 0) := (blk_cell BK121.out 2).trans rfl; have hcz66_3 : w64.cell? ⟨gb121, 3, none⟩ = some (.int .i64 0) := (blk_cell BK121.out 3).trans rfl; have hcz66_4 : w64.cell? ⟨gb121, 4, none⟩ = some (.int .i64 0) := (blk_cell BK121.out 4).trans rfl; have hfz66_0 := blk_frozen BK121.out 0; have hfz66_1 := blk_frozen BK121.out 1; have hfz66_2 := blk_frozen BK121.out 2; have hfz66_3 := blk_frozen BK121.out 3; have hfz66_4 := blk_frozen BK121.out 4))
                          go_ret
                          exact ⟨by first | rfl | (simp [errW_none, errW_some] <;> rfl) | (simp [*, errW_none, errW_some] <;> rfl), by repeat (first | (with_reducible first | exact HB.out | apply below_alloc | apply pw_below_drewN | apply below_drew1 | refine below_set ?_ GE116.out | refine below_set ?_ GE121.out) | exact HB.out)⟩
                      · rw [if_neg c56] at H
                        have c56b0 : decide ((-2147483648) ≤ a0_5) = false := decide_eq_false c56
                        clear c56
                        obtain rfl := Option.some.inj H
                        have hcz67_0 : wc.cell? ⟨gb116, 0, none⟩ = some (.int .i64 a0_0) := (blk_cell BK116.out 0).trans rfl
                        have hcz67_1 : wc.cell? ⟨gb116, 1, none⟩ = some (.int .i64 a0_1) := (blk_cell BK116.out 1).trans rfl
                        have hcz67_2 : wc.cell? ⟨gb116, 2, none⟩ = some (.int .i64 a0_2) := (blk_cell BK116.out 2).trans rfl
                        have hcz67_3 : wc.cell? ⟨gb116, 3, none⟩ = some (.int .i64 a0_3) := (blk_cell BK116.out 3).trans rfl
                        have hcz67_4 : wc.cell? ⟨gb116, 4, none⟩ = some (.int .i64 a0_4) := (blk_cell BK116.out 4).trans rfl
                        have hcz67_5 : wc.cell? ⟨gb116, 5, none⟩ = some (.int .i64 a0_5) := (blk_cell BK116.out 5).trans rfl
                        have hcz67_6 : wc.cell? ⟨gb116, 6, none⟩ = some (.int .i64 a0_6) := (blk_cell BK116.out 6).trans rfl
                        have hfz67_0 := blk_frozen BK116.out 0
                        have hfz67_1 := blk_frozen BK116.out 1
                        have hfz67_2 := blk_frozen BK116.out 2
                        have hfz67_3 := blk_frozen BK116.out 3
                        have hfz67_4 := blk_frozen BK116.out 4
                        have hfz67_5 := blk_frozen BK116.out 5
                        have hfz67_6 := blk_frozen BK116.out 6
                        go_wp2_with (first | ((with_reducible refine gate_dst (N := 4) rfl ?_); refine box_event ?hg (N := 4) ?hd (cs := #[.int .i64 0, .int .i64 0, .int .i64 0, .int .i64 0, .int .i64 0]) (t := 39) ?hr ?_; (case hd => rfl); (case hg => rfl); (case hr => first | (go_simp; done) | (go_simp; rfl)); intro gb121 hg w68 hbox hb; have n0_ := Aside0.mk (blk_below (g := gb116) (o := .cells #[.int .i64 a0_0, .int .i64 a0_1, .int .i64 a0_2, .int .i64 a0_3, .int .i64 a0_4, .int .i64 a0_5, .int .i64 a0_6] 41 (0, 0)) (by (with_reducible repeat (first | refine blk_drewN ?_ _ | refine blk_drew ?_ | refine blk_alloc ?_ _)); exact BK116.out) hb); have n1_ := Aside0.mk (below_step (by repeat (first | (with_reducible first | exact HB.out | apply below_alloc | apply pw_below_drewN | apply below_drew1 | refine below_set ?_ GE116.out) | exact HB.out)) hb); have n2_ := Aside0.mk (hbox); have n3_ := Aside0.mk ((by rw [hg]; exact (below_size (by repeat (first | (with_reducible first | exact HB.out | apply below_alloc | apply pw_below_drewN | apply below_drew1 | refine below_set ?_ GE116.out) | exact HB.out))) : w.heap.size ≤ gb121)); have n4_ := Aside0.mk ((by rw [hg]; exact (below_size (by repeat (first | (with_reducible first | exact HB.out | apply below_alloc | apply pw_below_drewN | apply below_drew1 | refine below_set ?_ GE116.out) | exact HB.out))) : w.heap.size ≤ gb121)); have n5_ := Aside0.mk ((by rw [hg]; exact Nat.ne_of_lt (blk_lt (g := gb116) (o := .cells #[.int .i64 a0_0, .int .i64 a0_1, .int .i64 a0_2, .int .i64 a0_3, .int .i64 a0_4, .int .i64 a0_5, .int .i64 a0_6] 41 (0, 0)) (by (with_reducible repeat (first | refine blk_drewN ?_ _ | refine blk_drew ?_ | refine blk_alloc ?_ _)); exact BK116.out)) : gb116 ≠ gb121)); have n6_ := Aside0.mk ((by rw [hg]; exact Nat.ne_of_gt (blk_lt (g := gb116) (o := .cells #[.int .i64 a0_0, .int .i64 a0_1, .int .i64 a0_2, .int .i64 a0_3, .int .i64 a0_4, .int .i64 a0_5, .int .i64 a0_6] 41 (0, 0)) (by (with_reducible repeat (first | refine blk_drewN ?_ _ | refine blk_drew ?_ | refine blk_alloc ?_ _)); exact BK116.out)) : gb121 ≠ gb116)); clear BK116; clear HB; have BK116 := n0_; have HB := n1_; have BK121 := n2_; have GW121 := n3_; have GE121 := n4_; have NB116_121 := n5_; have NB121_116 := n6_; clear n0_ n1_ n2_ n3_ n4_ n5_ n6_; clear hb hbox hg; have hnb69 := NB121_116.out; have hnc69 := NB116_121.out; have hcz70_0 : w68.cell? ⟨gb121, 0, none⟩ = some (.int .i64 0) := (blk_cell BK121.out 0).trans rfl; have hcz70_1 : w68.cell? ⟨gb121, 1, none⟩ = some (.int .i64 0) := (blk_cell BK121.out 1).trans rfl; have hcz70_2 : w68.cell? ⟨gb121, 2, none⟩ = some (.int .i64 0) := (blk_cell BK121.out 2).trans rfl; have hcz70_3 : w68.cell? ⟨gb121, 3, none⟩ = some (.int .i64 0) := (blk_cell BK121.out 3).trans rfl; have hcz70_4 : w68.cell? ⟨gb121, 4, none⟩ = some (.int .i64 0) := (blk_cell BK121.out 4).trans rfl; have hfz70_0 := blk_frozen BK121.out 0; have hfz70_1 := blk_frozen BK121.out 1; have hfz70_2 := blk_frozen BK121.out 2; have hfz70_3 := blk_frozen BK121.out 3; have hfz70_4 := blk_frozen BK121.out 4))
                        go_ret
                        exact ⟨by first | rfl | (simp [errW_none, errW_some] <;> rfl) | (simp [*, errW_none, errW_some] <;> rfl), by repeat (first | (with_reducible first | exact HB.out | apply below_alloc | apply pw_below_drewN | apply below_drew1 | refine below_set ?_ GE116.out | refine below_set ?_ GE121.out) | exact HB.out)⟩
                    · rw [if_neg c55] at H
                      have c55b0 : (a0_1 == 0 && (a0_3 == 0 && (a0_4 == 0))) = false := by simpa using c55
                      (try (have c55b1 : decide (a0_1 = 0 && (a0_3 == 0 && (a0_4 == 0))) = false := by simpa using c55))
                      (try (have c55b2 : (a0_1 == 0 && (a0_3 == 0 && (a0_4 == 0))) = false := by simpa using c55))
                      (try (have c55b3 : ¬ (a0_1 = 0 && (a0_3 == 0 && (a0_4 == 0))) := by simpa using c55))
                      clear c55
                      obtain rfl := Option.some.inj H
                      have hcz71_0 : wc.cell? ⟨gb116, 0, none⟩ = some (.int .i64 a0_0) := (blk_cell BK116.out 0).trans rfl
                      have hcz71_1 : wc.cell? ⟨gb116, 1, none⟩ = some (.int .i64 a0_1) := (blk_cell BK116.out 1).trans rfl
                      have hcz71_2 : wc.cell? ⟨gb116, 2, none⟩ = some (.int .i64 a0_2) := (blk_cell BK116.out 2).trans rfl
                      have hcz71_3 : wc.cell? ⟨gb116, 3, none⟩ = some (.int .i64 a0_3) := (blk_cell BK116.out 3).trans rfl
                      have hcz71_4 : wc.cell? ⟨gb116, 4, none⟩ = some (.int .i64 a0_4) := (blk_cell BK116.out 4).trans rfl
                      have hcz71_5 : wc.cell? ⟨gb116, 5, none⟩ = some (.int .i64 a0_5) := (blk_cell BK116.out 5).trans rfl
                      have hcz71_6 : wc.cell? ⟨gb116, 6, none⟩ = some (.int .i64 a0_6) := (blk_cell BK116.out 6).trans rfl
                      have hfz71_0 := blk_frozen BK116.out 0
                      have hfz71_1 := blk_frozen BK116.out 1
                      have hfz71_2 := blk_frozen BK116.out 2
                      have hfz71_3 := blk_frozen BK116.out 3
                      have hfz71_4 := blk_frozen BK116.out 4
                      have hfz71_5 := blk_frozen BK116.out 5
                      have hfz71_6 := blk_frozen BK116.out 6
                      go_wp2_with (first | ((with_reducible refine gate_dst (N := 4) rfl ?_); refine box_event ?hg (N := 4) ?hd (cs := #[.int .i64 0, .int .i64 0, .int .i64 0, .int .i64 0, .int .i64 0]) (t := 39) ?hr ?_; (case hd => rfl); (case hg => rfl); (case hr => first | (go_simp; done) | (go_simp; rfl)); intro gb121 hg w72 hbox hb; have n0_ := Aside0.mk (blk_below (g := gb116) (o := .cells #[.int .i64 a0_0, .int .i64 a0_1, .int .i64 a0_2, .int .i64 a0_3, .int .i64 a0_4, .int .i64 a0_5, .int .i64 a0_6] 41 (0, 0)) (by (with_reducible repeat (first | refine blk_drewN ?_ _ | refine blk_drew ?_ | refine blk_alloc ?_ _)); exact BK116.out) hb); have n1_ := Aside0.mk (below_step (by repeat (first | (with_reducible first | exact HB.out | apply below_alloc | apply pw_below_drewN | apply below_drew1 | refine below_set ?_ GE116.out) | exact HB.out)) hb); have n2_ := Aside0.mk (hbox); have n3_ := Aside0.mk ((by rw [hg]; exact (below_size (by repeat (first | (with_reducible first | exact HB.out | apply below_alloc | apply pw_below_drewN | apply below_drew1 | refine below_set ?_ GE116.out) | exact HB.out))) : w.heap.size ≤ gb121)); have n4_ := Aside0.mk ((by rw [hg]; exact (below_size (by repeat (first | (with_reducible first | exact HB.out | apply below_alloc | apply pw_below_drewN | apply below_drew1 | refine below_set ?_ GE116.out) | exact HB.out))) : w.heap.size ≤ gb121)); have n5_ := Aside0.mk ((by rw [hg]; exact Nat.ne_of_lt (blk_lt (g := gb116) (o := .cells #[.int .i64 a0_0, .int .i64 a0_1, .int .i64 a0_2, .int .i64 a0_3, .int .i64 a0_4, .int .i64 a0_5, .int .i64 a0_6] 41 (0, 0)) (by (with_reducible repeat (first | refine blk_drewN ?_ _ | refine blk_drew ?_ | refine blk_alloc ?_ _)); exact BK116.out)) : gb116 ≠ gb121)); have n6_ := Aside0.mk ((by rw [hg]; exact Nat.ne_of_gt (blk_lt (g := gb116) (o := .cells #[.int .i64 a0_0, .int .i64 a0_1, .int .i64 a0_2, .int .i64 a0_3, .int .i64 a0_4, .int .i64 a0_5, .int .i64 a0_6] 41 (0, 0)) (by (with_reducible repeat (first | refine blk_drewN ?_ _ | refine blk_drew ?_ | refine blk_alloc ?_ _)); exact BK116.out)) : gb121 ≠ gb116)); clear BK116; clear HB; have BK116 := n0_; have HB := n1_; have BK121 := n2_; have GW121 := n3_; have GE121 := n4_; have NB116_121 := n5_; have NB121_116 := n6_; clear n0_ n1_ n2_ n3_ n4_ n5_ n6_; clear hb hbox hg; have hnb73 := NB121_116.out; have hnc73 := NB116_121.out; have hcz74_0 : w72.cell? ⟨gb121, 0, none⟩ = some (.int .i64 0) := (blk_cell BK121.out 0).trans rfl; have hcz74_1 : w72.cell? ⟨gb121, 1, none⟩ = some (.int .i64 0) := (blk_cell BK121.out 1).trans rfl; have hcz74_2 : w72.cell? ⟨gb121, 2, none⟩ = some (.int .i64 0) := (blk_cell BK121.out 2).trans rfl; have hcz74_3 : w72.cell? ⟨gb121, 3, none⟩ = some (.int .i64 0) := (blk_cell BK121.out 3).trans rfl; have hcz74_4 : w72.cell? ⟨gb121, 4, none⟩ = some (.int .i64 0) := (blk_cell BK121.out 4).trans rfl; have hfz74_0 := blk_frozen BK121.out 0; have hfz74_1 := blk_frozen BK121.out 1; have hfz74_2 := blk_frozen BK121.out 2; have hfz74_3 := blk_frozen BK121.out 3; have hfz74_4 := blk_frozen BK121.out 4))
                      go_ret
                      exact ⟨by first | rfl | (simp [errW_none, errW_some] <;> rfl) | (simp [*, errW_none, errW_some] <;> rfl), by repeat (first | (with_reducible first | exact HB.out | apply below_alloc | apply pw_below_drewN | apply below_drew1 | refine below_set ?_ GE116.out | refine below_set ?_ GE121.out) | exact HB.out)⟩
                  · rw [if_neg c54] at H
                    have c54b0 : decide (a0_2 < 32) = false := decide_eq_false c54
                    clear c54
                    obtain rfl := Option.some.inj H
                    have hcz75_0 : wc.cell? ⟨gb116, 0, none⟩ = some (.int .i64 a0_0) := (blk_cell BK116.out 0).trans rfl
                    have hcz75_1 : wc.cell? ⟨gb116, 1, none⟩ = some (.int .i64 a0_1) := (blk_cell BK116.out 1).trans rfl
                    have hcz75_2 : wc.cell? ⟨gb116, 2, none⟩ = some (.int .i64 a0_2) := (blk_cell BK116.out 2).trans rfl
                    have hcz75_3 : wc.cell? ⟨gb116, 3, none⟩ = some (.int .i64 a0_3) := (blk_cell BK116.out 3).trans rfl
                    have hcz75_4 : wc.cell? ⟨gb116, 4, none⟩ = some (.int .i64 a0_4) := (blk_cell BK116.out 4).trans rfl
                    have hcz75_5 : wc.cell? ⟨gb116, 5, none⟩ = some (.int .i64 a0_5) := (blk_cell BK116.out 5).trans rfl
                    have hcz75_6 : wc.cell? ⟨gb116, 6, none⟩ = some (.int .i64 a0_6) := (blk_cell BK116.out 6).trans rfl
                    have hfz75_0 := blk_frozen BK116.out 0
                    have hfz75_1 := blk_frozen BK116.out 1
                    have hfz75_2 := blk_frozen BK116.out 2
                    have hfz75_3 := blk_frozen BK116.out 3
                    have hfz75_4 := blk_frozen BK116.out 4
                    have hfz75_5 := blk_frozen BK116.out 5
                    have hfz75_6 := blk_frozen BK116.out 6
                    go_wp2_with (first | ((with_reducible refine gate_dst (N := 4) rfl ?_); refine box_event ?hg (N := 4) ?hd (cs := #[.int .i64 0, .int .i64 0, .int .i64 0, .int .i64 0, .int .i64 0]) (t := 39) ?hr ?_; (case hd => rfl); (case hg => rfl); (case hr => first | (go_simp; done) | (go_simp; rfl)); intro gb121 hg w76 hbox hb; have n0_ := Aside0.mk (blk_below (g := gb116) (o := .cells #[.int .i64 a0_0, .int .i64 a0_1, .int .i64 a0_2, .int .i64 a0_3, .int .i64 a0_4, .int .i64 a0_5, .int .i64 a0_6] 41 (0, 0)) (by (with_reducible repeat (first | refine blk_drewN ?_ _ | refine blk_drew ?_ | refine blk_alloc ?_ _)); exact BK116.out) hb); have n1_ := Aside0.mk (below_step (by repeat (first | (with_reducible first | exact HB.out | apply below_alloc | apply pw_below_drewN | apply below_drew1 | refine below_set ?_ GE116.out) | exact HB.out)) hb); have n2_ := Aside0.mk (hbox); have n3_ := Aside0.mk ((by rw [hg]; exact (below_size (by repeat (first | (with_reducible first | exact HB.out | apply below_alloc | apply pw_below_drewN | apply below_drew1 | refine below_set ?_ GE116.out) | exact HB.out))) : w.heap.size ≤ gb121)); have n4_ := Aside0.mk ((by rw [hg]; exact (below_size (by repeat (first | (with_reducible first | exact HB.out | apply below_alloc | apply pw_below_drewN | apply below_drew1 | refine below_set ?_ GE116.out) | exact HB.out))) : w.heap.size ≤ gb121)); have n5_ := Aside0.mk ((by rw [hg]; exact Nat.ne_of_lt (blk_lt (g := gb116) (o := .cells #[.int .i64 a0_0, .int .i64 a0_1, .int .i64 a0_2, .int .i64 a0_3, .int .i64 a0_4, .int .i64 a0_5, .int .i64 a0_6] 41 (0, 0)) (by (with_reducible repeat (first | refine blk_drewN ?_ _ | refine blk_drew ?_ | refine blk_alloc ?_ _)); exact BK116.out)) : gb116 ≠ gb121)); have n6_ := Aside0.mk ((by rw [hg]; exact Nat.ne_of_gt (blk_lt (g := gb116) (o := .cells #[.int .i64 a0_0, .int .i64 a0_1, .int .i64 a0_2, .int .i64 a0_3, .int .i64 a0_4, .int .i64 a0_5, .int .i64 a0_6] 41 (0, 0)) (by (with_reducible repeat (first | refine blk_drewN ?_ _ | refine blk_drew ?_ | refine blk_alloc ?_ _)); exact BK116.out)) : gb121 ≠ gb116)); clear BK116; clear HB; have BK116 := n0_; have HB := n1_; have BK121 := n2_; have GW121 := n3_; have GE121 := n4_; have NB116_121 := n5_; have NB121_116 := n6_; clear n0_ n1_ n2_ n3_ n4_ n5_ n6_; clear hb hbox hg; have hnb77 := NB121_116.out; have hnc77 := NB116_121.out; have hcz78_0 : w76.cell? ⟨gb121, 0, none⟩ = some (.int .i64 0) := (blk_cell BK121.out 0).trans rfl; have hcz78_1 : w76.cell? ⟨gb121, 1, none⟩ = some (.int .i64 0) := (blk_cell BK121.out 1).trans rfl; have hcz78_2 : w76.cell? ⟨gb121, 2, none⟩ = some (.int .i64 0) := (blk_cell BK121.out 2).trans rfl; have hcz78_3 : w76.cell? ⟨gb121, 3, none⟩ = some (.int .i64 0) := (blk_cell BK121.out 3).trans rfl; have hcz78_4 : w76.cell? ⟨gb121, 4, none⟩ = some (.int .i64 0) := (blk_cell BK121.out 4).trans rfl; have hfz78_0 := blk_frozen BK121.out 0; have hfz78_1 := blk_frozen BK121.out 1; have hfz78_2 := blk_frozen BK121.out 2; have hfz78_3 := blk_frozen BK121.out 3; have hfz78_4 := blk_frozen BK121.out 4))
                    go_ret
                    exact ⟨by first | rfl | (simp [errW_none, errW_some] <;> rfl) | (simp [*, errW_none, errW_some] <;> rfl), by repeat (first | (with_reducible first | exact HB.out | apply below_alloc | apply pw_below_drewN | apply below_drew1 | refine below_set ?_ GE116.out | refine below_set ?_ GE121.out) | exact HB.out)⟩
                · rw [if_neg c53] at H
                  have c53b0 : decide (0 ≤ a0_2) = false := decide_eq_false c53
                  clear c53
                  obtain rfl := Option.some.inj H
                  have hcz79_0 : wc.cell? ⟨gb116, 0, none⟩ = some (.int .i64 a0_0) := (blk_cell BK116.out 0).trans rfl
                  have hcz79_1 : wc.cell? ⟨gb116, 1, none⟩ = some (.int .i64 a0_1) := (blk_cell BK116.out 1).trans rfl
                  have hcz79_2 : wc.cell? ⟨gb116, 2, none⟩ = some (.int .i64 a0_2) := (blk_cell BK116.out 2).trans rfl
                  have hcz79_3 : wc.cell? ⟨gb116, 3, none⟩ = some (.int .i64 a0_3) := (blk_cell BK116.out 3).trans rfl
                  have hcz79_4 : wc.cell? ⟨gb116, 4, none⟩ = some (.int .i64 a0_4) := (blk_cell BK116.out 4).trans rfl
                  have hcz79_5 : wc.cell? ⟨gb116, 5, none⟩ = some (.int .i64 a0_5) := (blk_cell BK116.out 5).trans rfl
                  have hcz79_6 : wc.cell? ⟨gb116, 6, none⟩ = some (.int .i64 a0_6) := (blk_cell BK116.out 6).trans rfl
                  have hfz79_0 := blk_frozen BK116.out 0
                  have hfz79_1 := blk_frozen BK116.out 1
                  have hfz79_2 := blk_frozen BK116.out 2
                  have hfz79_3 := blk_frozen BK116.out 3
                  have hfz79_4 := blk_frozen BK116.out 4
                  have hfz79_5 := blk_frozen BK116.out 5
                  have hfz79_6 := blk_frozen BK116.out 6
                  go_wp2_with (first | ((with_reducible refine gate_dst (N := 4) rfl ?_); refine box_event ?hg (N := 4) ?hd (cs := #[.int .i64 0, .int .i64 0, .int .i64 0, .int .i64 0, .int .i64 0]) (t := 39) ?hr ?_; (case hd => rfl); (case hg => rfl); (case hr => first | (go_simp; done) | (go_simp; rfl)); intro gb121 hg w80 hbox hb; have n0_ := Aside0.mk (blk_below (g := gb116) (o := .cells #[.int .i64 a0_0, .int .i64 a0_1, .int .i64 a0_2, .int .i64 a0_3, .int .i64 a0_4, .int .i64 a0_5, .int .i64 a0_6] 41 (0, 0)) (by (with_reducible repeat (first | refine blk_drewN ?_ _ | refine blk_drew ?_ | refine blk_alloc ?_ _)); exact BK116.out) hb); have n1_ := Aside0.mk (below_step (by repeat (first | (with_reducible first | exact HB.out | apply below_alloc | apply pw_below_drewN | apply below_drew1 | refine below_set ?_ GE116.out) | exact HB.out)) hb); have n2_ := Aside0.mk (hbox); have n3_ := Aside0.mk ((by rw [hg]; exact (below_size (by repeat (first | (with_reducible first | exact HB.out | apply below_alloc | apply pw_below_drewN | apply below_drew1 | refine below_set ?_ GE116.out) | exact HB.out))) : w.heap.size ≤ gb121)); have n4_ := Aside0.mk ((by rw [hg]; exact (below_size (by repeat (first | (with_reducible first | exact HB.out | apply below_alloc | apply pw_below_drewN | apply below_drew1 | refine below_set ?_ GE116.out) | exact HB.out))) : w.heap.size ≤ gb121)); have n5_ := Aside0.mk ((by rw [hg]; exact Nat.ne_of_lt (blk_lt (g := gb116) (o := .cells #[.int .i64 a0_0, .int .i64 a0_1, .int .i64 a0_2, .int .i64 a0_3, .int .i64 a0_4, .int .i64 a0_5, .int .i64 a0_6] 41 (0, 0)) (by (with_reducible repeat (first | refine blk_drewN ?_ _ | refine blk_drew ?_ | refine blk_alloc ?_ _)); exact BK116.out)) : gb116 ≠ gb121)); have n6_ := Aside0.mk ((by rw [hg]; exact Nat.ne_of_gt (blk_lt (g := gb116) (o := .cells #[.int .i64 a0_0, .int .i64 a0_1, .int .i64 a0_2, .int .i64 a0_3, .int .i64 a0_4, .int .i64 a0_5, .int .i64 a0_6] 41 (0, 0)) (by (with_reducible repeat (first | refine blk_drewN ?_ _ | refine blk_drew ?_ | refine blk_alloc ?_ _)); exact BK116.out)) : gb121 ≠ gb116)); clear BK116; clear HB; have BK116 := n0_; have HB := n1_; have BK121 := n2_; have GW121 := n3_; have GE121 := n4_; have NB116_121 := n5_; have NB121_116 := n6_; clear n0_ n1_ n2_ n3_ n4_ n5_ n6_; clear hb hbox hg; have hnb81 := NB121_116.out; have hnc81 := NB116_121.out; have hcz82_0 : w80.cell? ⟨gb121, 0, none⟩ = some (.int .i64 0) := (blk_cell BK121.out 0).trans rfl; have hcz82_1 : w80.cell? ⟨gb121, 1, none⟩ = some (.int .i64 0) := (blk_cell BK121.out 1).trans rfl; have hcz82_2 : w80.cell? ⟨gb121, 2, none⟩ = some (.int .i64 0) := (blk_cell BK121.out 2).trans rfl; have hcz82_3 : w80.cell? ⟨gb121, 3, none⟩ = some (.int .i64 0) := (blk_cell BK121.out 3).trans rfl; have hcz82_4 : w80.cell? ⟨gb121, 4, none⟩ = some (.int .i64 0) := (blk_cell BK121.out 4).trans rfl; have hfz82_0 := blk_frozen BK121.out 0; have hfz82_1 := blk_frozen BK121.out 1; have hfz82_2 := blk_frozen BK121.out 2; have hfz82_3 := blk_frozen BK121.out 3; have hfz82_4 := blk_frozen BK121.out 4))
                  go_ret
                  exact ⟨by first | rfl | (simp [errW_none, errW_some] <;> rfl) | (simp [*, errW_none, errW_some] <;> rfl), by repeat (first | (with_reducible first | exact HB.out | apply below_alloc | apply pw_below_drewN | apply below_drew1 | refine below_set ?_ GE116.out | refine below_set ?_ GE121.out) | exact HB.out)⟩
              · rw [if_neg c52] at H
                have c52b0 : (a0_0 == 5) = false := beq_eq_false_iff_ne.mpr c52
                have c52b1 : (a0_0 != 5) = true := bne_iff_ne.mpr c52
                obtain rfl := Option.some.inj H
                have hcz83_0 : wc.cell? ⟨gb116, 0, none⟩ = some (.int .i64 a0_0) := (blk_cell BK116.out 0).trans rfl
                have hcz83_1 : wc.cell? ⟨gb116, 1, none⟩ = some (.int .i64 a0_1) := (blk_cell BK116.out 1).trans rfl
                have hcz83_2 : wc.cell? ⟨gb116, 2, none⟩ = some (.int .i64 a0_2) := (blk_cell BK116.out 2).trans rfl
                have hcz83_3 : wc.cell? ⟨gb116, 3, none⟩ = some (.int .i64 a0_3) := (blk_cell BK116.out 3).trans rfl
                have hcz83_4 : wc.cell? ⟨gb116, 4, none⟩ = some (.int .i64 a0_4) := (blk_cell BK116.out 4).trans rfl
                have hcz83_5 : wc.cell? ⟨gb116, 5, none⟩ = some (.int .i64 a0_5) := (blk_cell BK116.out 5).trans rfl
                have hcz83_6 : wc.cell? ⟨gb116, 6, none⟩ = some (.int .i64 a0_6) := (blk_cell BK116.out 6).trans rfl
                have hfz83_0 := blk_frozen BK116.out 0
                have hfz83_1 := blk_frozen BK116.out 1
                have hfz83_2 := blk_frozen BK116.out 2
                have hfz83_3 := blk_frozen BK116.out 3
                have hfz83_4 := blk_frozen BK116.out 4
                have hfz83_5 := blk_frozen BK116.out 5
                have hfz83_6 := blk_frozen BK116.out 6
                go_wp2
                go_ret
                exact ⟨by first | rfl | (simp [errW_none, errW_some] <;> rfl) | (simp [*, errW_none, errW_some] <;> rfl), by repeat (first | (with_reducible first | exact HB.out | apply below_alloc | apply pw_below_drewN | apply below_drew1 | refine below_set ?_ GE116.out) | exact HB.out)⟩
end Go.Proofs.Ytecbponmpinnoaa.P
end
