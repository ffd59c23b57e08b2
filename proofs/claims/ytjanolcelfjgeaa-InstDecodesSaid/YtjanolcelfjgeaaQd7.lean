/- A claim's text, put together by a program of this session (wip/tools/shake.py): the declarations that the claim needs. -/
import Derived.Test.YtjanolcelfjgeaaQd0
import Derived.Test.YtjanolcelfjgeaaQd1
import Derived.Test.YtjanolcelfjgeaaQd2
import Derived.Test.YtjanolcelfjgeaaQd3
import Derived.Test.YtjanolcelfjgeaaQd4
import Derived.Test.YtjanolcelfjgeaaQd5
import Derived.Test.YtjanolcelfjgeaaQd6
import Derived.Test.YtjanolcelfjgeaaProg
import Derived.Below
import Derived.Deep.Draws
import Derived.Deep.AppendLies
import Derived.Maps.AppendAt
import Derived.OwnWalk
import Derived.Laws.BytesArg
import Derived.Laws.MakeOwn
import Derived.Laws.OwnMore
import Derived.Deep.OwnRows
import Derived.Tactics
import Derived.Lib.ConvBytes
import Derived.Laws.Slices
import Derived.WalkKit
import Derived.KernelRfl
import Derived.RowKit3
import Derived.Deep.LoopGhost
import Derived.Deep.QuietTactic
import Derived.BigQuiet
import Derived.WideLaws
import Derived.Deep.DeepCutAuto
import Derived.Deep.CutBlock
import Derived.Deep.RegionHeld3
import Derived.Laws.Rows
import Derived.Lib.AppendStr
import Derived.ArgAppend
import Derived.Laws.IdiomCopy
import Derived.OrdersHeld
import Derived.Laws.BitsLemmas
import Derived.RowKit
import Derived.Deep.WholeRow
import Derived.Laws.StructEq
set_option linter.unusedVariables false
set_option linter.unusedSimpArgs false
section
namespace Go.Proofs.Ytjanolcelfjgeaa.P
open Go.RowKit Go.Proofs.YtjanolcelfjgeaaW.PrintWords Go.Proofs.YtjanolcelfjgeaaW.PrintLast Go.Proofs.YtjanolcelfjgeaaW.PrintMore
attribute [local go_sem] max2_int min2_int max_two min_two max_three min_three max_four min_four   
set_option linter.unusedVariables false
set_option linter.unusedSimpArgs false
def rushlightref02_Code.f (a0 : Int) : Option (Int) := if a0 = 1 then (some 55) else (if a0 = 2 then (some 23) else (if a0 = 3 then (some 111) else (if a0 = 4 then (some 103) else (if a0 ≤ 10 then (some 99) else (if a0 ≤ 15 then (some 3) else (if a0 ≤ 18 then (some 35) else (if a0 ≤ 27 then (some 19) else (some 51))))))))
set_option maxHeartbeats 8000000 in
set_option maxRecDepth 100000 in
theorem rushlightref02_Code.calls (a0 : Int) (r : Int) (w : World) (h : rushlightref02_Code.f a0 = some r) :
    Calls Try.prog 34 #[.int .i64 a0] w fun e w' => e = .returned (.int .i64 r) ∧ Drawn0 w w' := by
  have H : (if a0 = 1 then (some 55) else (if a0 = 2 then (some 23) else (if a0 = 3 then (some 111) else (if a0 = 4 then (some 103) else (if a0 ≤ 10 then (some 99) else (if a0 ≤ 15 then (some 3) else (if a0 ≤ 18 then (some 35) else (if a0 ≤ 27 then (some 19) else (some 51))))))))) = some r := h
  clear h
  by_cases c2 : a0 = 1
  · rw [if_pos c2] at H
    have c2b0 : (a0 == 1) = true := beq_iff_eq.mpr c2
    have c2b1 : (a0 != 1) = false := bne_eq_false_iff_eq.mpr c2
    clear c2
    obtain rfl := Option.some.inj H
    go_enter Try.func34, Try.ntmps34
    go_wp2
    go_ret
    exact ⟨by first | rfl | (simp; done) | (simp [*]; done), by repeat (first | exact Drawn0.refl _ | apply Drawn0.step)⟩
  · rw [if_neg c2] at H
    have c2b0 : (a0 == 1) = false := beq_eq_false_iff_ne.mpr c2
    have c2b1 : (a0 != 1) = true := bne_iff_ne.mpr c2
    by_cases c3 : a0 = 2
    · rw [if_pos c3] at H
      have c3b0 : (a0 == 2) = true := beq_iff_eq.mpr c3
      have c3b1 : (a0 != 2) = false := bne_eq_false_iff_eq.mpr c3
      clear c3
      obtain rfl := Option.some.inj H
      go_enter Try.func34, Try.ntmps34
      go_wp2
      go_ret
      exact ⟨by first | rfl | (simp; done) | (simp [*]; done), by repeat (first | exact Drawn0.refl _ | apply Drawn0.step)⟩
    · rw [if_neg c3] at H
      have c3b0 : (a0 == 2) = false := beq_eq_false_iff_ne.mpr c3
      have c3b1 : (a0 != 2) = true := bne_iff_ne.mpr c3
      by_cases c4 : a0 = 3
      · rw [if_pos c4] at H
        have c4b0 : (a0 == 3) = true := beq_iff_eq.mpr c4
        have c4b1 : (a0 != 3) = false := bne_eq_false_iff_eq.mpr c4
        clear c4
        obtain rfl := Option.some.inj H
        go_enter Try.func34, Try.ntmps34
        go_wp2
        go_ret
        exact ⟨by first | rfl | (simp; done) | (simp [*]; done), by repeat (first | exact Drawn0.refl _ | apply Drawn0.step)⟩
      · rw [if_neg c4] at H
        have c4b0 : (a0 == 3) = false := beq_eq_false_iff_ne.mpr c4
        have c4b1 : (a0 != 3) = true := bne_iff_ne.mpr c4
        by_cases c5 : a0 = 4
        · rw [if_pos c5] at H
          have c5b0 : (a0 == 4) = true := beq_iff_eq.mpr c5
          have c5b1 : (a0 != 4) = false := bne_eq_false_iff_eq.mpr c5
          clear c5
          obtain rfl := Option.some.inj H
          go_enter Try.func34, Try.ntmps34
          go_wp2
          go_ret
          exact ⟨by first | rfl | (simp; done) | (simp [*]; done), by repeat (first | exact Drawn0.refl _ | apply Drawn0.step)⟩
        · rw [if_neg c5] at H
          have c5b0 : (a0 == 4) = false := beq_eq_false_iff_ne.mpr c5
          have c5b1 : (a0 != 4) = true := bne_iff_ne.mpr c5
          by_cases c6 : a0 ≤ 10
          · rw [if_pos c6] at H
            have c6b0 : decide (a0 ≤ 10) = true := decide_eq_true c6
            clear c6
            obtain rfl := Option.some.inj H
            go_enter Try.func34, Try.ntmps34
            go_wp2
            go_ret
            exact ⟨by first | rfl | (simp; done) | (simp [*]; done), by repeat (first | exact Drawn0.refl _ | apply Drawn0.step)⟩
          · rw [if_neg c6] at H
            have c6b0 : decide (a0 ≤ 10) = false := decide_eq_false c6
            clear c6
            by_cases c7 : a0 ≤ 15
            · rw [if_pos c7] at H
              have c7b0 : decide (a0 ≤ 15) = true := decide_eq_true c7
              clear c7
              obtain rfl := Option.some.inj H
              go_enter Try.func34, Try.ntmps34
              go_wp2
              go_ret
              exact ⟨by first | rfl | (simp; done) | (simp [*]; done), by repeat (first | exact Drawn0.refl _ | apply Drawn0.step)⟩
            · rw [if_neg c7] at H
              have c7b0 : decide (a0 ≤ 15) = false := decide_eq_false c7
              clear c7
              by_cases c8 : a0 ≤ 18
              · rw [if_pos c8] at H
                have c8b0 : decide (a0 ≤ 18) = true := decide_eq_true c8
                clear c8
                obtain rfl := Option.some.inj H
                go_enter Try.func34, Try.ntmps34
                go_wp2
                go_ret
                exact ⟨by first | rfl | (simp; done) | (simp [*]; done), by repeat (first | exact Drawn0.refl _ | apply Drawn0.step)⟩
              · rw [if_neg c8] at H
                have c8b0 : decide (a0 ≤ 18) = false := decide_eq_false c8
                clear c8
                by_cases c9 : a0 ≤ 27
                · rw [if_pos c9] at H
                  have c9b0 : decide (a0 ≤ 27) = true := decide_eq_true c9
                  clear c9
                  obtain rfl := Option.some.inj H
                  go_enter Try.func34, Try.ntmps34
                  go_wp2
                  go_ret
                  exact ⟨by first | rfl | (simp; done) | (simp [*]; done), by repeat (first | exact Drawn0.refl _ | apply Drawn0.step)⟩
                · rw [if_neg c9] at H
                  have c9b0 : decide (a0 ≤ 27) = false := decide_eq_false c9
                  clear c9
                  obtain rfl := Option.some.inj H
                  go_enter Try.func34, Try.ntmps34
                  go_wp2
                  go_ret
                  exact ⟨by first | rfl | (simp; done) | (simp [*]; done), by repeat (first | exact Drawn0.refl _ | apply Drawn0.step)⟩
def rushlightref02_two.l0 : Nat → Int → Int → Int → Option (Int)
  | 0, _, _, _ => none
  | k + 1, x0, x3, x4 => if x4 < x0 then (rushlightref02_two.l0 k x0 (wrap64 (2 * x3)) (wrap64 (x4 + 1))) else (some x3)
def rushlightref02_two.f (k : Nat) (a0 : Int) : Option (Int) := rushlightref02_two.l0 k a0 1 0
set_option maxHeartbeats 8000000 in
set_option maxRecDepth 100000 in
theorem rushlightref02_two.calls (k : Nat) (a0 : Int) (r : Int) (w : World) (h : rushlightref02_two.f k a0 = some r) :
    Calls Try.prog 35 #[.int .i64 a0] w fun e w' => e = .returned (.int .i64 r) ∧ Drawn0 w w' := by
  have H : (rushlightref02_two.l0 k a0 1 0) = some r := h
  clear h
  have H' := Aside0.mk H
  clear H
  go_enter Try.func35, Try.ntmps35
  go_wp2
  go_loopg [3, 4] k (fun kq v3 v4 w' => ∃ (x3_1 : Int) (x4_1 : Int), v3 = .int .i64 x3_1 ∧ v4 = .int .i64 x4_1 ∧ Aside0 (rushlightref02_two.l0 kq a0 x3_1 x4_1 = some r) ∧ Aside0 (kq ≤ k) ∧ Drawn0 w w')
  case atStart => exact ⟨(1), (0), (by first | rfl | (simp; done) | (simp [*]; done)), (by first | rfl | (simp; done) | (simp [*]; done)), H', ⟨Nat.le_refl _⟩, by repeat (first | exact Drawn0.refl _ | apply Drawn0.step)⟩
  case round =>
    clear H'
    obtain ⟨x3_1, x4_1, rfl, rfl, HA, HK1, ⟨m1, rfl⟩⟩ := hrel
    cases gk with
    | zero => exact absurd HA.out (by simp [rushlightref02_two.l0])
    | succ k1 =>
      have H := HA.out
      clear HA
      simp only [rushlightref02_two.l0] at H
      by_cases c2 : x4_1 < a0
      · rw [if_pos c2] at H
        have c2b0 : decide (x4_1 < a0) = true := decide_eq_true c2
        clear c2
        have H' := Aside0.mk H
        clear H
        go_wp2
        go_roundg k1
        case measure => have := HK1.out; omega
        case rel => exact ⟨(wrap64 (2 * x3_1)), (wrap64 (x4_1 + 1)), (by first | rfl | (simp; done) | (simp [*]; done)), (by first | rfl | (simp; done) | (simp [*]; done)), H', ⟨by have := HK1.out; omega⟩, by repeat (first | exact Drawn0.refl _ | apply Drawn0.step)⟩
      · rw [if_neg c2] at H
        have c2b0 : decide (x4_1 < a0) = false := decide_eq_false c2
        clear c2
        obtain rfl := Option.some.inj H
        go_wp2
        go_ret
        exact ⟨by first | rfl | (simp; done) | (simp [*]; done), by repeat (first | exact Drawn0.refl _ | apply Drawn0.step)⟩
def rushlightref02_Third.f (a0 : Int) : Option (Int) := (some (([0, 0, 0, 0, 0, 0, 1, 4, 5, 6, 7, 0, 1, 2, 4, 5, 0, 1, 2, 0, 2, 3, 4, 6, 7, 1, 5, 5, 0, 0, 1, 2, 3, 4, 5, 5, 6, 7, 0, 1, 2, 3, 4, 5, 6, 7] : List Int) : List Int)).bind fun y144 => (if 0 ≤ a0 then (if a0 < (y144.length : Int) then (some (rd y144 a0)) else (none)) else (none))
set_option maxHeartbeats 8000000 in
set_option maxRecDepth 100000 in
theorem rushlightref02_Third.calls (a0 : Int) (r : Int) (w : World) (h : rushlightref02_Third.f a0 = some r) :
    Calls Try.prog 36 #[.int .i64 a0] w fun e w' => e = .returned (.int .i64 r) ∧ Below w.heap.size w w' := by
  have HB := Aside0.mk (Below.refl w.heap.size w)
  have H : ((some (([0, 0, 0, 0, 0, 0, 1, 4, 5, 6, 7, 0, 1, 2, 4, 5, 0, 1, 2, 0, 2, 3, 4, 6, 7, 1, 5, 5, 0, 0, 1, 2, 3, 4, 5, 5, 6, 7, 0, 1, 2, 3, 4, 5, 6, 7] : List Int) : List Int)).bind fun y144 => (if 0 ≤ a0 then (if a0 < (y144.length : Int) then (some (rd y144 a0)) else (none)) else (none))) = some r := h
  clear h
  obtain ⟨y144, hy144⟩ : ∃ y_ : List Int, y_ = (([0, 0, 0, 0, 0, 0, 1, 4, 5, 6, 7, 0, 1, 2, 4, 5, 0, 1, 2, 0, 2, 3, 4, 6, 7, 1, 5, 5, 0, 0, 1, 2, 3, 4, 5, 5, 6, 7, 0, 1, 2, 3, 4, 5, 6, 7] : List Int)) := ⟨_, rfl⟩
  replace H : (if 0 ≤ a0 then (if a0 < (y144.length : Int) then (some (rd y144 a0)) else (none)) else (none)) = some r := by first | (rw [hy144]; with_reducible exact H) | (have H2_ := (Option.bind_some _ _).symm.trans H; rw [hy144]; with_reducible exact H2_) | (have H2_ := (Option.bind_some _ _).symm.trans H; with_reducible exact H2_) | with_reducible exact H | (rw [hy144]; exact H) | exact H
  have Ny144 := Aside0.mk hy144
  clear hy144
  by_cases c2 : 0 ≤ a0
  · rw [if_pos c2] at H
    have c2b0 : decide (0 ≤ a0) = true := decide_eq_true c2
    clear c2
    by_cases c3 : a0 < (y144.length : Int)
    · rw [if_pos c3] at H
      have c3b0 : decide (a0 < (y144.length : Int)) = true := decide_eq_true c3
      clear c3
      obtain rfl := Option.some.inj H
      go_enter Try.func36, Try.ntmps36
      go_wp2_with (first | ((with_reducible refine gate_dst (N := 4) rfl ?_); refine Kd.R_lit (Kd.int .i64) _ 3 ?hg (N := 4) ?hd (xs := ([0, 0, 0, 0, 0, 0, 1, 4, 5, 6, 7, 0, 1, 2, 4, 5, 0, 1, 2, 0, 2, 3, 4, 6, 7, 1, 5, 5, 0, 0, 1, 2, 3, 4, 5, 5, 6, 7, 0, 1, 2, 3, 4, 5, 6, 7] : List Int)) (inner := [.int .i64 0, .int .i64 0, .int .i64 0, .int .i64 0, .int .i64 0, .int .i64 0, .int .i64 1, .int .i64 4, .int .i64 5, .int .i64 6, .int .i64 7, .int .i64 0, .int .i64 1, .int .i64 2, .int .i64 4, .int .i64 5, .int .i64 0, .int .i64 1, .int .i64 2, .int .i64 0, .int .i64 2, .int .i64 3, .int .i64 4, .int .i64 6, .int .i64 7, .int .i64 1, .int .i64 5, .int .i64 5, .int .i64 0, .int .i64 0, .int .i64 1, .int .i64 2, .int .i64 3, .int .i64 4, .int .i64 5, .int .i64 5, .int .i64 6, .int .i64 7, .int .i64 0, .int .i64 1, .int .i64 2, .int .i64 3, .int .i64 4, .int .i64 5, .int .i64 6, .int .i64 7]) (ok := fun _ => True) (okp := fun _ => True) ?hr ?hp (fun _ hk => hk) trivial (Below.refl _ _) (Nat.le_refl _) (by simp) ?_; (case hd => rfl); (case hg => rfl); (case hr => first | (go_simp; done) | (go_simp; rfl)); (case hp => exact (Reps.one (show Kd.M (Kd.int .i64) _ _ _ 0 [.int .i64 0] from rfl) (Reps.one (show Kd.M (Kd.int .i64) _ _ _ 0 [.int .i64 0] from rfl) (Reps.one (show Kd.M (Kd.int .i64) _ _ _ 0 [.int .i64 0] from rfl) (Reps.one (show Kd.M (Kd.int .i64) _ _ _ 0 [.int .i64 0] from rfl) (Reps.one (show Kd.M (Kd.int .i64) _ _ _ 0 [.int .i64 0] from rfl) (Reps.one (show Kd.M (Kd.int .i64) _ _ _ 0 [.int .i64 0] from rfl) (Reps.one (show Kd.M (Kd.int .i64) _ _ _ 1 [.int .i64 1] from rfl) (Reps.one (show Kd.M (Kd.int .i64) _ _ _ 4 [.int .i64 4] from rfl) (Reps.one (show Kd.M (Kd.int .i64) _ _ _ 5 [.int .i64 5] from rfl) (Reps.one (show Kd.M (Kd.int .i64) _ _ _ 6 [.int .i64 6] from rfl) (Reps.one (show Kd.M (Kd.int .i64) _ _ _ 7 [.int .i64 7] from rfl) (Reps.one (show Kd.M (Kd.int .i64) _ _ _ 0 [.int .i64 0] from rfl) (Reps.one (show Kd.M (Kd.int .i64) _ _ _ 1 [.int .i64 1] from rfl) (Reps.one (show Kd.M (Kd.int .i64) _ _ _ 2 [.int .i64 2] from rfl) (Reps.one (show Kd.M (Kd.int .i64) _ _ _ 4 [.int .i64 4] from rfl) (Reps.one (show Kd.M (Kd.int .i64) _ _ _ 5 [.int .i64 5] from rfl) (Reps.one (show Kd.M (Kd.int .i64) _ _ _ 0 [.int .i64 0] from rfl) (Reps.one (show Kd.M (Kd.int .i64) _ _ _ 1 [.int .i64 1] from rfl) (Reps.one (show Kd.M (Kd.int .i64) _ _ _ 2 [.int .i64 2] from rfl) (Reps.one (show Kd.M (Kd.int .i64) _ _ _ 0 [.int .i64 0] from rfl) (Reps.one (show Kd.M (Kd.int .i64) _ _ _ 2 [.int .i64 2] from rfl) (Reps.one (show Kd.M (Kd.int .i64) _ _ _ 3 [.int .i64 3] from rfl) (Reps.one (show Kd.M (Kd.int .i64) _ _ _ 4 [.int .i64 4] from rfl) (Reps.one (show Kd.M (Kd.int .i64) _ _ _ 6 [.int .i64 6] from rfl) (Reps.one (show Kd.M (Kd.int .i64) _ _ _ 7 [.int .i64 7] from rfl) (Reps.one (show Kd.M (Kd.int .i64) _ _ _ 1 [.int .i64 1] from rfl) (Reps.one (show Kd.M (Kd.int .i64) _ _ _ 5 [.int .i64 5] from rfl) (Reps.one (show Kd.M (Kd.int .i64) _ _ _ 5 [.int .i64 5] from rfl) (Reps.one (show Kd.M (Kd.int .i64) _ _ _ 0 [.int .i64 0] from rfl) (Reps.one (show Kd.M (Kd.int .i64) _ _ _ 0 [.int .i64 0] from rfl) (Reps.one (show Kd.M (Kd.int .i64) _ _ _ 1 [.int .i64 1] from rfl) (Reps.one (show Kd.M (Kd.int .i64) _ _ _ 2 [.int .i64 2] from rfl) (Reps.one (show Kd.M (Kd.int .i64) _ _ _ 3 [.int .i64 3] from rfl) (Reps.one (show Kd.M (Kd.int .i64) _ _ _ 4 [.int .i64 4] from rfl) (Reps.one (show Kd.M (Kd.int .i64) _ _ _ 5 [.int .i64 5] from rfl) (Reps.one (show Kd.M (Kd.int .i64) _ _ _ 5 [.int .i64 5] from rfl) (Reps.one (show Kd.M (Kd.int .i64) _ _ _ 6 [.int .i64 6] from rfl) (Reps.one (show Kd.M (Kd.int .i64) _ _ _ 7 [.int .i64 7] from rfl) (Reps.one (show Kd.M (Kd.int .i64) _ _ _ 0 [.int .i64 0] from rfl) (Reps.one (show Kd.M (Kd.int .i64) _ _ _ 1 [.int .i64 1] from rfl) (Reps.one (show Kd.M (Kd.int .i64) _ _ _ 2 [.int .i64 2] from rfl) (Reps.one (show Kd.M (Kd.int .i64) _ _ _ 3 [.int .i64 3] from rfl) (Reps.one (show Kd.M (Kd.int .i64) _ _ _ 4 [.int .i64 4] from rfl) (Reps.one (show Kd.M (Kd.int .i64) _ _ _ 5 [.int .i64 5] from rfl) (Reps.one (show Kd.M (Kd.int .i64) _ _ _ 6 [.int .i64 6] from rfl) (Reps.one (show Kd.M (Kd.int .i64) _ _ _ 7 [.int .i64 7] from rfl) (Reps.none _ _)))))))))))))))))))))))))))))))))))))))))))))))); intro v145 w4 ho5 hb hg_ hnew_; clear hg_ hnew_; (first | rw [← Ny144.out] at ho5 | (simp only [Int.reduceToNat] at ho5; rw [← Ny144.out] at ho5)); have n0_ := Aside0.mk (Kd.R_lower ho5 (below_size (by repeat (first | (with_reducible first | exact HB.out | apply below_alloc | apply pw_below_drewN | apply below_drew1) | exact HB.out)))); have n1_ := Aside0.mk (below_step (by repeat (first | (with_reducible first | exact HB.out | apply below_alloc | apply pw_below_drewN | apply below_drew1) | exact HB.out)) hb); clear HB; have HO146 := n0_; have HB := n1_; clear n0_ n1_; clear hb ho5; obtain ⟨Ao6, co6, eo6⟩ := Kd.R_slice HO146.out; subst eo6; have p147 : 0 ≤ (a0 : Int) := of_decide_eq_true (by first | (with_reducible assumption) | assumption); have q147 : a0 < (y144.length : Int) := of_decide_eq_true (by first | (with_reducible assumption) | assumption); obtain ⟨ad147, e147, hx147_0⟩ := Kd.at_int (Kd.R_reads' HO146.out).2.2 a0 p147 q147; cases e147; replace p147 := eq_true p147; replace q147 := eq_true q147))
      go_ret
      exact ⟨by first | rfl | (simp [errW_none, errW_some] <;> rfl) | (simp [*, errW_none, errW_some] <;> rfl), by repeat (first | (with_reducible first | exact HB.out | apply below_alloc | apply pw_below_drewN | apply below_drew1) | exact HB.out)⟩
    · rw [if_neg c3] at H
      exact absurd H (by simp)
  · rw [if_neg c2] at H
    exact absurd H (by simp)
def rushlightref02_Seventh.j0 : Nat → Int → Bool → Option (Int)
  | 0, _, _ => none
  | k + 1, x0, x12 => if x12 = true then (some 32) else (if x0 ≥ 38 then (some 1) else (some 0))
def rushlightref02_Seventh.f (k : Nat) (a0 : Int) : Option (Int) := if a0 = 27 then (rushlightref02_Seventh.j0 k a0 true) else (if a0 = 29 then (rushlightref02_Seventh.j0 k a0 true) else (rushlightref02_Seventh.j0 k a0 (a0 == 35)))
theorem rushlightref02_Seventh.mono_l : ∀ k, (∀ y0 y1, LeO (rushlightref02_Seventh.j0 k y0 y1) (rushlightref02_Seventh.j0 (k + 1) y0 y1))
  | 0 => fun _ _ r h => by simp [rushlightref02_Seventh.j0] at h
  | k + 1 => by
    have ih0 := rushlightref02_Seventh.mono_l k
    · intro y0 y1
      unfold rushlightref02_Seventh.j0
      repeat' first
      | (with_reducible exact ih0 _ _)
      | (with_reducible exact LeO.refl _)
      | (with_reducible exact LeO.none _)
      | (with_reducible refine LeO.ite ?_ ?_)
      | (with_reducible refine LeO.bind ?_ (fun _ => ?_))
      | exact ih0 _ _
      | exact LeO.none _
      | refine LeO.ite ?_ ?_
      | refine LeO.bind ?_ (fun _ => ?_)
theorem rushlightref02_Seventh.mono : ∀ a0 k, LeO (rushlightref02_Seventh.f k a0) (rushlightref02_Seventh.f (k + 1) a0) := by
  intro a0 k
  have ih0 := rushlightref02_Seventh.mono_l k
  unfold rushlightref02_Seventh.f
  repeat' first
      | (with_reducible exact ih0 _ _)
      | (with_reducible exact LeO.refl _)
      | (with_reducible exact LeO.none _)
      | (with_reducible refine LeO.ite ?_ ?_)
      | (with_reducible refine LeO.bind ?_ (fun _ => ?_))
      | exact ih0 _ _
      | exact LeO.none _
      | refine LeO.ite ?_ ?_
      | refine LeO.bind ?_ (fun _ => ?_)
set_option maxHeartbeats 8000000 in
set_option maxRecDepth 100000 in
theorem rushlightref02_Seventh.calls (k : Nat) (a0 : Int) (r : Int) (w : World) (h : rushlightref02_Seventh.f k a0 = some r) :
    Calls Try.prog 37 #[.int .i64 a0] w fun e w' => e = .returned (.int .i64 r) ∧ Drawn0 w w' := by
  have H : (if a0 = 27 then (rushlightref02_Seventh.j0 k a0 true) else (if a0 = 29 then (rushlightref02_Seventh.j0 k a0 true) else (rushlightref02_Seventh.j0 k a0 (a0 == 35)))) = some r := h
  clear h
  have HC2 := Aside0.mk H
  clear H
  go_enter Try.func37, Try.ntmps37
  go_upto_region 1 with (fail)
  go_cut [12] (fun v12 wc => ∃ (kq : Nat) (x12_1 : Bool), v12 = .bool x12_1 ∧ Aside0 (rushlightref02_Seventh.j0 kq a0 x12_1 = some r) ∧ Aside0 (kq ≤ k) ∧ Drawn0 w wc)
  case first =>
    have H := HC2.out
    clear HC2
    by_cases c3 : a0 = 27
    · rw [if_pos c3] at H
      have c3b0 : (a0 == 27) = true := beq_iff_eq.mpr c3
      have c3b1 : (a0 != 27) = false := bne_eq_false_iff_eq.mpr c3
      clear c3
      (first | rw [c3b0] | (simp only [i64_w, i32_w]; rw [c3b0]) | skip)
      have H' := Aside0.mk H
      clear H
      go_wp2
      go_meet
      case rel => exact ⟨_, (true), (by first | rfl | (simp; done) | (simp [*]; done)), H', ⟨by first | omega | exact Nat.le_refl _⟩, by repeat (first | exact Drawn0.refl _ | apply Drawn0.step)⟩
    · rw [if_neg c3] at H
      have c3b0 : (a0 == 27) = false := beq_eq_false_iff_ne.mpr c3
      have c3b1 : (a0 != 27) = true := bne_iff_ne.mpr c3
      (first | rw [c3b0] | (simp only [i64_w, i32_w]; rw [c3b0]) | skip)
      by_cases c4 : a0 = 29
      · rw [if_pos c4] at H
        have c4b0 : (a0 == 29) = true := beq_iff_eq.mpr c4
        have c4b1 : (a0 != 29) = false := bne_eq_false_iff_eq.mpr c4
        clear c4
        have H' := Aside0.mk H
        clear H
        go_wp2
        go_meet
        case rel => exact ⟨_, (true), (by first | rfl | (simp; done) | (simp [*]; done)), H', ⟨by first | omega | exact Nat.le_refl _⟩, by repeat (first | exact Drawn0.refl _ | apply Drawn0.step)⟩
      · rw [if_neg c4] at H
        have c4b0 : (a0 == 29) = false := beq_eq_false_iff_ne.mpr c4
        have c4b1 : (a0 != 29) = true := bne_iff_ne.mpr c4
        have H' := Aside0.mk H
        clear H
        go_wp2
        go_meet
        case rel => exact ⟨_, ((a0 == 35)), (by first | rfl | (simp; done) | (simp [*]; done)), H', ⟨by first | omega | exact Nat.le_refl _⟩, by repeat (first | exact Drawn0.refl _ | apply Drawn0.step)⟩
  case rest =>
    clear HC2
    try clear p2
    try clear c3
    try clear c3b0
    try clear c3b1
    try clear c4
    try clear c4b0
    try clear c4b1
    obtain ⟨kq, x12_1, rfl, HA, HJ1, ⟨mc1, rfl⟩⟩ := hcut
    cases kq with
    | zero => exact absurd HA.out (by simp [rushlightref02_Seventh.j0])
    | succ kj1 =>
      have H := HA.out
      clear HA
      simp only [rushlightref02_Seventh.j0] at H
      by_cases c5 : x12_1 = true
      · subst c5
        have H1 : (some 32) = some r := by rw [if_pos rfl] at H; exact H
        clear H
        have H := H1
        clear H1
        obtain rfl := Option.some.inj H
        go_wp2
        go_ret
        exact ⟨by first | rfl | (simp; done) | (simp [*]; done), by repeat (first | exact Drawn0.refl _ | apply Drawn0.step)⟩
      · replace c5 := Bool.eq_false_iff.mpr c5
        subst c5
        have H1 : (if a0 ≥ 38 then (some 1) else (some 0)) = some r := by rw [if_neg (show ¬ (false = true) by decide)] at H; exact H
        clear H
        have H := H1
        clear H1
        by_cases c6 : a0 ≥ 38
        · rw [if_pos c6] at H
          have c6b0 : decide (38 ≤ a0) = true := decide_eq_true c6
          clear c6
          obtain rfl := Option.some.inj H
          go_wp2
          go_ret
          exact ⟨by first | rfl | (simp; done) | (simp [*]; done), by repeat (first | exact Drawn0.refl _ | apply Drawn0.step)⟩
        · rw [if_neg c6] at H
          have c6b0 : decide (38 ≤ a0) = false := decide_eq_false c6
          clear c6
          obtain rfl := Option.some.inj H
          go_wp2
          go_ret
          exact ⟨by first | rfl | (simp; done) | (simp [*]; done), by repeat (first | exact Drawn0.refl _ | apply Drawn0.step)⟩
def rushlightref02_move.f (k : Nat) (a0 : Int) (a1 : Int) (a2 : Int) (a3 : Int) : Option (Int) := if a0 < 0 then ((rushlightref02_two.f k a1).bind fun t148 => (if t148 = 0 then (none) else ((rushlightref02_two.f k (wrap64 ((wrap64 (a2 - a1)) + 1))).bind fun t149 => (if t149 = 0 then (none) else ((rushlightref02_two.f k a3).bind fun t150 => (some (wrap64 ((Int.tmod (wrap64 (Int.tdiv (wrap64 (a0 + 4294967296)) t148)) t149) * t150)))))))) else ((rushlightref02_two.f k a1).bind fun t151 => (if t151 = 0 then (none) else ((rushlightref02_two.f k (wrap64 ((wrap64 (a2 - a1)) + 1))).bind fun t152 => (if t152 = 0 then (none) else ((rushlightref02_two.f k a3).bind fun t153 => (some (wrap64 ((Int.tmod (wrap64 (Int.tdiv a0 t151)) t152) * t153))))))))
set_option maxHeartbeats 8000000 in
set_option maxRecDepth 100000 in
theorem rushlightref02_move.calls (k : Nat) (a0 : Int) (a1 : Int) (a2 : Int) (a3 : Int) (r : Int) (w : World) (h : rushlightref02_move.f k a0 a1 a2 a3 = some r) :
    Calls Try.prog 33 #[.int .i64 a0, .int .i64 a1, .int .i64 a2, .int .i64 a3] w fun e w' => e = .returned (.int .i64 r) ∧ Drawn0 w w' := by
  have H : (if a0 < 0 then ((rushlightref02_two.f k a1).bind fun t148 => (if t148 = 0 then (none) else ((rushlightref02_two.f k (wrap64 ((wrap64 (a2 - a1)) + 1))).bind fun t149 => (if t149 = 0 then (none) else ((rushlightref02_two.f k a3).bind fun t150 => (some (wrap64 ((Int.tmod (wrap64 (Int.tdiv (wrap64 (a0 + 4294967296)) t148)) t149) * t150)))))))) else ((rushlightref02_two.f k a1).bind fun t151 => (if t151 = 0 then (none) else ((rushlightref02_two.f k (wrap64 ((wrap64 (a2 - a1)) + 1))).bind fun t152 => (if t152 = 0 then (none) else ((rushlightref02_two.f k a3).bind fun t153 => (some (wrap64 ((Int.tmod (wrap64 (Int.tdiv a0 t151)) t152) * t153))))))))) = some r := h
  clear h
  by_cases c5 : a0 < 0
  · rw [if_pos c5] at H
    have c5b0 : decide (a0 < 0) = true := decide_eq_true c5
    clear c5
    replace H := Option.bind_eq_some_iff.mp H
    obtain ⟨t148, A60, H⟩ := H
    replace H : (if t148 = 0 then (none) else ((rushlightref02_two.f k (wrap64 ((wrap64 (a2 - a1)) + 1))).bind fun t149 => (if t149 = 0 then (none) else ((rushlightref02_two.f k a3).bind fun t150 => (some (wrap64 ((Int.tmod (wrap64 (Int.tdiv (wrap64 (a0 + 4294967296)) t148)) t149) * t150))))))) = some r := H
    have A6 := Aside0.mk A60
    clear A60
    by_cases c7 : t148 = 0
    · rw [if_pos c7] at H
      exact absurd H (by simp)
    · rw [if_neg c7] at H
      have c7b0 : (t148 == 0) = false := beq_eq_false_iff_ne.mpr c7
      have c7b1 : (t148 != 0) = true := bne_iff_ne.mpr c7
      replace H := Option.bind_eq_some_iff.mp H
      obtain ⟨t149, A80, H⟩ := H
      replace H : (if t149 = 0 then (none) else ((rushlightref02_two.f k a3).bind fun t150 => (some (wrap64 ((Int.tmod (wrap64 (Int.tdiv (wrap64 (a0 + 4294967296)) t148)) t149) * t150))))) = some r := H
      have A8 := Aside0.mk A80
      clear A80
      by_cases c9 : t149 = 0
      · rw [if_pos c9] at H
        exact absurd H (by simp)
      · rw [if_neg c9] at H
        have c9b0 : (t149 == 0) = false := beq_eq_false_iff_ne.mpr c9
        have c9b1 : (t149 != 0) = true := bne_iff_ne.mpr c9
        replace H := Option.bind_eq_some_iff.mp H
        obtain ⟨t150, A100, H⟩ := H
        replace H : (some (wrap64 ((Int.tmod (wrap64 (Int.tdiv (wrap64 (a0 + 4294967296)) t148)) t149) * t150))) = some r := H
        have A10 := Aside0.mk A100
        clear A100
        obtain rfl := Option.some.inj H
        go_enter Try.func33, Try.ntmps33
        go_wp2_with (first | (go_at_call 35; (with_reducible refine (rushlightref02_two.calls k a1 t148 _ A6.out).mono ?_); rintro e w' ⟨rfl, ⟨nd, rfl⟩⟩; (try first | exact ⟨rfl, _, World.drewN_drewN _ _ _⟩ | exact ⟨rfl, _, Eq.trans (World.drewN_drewN _ _ _) (congrArg (World.drewN _) (Nat.add_assoc _ _ _))⟩)) | (go_at_call 35; (with_reducible refine (rushlightref02_two.calls k (wrap64 ((wrap64 (a2 - a1)) + 1)) t149 _ A8.out).mono ?_); rintro e w' ⟨rfl, ⟨nd, rfl⟩⟩; (try first | exact ⟨rfl, _, World.drewN_drewN _ _ _⟩ | exact ⟨rfl, _, Eq.trans (World.drewN_drewN _ _ _) (congrArg (World.drewN _) (Nat.add_assoc _ _ _))⟩)) | (go_at_call 35; (with_reducible refine (rushlightref02_two.calls k a3 t150 _ A10.out).mono ?_); rintro e w' ⟨rfl, ⟨nd, rfl⟩⟩; (try first | exact ⟨rfl, _, World.drewN_drewN _ _ _⟩ | exact ⟨rfl, _, Eq.trans (World.drewN_drewN _ _ _) (congrArg (World.drewN _) (Nat.add_assoc _ _ _))⟩)))
        repeat (go_quiet (first | (go_at_call 35; (with_reducible refine (rushlightref02_two.calls k a1 t148 _ A6.out).mono ?_); rintro e w' ⟨rfl, ⟨nd, rfl⟩⟩; (try first | exact ⟨rfl, _, World.drewN_drewN _ _ _⟩ | exact ⟨rfl, _, Eq.trans (World.drewN_drewN _ _ _) (congrArg (World.drewN _) (Nat.add_assoc _ _ _))⟩)) | (go_at_call 35; (with_reducible refine (rushlightref02_two.calls k (wrap64 ((wrap64 (a2 - a1)) + 1)) t149 _ A8.out).mono ?_); rintro e w' ⟨rfl, ⟨nd, rfl⟩⟩; (try first | exact ⟨rfl, _, World.drewN_drewN _ _ _⟩ | exact ⟨rfl, _, Eq.trans (World.drewN_drewN _ _ _) (congrArg (World.drewN _) (Nat.add_assoc _ _ _))⟩)) | (go_at_call 35; (with_reducible refine (rushlightref02_two.calls k a3 t150 _ A10.out).mono ?_); rintro e w' ⟨rfl, ⟨nd, rfl⟩⟩; (try first | exact ⟨rfl, _, World.drewN_drewN _ _ _⟩ | exact ⟨rfl, _, Eq.trans (World.drewN_drewN _ _ _) (congrArg (World.drewN _) (Nat.add_assoc _ _ _))⟩))); try go_wp2_with (first | (go_at_call 35; (with_reducible refine (rushlightref02_two.calls k a1 t148 _ A6.out).mono ?_); rintro e w' ⟨rfl, ⟨nd, rfl⟩⟩; (try first | exact ⟨rfl, _, World.drewN_drewN _ _ _⟩ | exact ⟨rfl, _, Eq.trans (World.drewN_drewN _ _ _) (congrArg (World.drewN _) (Nat.add_assoc _ _ _))⟩)) | (go_at_call 35; (with_reducible refine (rushlightref02_two.calls k (wrap64 ((wrap64 (a2 - a1)) + 1)) t149 _ A8.out).mono ?_); rintro e w' ⟨rfl, ⟨nd, rfl⟩⟩; (try first | exact ⟨rfl, _, World.drewN_drewN _ _ _⟩ | exact ⟨rfl, _, Eq.trans (World.drewN_drewN _ _ _) (congrArg (World.drewN _) (Nat.add_assoc _ _ _))⟩)) | (go_at_call 35; (with_reducible refine (rushlightref02_two.calls k a3 t150 _ A10.out).mono ?_); rintro e w' ⟨rfl, ⟨nd, rfl⟩⟩; (try first | exact ⟨rfl, _, World.drewN_drewN _ _ _⟩ | exact ⟨rfl, _, Eq.trans (World.drewN_drewN _ _ _) (congrArg (World.drewN _) (Nat.add_assoc _ _ _))⟩))))
        go_ret
        exact ⟨by first | rfl | (simp; done) | (simp [*]; done), by repeat (first | exact Drawn0.refl _ | apply Drawn0.step)⟩
  · rw [if_neg c5] at H
    have c5b0 : decide (a0 < 0) = false := decide_eq_false c5
    clear c5
    replace H := Option.bind_eq_some_iff.mp H
    obtain ⟨t151, A110, H⟩ := H
    replace H : (if t151 = 0 then (none) else ((rushlightref02_two.f k (wrap64 ((wrap64 (a2 - a1)) + 1))).bind fun t152 => (if t152 = 0 then (none) else ((rushlightref02_two.f k a3).bind fun t153 => (some (wrap64 ((Int.tmod (wrap64 (Int.tdiv a0 t151)) t152) * t153))))))) = some r := H
    have A11 := Aside0.mk A110
    clear A110
    by_cases c12 : t151 = 0
    · rw [if_pos c12] at H
      exact absurd H (by simp)
    · rw [if_neg c12] at H
      have c12b0 : (t151 == 0) = false := beq_eq_false_iff_ne.mpr c12
      have c12b1 : (t151 != 0) = true := bne_iff_ne.mpr c12
      replace H := Option.bind_eq_some_iff.mp H
      obtain ⟨t152, A130, H⟩ := H
      replace H : (if t152 = 0 then (none) else ((rushlightref02_two.f k a3).bind fun t153 => (some (wrap64 ((Int.tmod (wrap64 (Int.tdiv a0 t151)) t152) * t153))))) = some r := H
      have A13 := Aside0.mk A130
      clear A130
      by_cases c14 : t152 = 0
      · rw [if_pos c14] at H
        exact absurd H (by simp)
      · rw [if_neg c14] at H
        have c14b0 : (t152 == 0) = false := beq_eq_false_iff_ne.mpr c14
        have c14b1 : (t152 != 0) = true := bne_iff_ne.mpr c14
        replace H := Option.bind_eq_some_iff.mp H
        obtain ⟨t153, A150, H⟩ := H
        replace H : (some (wrap64 ((Int.tmod (wrap64 (Int.tdiv a0 t151)) t152) * t153))) = some r := H
        have A15 := Aside0.mk A150
        clear A150
        obtain rfl := Option.some.inj H
        go_enter Try.func33, Try.ntmps33
        go_wp2_with (first | (go_at_call 35; (with_reducible refine (rushlightref02_two.calls k a1 t151 _ A11.out).mono ?_); rintro e w' ⟨rfl, ⟨nd, rfl⟩⟩; (try first | exact ⟨rfl, _, World.drewN_drewN _ _ _⟩ | exact ⟨rfl, _, Eq.trans (World.drewN_drewN _ _ _) (congrArg (World.drewN _) (Nat.add_assoc _ _ _))⟩)) | (go_at_call 35; (with_reducible refine (rushlightref02_two.calls k (wrap64 ((wrap64 (a2 - a1)) + 1)) t152 _ A13.out).mono ?_); rintro e w' ⟨rfl, ⟨nd, rfl⟩⟩; (try first | exact ⟨rfl, _, World.drewN_drewN _ _ _⟩ | exact ⟨rfl, _, Eq.trans (World.drewN_drewN _ _ _) (congrArg (World.drewN _) (Nat.add_assoc _ _ _))⟩)) | (go_at_call 35; (with_reducible refine (rushlightref02_two.calls k a3 t153 _ A15.out).mono ?_); rintro e w' ⟨rfl, ⟨nd, rfl⟩⟩; (try first | exact ⟨rfl, _, World.drewN_drewN _ _ _⟩ | exact ⟨rfl, _, Eq.trans (World.drewN_drewN _ _ _) (congrArg (World.drewN _) (Nat.add_assoc _ _ _))⟩)))
        repeat (go_quiet (first | (go_at_call 35; (with_reducible refine (rushlightref02_two.calls k a1 t151 _ A11.out).mono ?_); rintro e w' ⟨rfl, ⟨nd, rfl⟩⟩; (try first | exact ⟨rfl, _, World.drewN_drewN _ _ _⟩ | exact ⟨rfl, _, Eq.trans (World.drewN_drewN _ _ _) (congrArg (World.drewN _) (Nat.add_assoc _ _ _))⟩)) | (go_at_call 35; (with_reducible refine (rushlightref02_two.calls k (wrap64 ((wrap64 (a2 - a1)) + 1)) t152 _ A13.out).mono ?_); rintro e w' ⟨rfl, ⟨nd, rfl⟩⟩; (try first | exact ⟨rfl, _, World.drewN_drewN _ _ _⟩ | exact ⟨rfl, _, Eq.trans (World.drewN_drewN _ _ _) (congrArg (World.drewN _) (Nat.add_assoc _ _ _))⟩)) | (go_at_call 35; (with_reducible refine (rushlightref02_two.calls k a3 t153 _ A15.out).mono ?_); rintro e w' ⟨rfl, ⟨nd, rfl⟩⟩; (try first | exact ⟨rfl, _, World.drewN_drewN _ _ _⟩ | exact ⟨rfl, _, Eq.trans (World.drewN_drewN _ _ _) (congrArg (World.drewN _) (Nat.add_assoc _ _ _))⟩))); try go_wp2_with (first | (go_at_call 35; (with_reducible refine (rushlightref02_two.calls k a1 t151 _ A11.out).mono ?_); rintro e w' ⟨rfl, ⟨nd, rfl⟩⟩; (try first | exact ⟨rfl, _, World.drewN_drewN _ _ _⟩ | exact ⟨rfl, _, Eq.trans (World.drewN_drewN _ _ _) (congrArg (World.drewN _) (Nat.add_assoc _ _ _))⟩)) | (go_at_call 35; (with_reducible refine (rushlightref02_two.calls k (wrap64 ((wrap64 (a2 - a1)) + 1)) t152 _ A13.out).mono ?_); rintro e w' ⟨rfl, ⟨nd, rfl⟩⟩; (try first | exact ⟨rfl, _, World.drewN_drewN _ _ _⟩ | exact ⟨rfl, _, Eq.trans (World.drewN_drewN _ _ _) (congrArg (World.drewN _) (Nat.add_assoc _ _ _))⟩)) | (go_at_call 35; (with_reducible refine (rushlightref02_two.calls k a3 t153 _ A15.out).mono ?_); rintro e w' ⟨rfl, ⟨nd, rfl⟩⟩; (try first | exact ⟨rfl, _, World.drewN_drewN _ _ _⟩ | exact ⟨rfl, _, Eq.trans (World.drewN_drewN _ _ _) (congrArg (World.drewN _) (Nat.add_assoc _ _ _))⟩))))
        go_ret
        exact ⟨by first | rfl | (simp; done) | (simp [*]; done), by repeat (first | exact Drawn0.refl _ | apply Drawn0.step)⟩
def rushlightref02_Spread.f (k : Nat) (a0 : Int) (a1 : Int) : Option (Int) := if a0 = 85 then ((rushlightref02_move.f k a1 12 31 12).bind fun t154 => (some t154)) else (if a0 = 74 then ((rushlightref02_move.f k a1 20 20 31).bind fun t155 => ((rushlightref02_move.f k a1 1 10 21).bind fun t156 => ((rushlightref02_move.f k a1 11 11 20).bind fun t157 => ((rushlightref02_move.f k a1 12 19 12).bind fun t158 => (some (wrap64 ((wrap64 ((wrap64 (t155 + t156)) + t157)) + t158))))))) else (if a0 = 73 then ((rushlightref02_move.f k a1 0 11 20).bind fun t159 => (some t159)) else (if a0 = 72 then ((rushlightref02_move.f k a1 0 4 20).bind fun t160 => (some t160)) else (if a0 = 83 then ((rushlightref02_move.f k a1 0 4 7).bind fun t161 => ((rushlightref02_move.f k a1 5 11 25).bind fun t162 => (some (wrap64 (t161 + t162))))) else (if a0 = 66 then ((rushlightref02_move.f k a1 12 12 31).bind fun t163 => ((rushlightref02_move.f k a1 5 10 25).bind fun t164 => ((rushlightref02_move.f k a1 1 4 8).bind fun t165 => ((rushlightref02_move.f k a1 11 11 7).bind fun t166 => (some (wrap64 ((wrap64 ((wrap64 (t163 + t164)) + t165)) + t166))))))) else (some 0))))))
set_option maxHeartbeats 8000000 in
set_option maxRecDepth 100000 in
theorem rushlightref02_Spread.calls (k : Nat) (a0 : Int) (a1 : Int) (r : Int) (w : World) (h : rushlightref02_Spread.f k a0 a1 = some r) :
    Calls Try.prog 38 #[.int .u8 a0, .int .i64 a1] w fun e w' => e = .returned (.int .i64 r) ∧ Drawn0 w w' := by
  have H : (if a0 = 85 then ((rushlightref02_move.f k a1 12 31 12).bind fun t154 => (some t154)) else (if a0 = 74 then ((rushlightref02_move.f k a1 20 20 31).bind fun t155 => ((rushlightref02_move.f k a1 1 10 21).bind fun t156 => ((rushlightref02_move.f k a1 11 11 20).bind fun t157 => ((rushlightref02_move.f k a1 12 19 12).bind fun t158 => (some (wrap64 ((wrap64 ((wrap64 (t155 + t156)) + t157)) + t158))))))) else (if a0 = 73 then ((rushlightref02_move.f k a1 0 11 20).bind fun t159 => (some t159)) else (if a0 = 72 then ((rushlightref02_move.f k a1 0 4 20).bind fun t160 => (some t160)) else (if a0 = 83 then ((rushlightref02_move.f k a1 0 4 7).bind fun t161 => ((rushlightref02_move.f k a1 5 11 25).bind fun t162 => (some (wrap64 (t161 + t162))))) else (if a0 = 66 then ((rushlightref02_move.f k a1 12 12 31).bind fun t163 => ((rushlightref02_move.f k a1 5 10 25).bind fun t164 => ((rushlightref02_move.f k a1 1 4 8).bind fun t165 => ((rushlightref02_move.f k a1 11 11 7).bind fun t166 => (some (wrap64 ((wrap64 ((wrap64 (t163 + t164)) + t165)) + t166))))))) else (some 0))))))) = some r := h
  clear h
  by_cases c3 : a0 = 85
  · rw [if_pos c3] at H
    have c3b0 : (a0 == 85) = true := beq_iff_eq.mpr c3
    have c3b1 : (a0 != 85) = false := bne_eq_false_iff_eq.mpr c3
    clear c3
    replace H := Option.bind_eq_some_iff.mp H
    obtain ⟨t154, A40, H⟩ := H
    replace H : (some t154) = some r := H
    have A4 := Aside0.mk A40
    clear A40
    obtain rfl := Option.some.inj H
    go_enter Try.func38, Try.ntmps38
    go_wp2_with (first | ((with_reducible refine gate_callee (f := 33) rfl ?_); refine goesL_ (some 8) rfl rfl Try.func33 (by kernel_rfl) rfl #[.int .i64 a1, .int .i64 12, .int .i64 31, .int .i64 12] rfl (by (try simp only [List.map_toArray, List.map_cons, List.map_nil]); first | done | rfl | (simp only [List.length_drop, List.length_take]; rfl)) ?_; (with_reducible refine (rushlightref02_move.calls k a1 12 31 12 t154 _ A4.out).mono ?_); rintro e w' ⟨rfl, ⟨nd, rfl⟩⟩; refine ⟨_, rfl, ?_⟩))
    go_ret
    exact ⟨by first | rfl | (simp; done) | (simp [*]; done), by repeat (first | exact Drawn0.refl _ | apply Drawn0.step)⟩
  · rw [if_neg c3] at H
    have c3b0 : (a0 == 85) = false := beq_eq_false_iff_ne.mpr c3
    have c3b1 : (a0 != 85) = true := bne_iff_ne.mpr c3
    by_cases c5 : a0 = 74
    · rw [if_pos c5] at H
      have c5b0 : (a0 == 74) = true := beq_iff_eq.mpr c5
      have c5b1 : (a0 != 74) = false := bne_eq_false_iff_eq.mpr c5
      clear c5
      replace H := Option.bind_eq_some_iff.mp H
      obtain ⟨t155, A60, H⟩ := H
      replace H : ((rushlightref02_move.f k a1 1 10 21).bind fun t156 => ((rushlightref02_move.f k a1 11 11 20).bind fun t157 => ((rushlightref02_move.f k a1 12 19 12).bind fun t158 => (some (wrap64 ((wrap64 ((wrap64 (t155 + t156)) + t157)) + t158)))))) = some r := H
      have A6 := Aside0.mk A60
      clear A60
      replace H := Option.bind_eq_some_iff.mp H
      obtain ⟨t156, A70, H⟩ := H
      replace H : ((rushlightref02_move.f k a1 11 11 20).bind fun t157 => ((rushlightref02_move.f k a1 12 19 12).bind fun t158 => (some (wrap64 ((wrap64 ((wrap64 (t155 + t156)) + t157)) + t158))))) = some r := H
      have A7 := Aside0.mk A70
      clear A70
      replace H := Option.bind_eq_some_iff.mp H
      obtain ⟨t157, A80, H⟩ := H
      replace H : ((rushlightref02_move.f k a1 12 19 12).bind fun t158 => (some (wrap64 ((wrap64 ((wrap64 (t155 + t156)) + t157)) + t158)))) = some r := H
      have A8 := Aside0.mk A80
      clear A80
      replace H := Option.bind_eq_some_iff.mp H
      obtain ⟨t158, A90, H⟩ := H
      replace H : (some (wrap64 ((wrap64 ((wrap64 (t155 + t156)) + t157)) + t158))) = some r := H
      have A9 := Aside0.mk A90
      clear A90
      obtain rfl := Option.some.inj H
      go_enter Try.func38, Try.ntmps38
      go_wp2_with (first | ((with_reducible refine gate_callee (f := 33) rfl ?_); refine goesL_ (some 12) rfl rfl Try.func33 (by kernel_rfl) rfl #[.int .i64 a1, .int .i64 20, .int .i64 20, .int .i64 31] rfl (by (try simp only [List.map_toArray, List.map_cons, List.map_nil]); first | done | rfl | (simp only [List.length_drop, List.length_take]; rfl)) ?_; (with_reducible refine (rushlightref02_move.calls k a1 20 20 31 t155 _ A6.out).mono ?_); rintro e w' ⟨rfl, ⟨nd, rfl⟩⟩; refine ⟨_, rfl, ?_⟩) | ((with_reducible refine gate_callee (f := 33) rfl ?_); refine goesL_ (some 14) rfl rfl Try.func33 (by kernel_rfl) rfl #[.int .i64 a1, .int .i64 1, .int .i64 10, .int .i64 21] rfl (by (try simp only [List.map_toArray, List.map_cons, List.map_nil]); first | done | rfl | (simp only [List.length_drop, List.length_take]; rfl)) ?_; (with_reducible refine (rushlightref02_move.calls k a1 1 10 21 t156 _ A7.out).mono ?_); rintro e w' ⟨rfl, ⟨nd, rfl⟩⟩; refine ⟨_, rfl, ?_⟩) | ((with_reducible refine gate_callee (f := 33) rfl ?_); refine goesL_ (some 17) rfl rfl Try.func33 (by kernel_rfl) rfl #[.int .i64 a1, .int .i64 11, .int .i64 11, .int .i64 20] rfl (by (try simp only [List.map_toArray, List.map_cons, List.map_nil]); first | done | rfl | (simp only [List.length_drop, List.length_take]; rfl)) ?_; (with_reducible refine (rushlightref02_move.calls k a1 11 11 20 t157 _ A8.out).mono ?_); rintro e w' ⟨rfl, ⟨nd, rfl⟩⟩; refine ⟨_, rfl, ?_⟩) | ((with_reducible refine gate_callee (f := 33) rfl ?_); refine goesL_ (some 20) rfl rfl Try.func33 (by kernel_rfl) rfl #[.int .i64 a1, .int .i64 12, .int .i64 19, .int .i64 12] rfl (by (try simp only [List.map_toArray, List.map_cons, List.map_nil]); first | done | rfl | (simp only [List.length_drop, List.length_take]; rfl)) ?_; (with_reducible refine (rushlightref02_move.calls k a1 12 19 12 t158 _ A9.out).mono ?_); rintro e w' ⟨rfl, ⟨nd, rfl⟩⟩; refine ⟨_, rfl, ?_⟩))
      go_ret
      exact ⟨by first | rfl | (simp; done) | (simp [*]; done), by repeat (first | exact Drawn0.refl _ | apply Drawn0.step)⟩
    · rw [if_neg c5] at H
      have c5b0 : (a0 == 74) = false := beq_eq_false_iff_ne.mpr c5
      have c5b1 : (a0 != 74) = true := bne_iff_ne.mpr c5
      by_cases c10 : a0 = 73
      · rw [if_pos c10] at H
        have c10b0 : (a0 == 73) = true := beq_iff_eq.mpr c10
        have c10b1 : (a0 != 73) = false := bne_eq_false_iff_eq.mpr c10
        clear c10
        replace H := Option.bind_eq_some_iff.mp H
        obtain ⟨t159, A110, H⟩ := H
        replace H : (some t159) = some r := H
        have A11 := Aside0.mk A110
        clear A110
        obtain rfl := Option.some.inj H
        go_enter Try.func38, Try.ntmps38
        go_wp2_with (first | ((with_reducible refine gate_callee (f := 33) rfl ?_); refine goesL_ (some 25) rfl rfl Try.func33 (by kernel_rfl) rfl #[.int .i64 a1, .int .i64 0, .int .i64 11, .int .i64 20] rfl (by (try simp only [List.map_toArray, List.map_cons, List.map_nil]); first | done | rfl | (simp only [List.length_drop, List.length_take]; rfl)) ?_; (with_reducible refine (rushlightref02_move.calls k a1 0 11 20 t159 _ A11.out).mono ?_); rintro e w' ⟨rfl, ⟨nd, rfl⟩⟩; refine ⟨_, rfl, ?_⟩))
        go_ret
        exact ⟨by first | rfl | (simp; done) | (simp [*]; done), by repeat (first | exact Drawn0.refl _ | apply Drawn0.step)⟩
      · rw [if_neg c10] at H
        have c10b0 : (a0 == 73) = false := beq_eq_false_iff_ne.mpr c10
        have c10b1 : (a0 != 73) = true := bne_iff_ne.mpr c10
        by_cases c12 : a0 = 72
        · rw [if_pos c12] at H
          have c12b0 : (a0 == 72) = true := beq_iff_eq.mpr c12
          have c12b1 : (a0 != 72) = false := bne_eq_false_iff_eq.mpr c12
          clear c12
          replace H := Option.bind_eq_some_iff.mp H
          obtain ⟨t160, A130, H⟩ := H
          replace H : (some t160) = some r := H
          have A13 := Aside0.mk A130
          clear A130
          obtain rfl := Option.some.inj H
          go_enter Try.func38, Try.ntmps38
          go_wp2_with (first | ((with_reducible refine gate_callee (f := 33) rfl ?_); refine goesL_ (some 29) rfl rfl Try.func33 (by kernel_rfl) rfl #[.int .i64 a1, .int .i64 0, .int .i64 4, .int .i64 20] rfl (by (try simp only [List.map_toArray, List.map_cons, List.map_nil]); first | done | rfl | (simp only [List.length_drop, List.length_take]; rfl)) ?_; (with_reducible refine (rushlightref02_move.calls k a1 0 4 20 t160 _ A13.out).mono ?_); rintro e w' ⟨rfl, ⟨nd, rfl⟩⟩; refine ⟨_, rfl, ?_⟩))
          go_ret
          exact ⟨by first | rfl | (simp; done) | (simp [*]; done), by repeat (first | exact Drawn0.refl _ | apply Drawn0.step)⟩
        · rw [if_neg c12] at H
          have c12b0 : (a0 == 72) = false := beq_eq_false_iff_ne.mpr c12
          have c12b1 : (a0 != 72) = true := bne_iff_ne.mpr c12
          by_cases c14 : a0 = 83
          · rw [if_pos c14] at H
            have c14b0 : (a0 == 83) = true := beq_iff_eq.mpr c14
            have c14b1 : (a0 != 83) = false := bne_eq_false_iff_eq.mpr c14
            clear c14
            replace H := Option.bind_eq_some_iff.mp H
            obtain ⟨t161, A150, H⟩ := H
            replace H : ((rushlightref02_move.f k a1 5 11 25).bind fun t162 => (some (wrap64 (t161 + t162)))) = some r := H
            have A15 := Aside0.mk A150
            clear A150
            replace H := Option.bind_eq_some_iff.mp H
            obtain ⟨t162, A160, H⟩ := H
            replace H : (some (wrap64 (t161 + t162))) = some r := H
            have A16 := Aside0.mk A160
            clear A160
            obtain rfl := Option.some.inj H
            go_enter Try.func38, Try.ntmps38
            go_wp2_with (first | ((with_reducible refine gate_callee (f := 33) rfl ?_); refine goesL_ (some 33) rfl rfl Try.func33 (by kernel_rfl) rfl #[.int .i64 a1, .int .i64 0, .int .i64 4, .int .i64 7] rfl (by (try simp only [List.map_toArray, List.map_cons, List.map_nil]); first | done | rfl | (simp only [List.length_drop, List.length_take]; rfl)) ?_; (with_reducible refine (rushlightref02_move.calls k a1 0 4 7 t161 _ A15.out).mono ?_); rintro e w' ⟨rfl, ⟨nd, rfl⟩⟩; refine ⟨_, rfl, ?_⟩) | ((with_reducible refine gate_callee (f := 33) rfl ?_); refine goesL_ (some 35) rfl rfl Try.func33 (by kernel_rfl) rfl #[.int .i64 a1, .int .i64 5, .int .i64 11, .int .i64 25] rfl (by (try simp only [List.map_toArray, List.map_cons, List.map_nil]); first | done | rfl | (simp only [List.length_drop, List.length_take]; rfl)) ?_; (with_reducible refine (rushlightref02_move.calls k a1 5 11 25 t162 _ A16.out).mono ?_); rintro e w' ⟨rfl, ⟨nd, rfl⟩⟩; refine ⟨_, rfl, ?_⟩))
            go_ret
            exact ⟨by first | rfl | (simp; done) | (simp [*]; done), by repeat (first | exact Drawn0.refl _ | apply Drawn0.step)⟩
          · rw [if_neg c14] at H
            have c14b0 : (a0 == 83) = false := beq_eq_false_iff_ne.mpr c14
            have c14b1 : (a0 != 83) = true := bne_iff_ne.mpr c14
            by_cases c17 : a0 = 66
            · rw [if_pos c17] at H
              have c17b0 : (a0 == 66) = true := beq_iff_eq.mpr c17
              have c17b1 : (a0 != 66) = false := bne_eq_false_iff_eq.mpr c17
              clear c17
              replace H := Option.bind_eq_some_iff.mp H
              obtain ⟨t163, A180, H⟩ := H
              replace H : ((rushlightref02_move.f k a1 5 10 25).bind fun t164 => ((rushlightref02_move.f k a1 1 4 8).bind fun t165 => ((rushlightref02_move.f k a1 11 11 7).bind fun t166 => (some (wrap64 ((wrap64 ((wrap64 (t163 + t164)) + t165)) + t166)))))) = some r := H
              have A18 := Aside0.mk A180
              clear A180
              replace H := Option.bind_eq_some_iff.mp H
              obtain ⟨t164, A190, H⟩ := H
              replace H : ((rushlightref02_move.f k a1 1 4 8).bind fun t165 => ((rushlightref02_move.f k a1 11 11 7).bind fun t166 => (some (wrap64 ((wrap64 ((wrap64 (t163 + t164)) + t165)) + t166))))) = some r := H
              have A19 := Aside0.mk A190
              clear A190
              replace H := Option.bind_eq_some_iff.mp H
              obtain ⟨t165, A200, H⟩ := H
              replace H : ((rushlightref02_move.f k a1 11 11 7).bind fun t166 => (some (wrap64 ((wrap64 ((wrap64 (t163 + t164)) + t165)) + t166)))) = some r := H
              have A20 := Aside0.mk A200
              clear A200
              replace H := Option.bind_eq_some_iff.mp H
              obtain ⟨t166, A210, H⟩ := H
              replace H : (some (wrap64 ((wrap64 ((wrap64 (t163 + t164)) + t165)) + t166))) = some r := H
              have A21 := Aside0.mk A210
              clear A210
              obtain rfl := Option.some.inj H
              go_enter Try.func38, Try.ntmps38
              go_wp2_with (first | ((with_reducible refine gate_callee (f := 33) rfl ?_); refine goesL_ (some 40) rfl rfl Try.func33 (by kernel_rfl) rfl #[.int .i64 a1, .int .i64 12, .int .i64 12, .int .i64 31] rfl (by (try simp only [List.map_toArray, List.map_cons, List.map_nil]); first | done | rfl | (simp only [List.length_drop, List.length_take]; rfl)) ?_; (with_reducible refine (rushlightref02_move.calls k a1 12 12 31 t163 _ A18.out).mono ?_); rintro e w' ⟨rfl, ⟨nd, rfl⟩⟩; refine ⟨_, rfl, ?_⟩) | ((with_reducible refine gate_callee (f := 33) rfl ?_); refine goesL_ (some 42) rfl rfl Try.func33 (by kernel_rfl) rfl #[.int .i64 a1, .int .i64 5, .int .i64 10, .int .i64 25] rfl (by (try simp only [List.map_toArray, List.map_cons, List.map_nil]); first | done | rfl | (simp only [List.length_drop, List.length_take]; rfl)) ?_; (with_reducible refine (rushlightref02_move.calls k a1 5 10 25 t164 _ A19.out).mono ?_); rintro e w' ⟨rfl, ⟨nd, rfl⟩⟩; refine ⟨_, rfl, ?_⟩) | ((with_reducible refine gate_callee (f := 33) rfl ?_); refine goesL_ (some 45) rfl rfl Try.func33 (by kernel_rfl) rfl #[.int .i64 a1, .int .i64 1, .int .i64 4, .int .i64 8] rfl (by (try simp only [List.map_toArray, List.map_cons, List.map_nil]); first | done | rfl | (simp only [List.length_drop, List.length_take]; rfl)) ?_; (with_reducible refine (rushlightref02_move.calls k a1 1 4 8 t165 _ A20.out).mono ?_); rintro e w' ⟨rfl, ⟨nd, rfl⟩⟩; refine ⟨_, rfl, ?_⟩) | ((with_reducible refine gate_callee (f := 33) rfl ?_); refine goesL_ (some 48) rfl rfl Try.func33 (by kernel_rfl) rfl #[.int .i64 a1, .int .i64 11, .int .i64 11, .int .i64 7] rfl (by (try simp only [List.map_toArray, List.map_cons, List.map_nil]); first | done | rfl | (simp only [List.length_drop, List.length_take]; rfl)) ?_; (with_reducible refine (rushlightref02_move.calls k a1 11 11 7 t166 _ A21.out).mono ?_); rintro e w' ⟨rfl, ⟨nd, rfl⟩⟩; refine ⟨_, rfl, ?_⟩))
              go_ret
              exact ⟨by first | rfl | (simp; done) | (simp [*]; done), by repeat (first | exact Drawn0.refl _ | apply Drawn0.step)⟩
            · rw [if_neg c17] at H
              have c17b0 : (a0 == 66) = false := beq_eq_false_iff_ne.mpr c17
              have c17b1 : (a0 != 66) = true := bne_iff_ne.mpr c17
              obtain rfl := Option.some.inj H
              go_enter Try.func38, Try.ntmps38
              go_wp2
              go_ret
              exact ⟨by first | rfl | (simp; done) | (simp [*]; done), by repeat (first | exact Drawn0.refl _ | apply Drawn0.step)⟩
end Go.Proofs.Ytjanolcelfjgeaa.P
end
section
namespace Go.Proofs.Ytjanolcelfjgeaa.P
open Go.RowKit Go.Proofs.YtjanolcelfjgeaaW.PrintWords Go.Proofs.YtjanolcelfjgeaaW.PrintLast Go.Proofs.YtjanolcelfjgeaaW.PrintMore
attribute [local go_sem] max2_int min2_int max_two min_two max_three min_three max_four min_four   
set_option linter.unusedVariables false
set_option linter.unusedSimpArgs false
def rushlightref02_Word.f (k : Nat) (a0_0 : Int) (a0_1 : Int) (a0_2 : Int) (a0_3 : Int) (a0_4 : Int) : Option (Int) := (rushlightref02_Form.f k a0_0).bind fun t168 => ((rushlightref02_Code.f a0_0).bind fun t169 => ((rushlightref02_two.f k 7).bind fun t170 => ((rushlightref02_Third.f a0_0).bind fun t171 => ((rushlightref02_two.f k 12).bind fun t172 => ((rushlightref02_two.f k 15).bind fun t173 => ((rushlightref02_two.f k 20).bind fun t174 => ((rushlightref02_Seventh.f k a0_0).bind fun t175 => ((rushlightref02_two.f k 25).bind fun t176 => ((rushlightref02_Spread.f k t168 a0_4).bind fun t177 => (some ((wrap64 ((wrap64 ((wrap64 ((wrap64 ((wrap64 ((wrap64 (t169 + (wrap64 (a0_1 * t170)))) + (wrap64 (t171 * t172)))) + (wrap64 (a0_2 * t173)))) + (wrap64 (a0_3 * t174)))) + (wrap64 (t175 * t176)))) + t177)) % 4294967296)))))))))))
def rushlightref02_Word.T2 : Bool × List (List Nat × List Nat) := (true, [([], []), ([0], [0]), ([1], [1]), ([], []), ([3], [3]), ([2], []), ([4, 5], [4, 5]), ([2, 6], [2, 6]), ([], []), ([8], [8]), ([9, 5], [9]), ([10], []), ([10, 11], [10, 11]), ([7, 12], [7, 12]), ([], []), ([14], [14]), ([11], []), ([15, 16], [15, 16]), ([13, 17], [13, 17]), ([], []), ([19], [19]), ([16], []), ([20, 21], [20, 21]), ([18, 22], [18, 22]), ([], []), ([24], [24]), ([25, 21], [25]), ([26], []), ([26, 27], [26, 27]), ([23, 28], [23, 28]), ([], []), ([], []), ([31], [31]), ([30, 32, 27], [30, 32]), ([29, 33], [29, 33]), ([34], [34]), ([35, 33, 0, 1, 2, 3, 4, 5, 6, 7, 8, 9, 10, 11, 12, 13, 14, 15, 16, 17, 18, 19, 20, 21, 22, 23, 24, 25, 26, 27, 28, 29, 30, 31, 32, 33, 34, 35], [35])])
def rushlightref02_Word.B2 : List Nat := [0, 1, 3, 0, 8, 7, 63, 127, 0, 256, 807, 1831, 3879, 8191, 0, 16384, 3879, 118567, 262143, 0, 524288, 69415, 3739431, 8388607, 0, 16777216, 52498215, 119607079, 253824807, 536870911, 0, 0, 2147483648, 7770017575, 17179869183, 34359738367, 68719476735]
theorem rushlightref02_Word.tab2 : rtab .any (opsOf Try.f21 2) = rushlightref02_Word.T2 := by kernel_rfl
theorem rushlightref02_Word.bits2 : waitsOk rushlightref02_Word.T2.2 rushlightref02_Word.B2 = true := by kernel_rfl
set_option maxHeartbeats 8000000 in
set_option maxRecDepth 100000 in
theorem rushlightref02_Word.calls (k : Nat) (a0_0 : Int) (a0_1 : Int) (a0_2 : Int) (a0_3 : Int) (a0_4 : Int) (r : Int) (w : World) (h : rushlightref02_Word.f k a0_0 a0_1 a0_2 a0_3 a0_4 = some r) :
    Calls Try.prog 21 #[.agg #[.int .i64 a0_0, .int .i64 a0_1, .int .i64 a0_2, .int .i64 a0_3, .int .i64 a0_4]] w fun e w' => e = .returned (.int .u32 r) ∧ Below w.heap.size w w' := by
  have hu30 := Try.underlying30
  have HB := Aside0.mk (Below.refl w.heap.size w)
  have H : ((rushlightref02_Form.f k a0_0).bind fun t168 => ((rushlightref02_Code.f a0_0).bind fun t169 => ((rushlightref02_two.f k 7).bind fun t170 => ((rushlightref02_Third.f a0_0).bind fun t171 => ((rushlightref02_two.f k 12).bind fun t172 => ((rushlightref02_two.f k 15).bind fun t173 => ((rushlightref02_two.f k 20).bind fun t174 => ((rushlightref02_Seventh.f k a0_0).bind fun t175 => ((rushlightref02_two.f k 25).bind fun t176 => ((rushlightref02_Spread.f k t168 a0_4).bind fun t177 => (some ((wrap64 ((wrap64 ((wrap64 ((wrap64 ((wrap64 ((wrap64 (t169 + (wrap64 (a0_1 * t170)))) + (wrap64 (t171 * t172)))) + (wrap64 (a0_2 * t173)))) + (wrap64 (a0_3 * t174)))) + (wrap64 (t175 * t176)))) + t177)) % 4294967296)))))))))))) = some r := h
  clear h
  replace H := Option.bind_eq_some_iff.mp H
  obtain ⟨t168, A20, H⟩ := H
  replace H : ((rushlightref02_Code.f a0_0).bind fun t169 => ((rushlightref02_two.f k 7).bind fun t170 => ((rushlightref02_Third.f a0_0).bind fun t171 => ((rushlightref02_two.f k 12).bind fun t172 => ((rushlightref02_two.f k 15).bind fun t173 => ((rushlightref02_two.f k 20).bind fun t174 => ((rushlightref02_Seventh.f k a0_0).bind fun t175 => ((rushlightref02_two.f k 25).bind fun t176 => ((rushlightref02_Spread.f k t168 a0_4).bind fun t177 => (some ((wrap64 ((wrap64 ((wrap64 ((wrap64 ((wrap64 ((wrap64 (t169 + (wrap64 (a0_1 * t170)))) + (wrap64 (t171 * t172)))) + (wrap64 (a0_2 * t173)))) + (wrap64 (a0_3 * t174)))) + (wrap64 (t175 * t176)))) + t177)) % 4294967296))))))))))) = some r := H
  have A2 := Aside0.mk A20
  clear A20
  replace H := Option.bind_eq_some_iff.mp H
  obtain ⟨t169, A30, H⟩ := H
  replace H : ((rushlightref02_two.f k 7).bind fun t170 => ((rushlightref02_Third.f a0_0).bind fun t171 => ((rushlightref02_two.f k 12).bind fun t172 => ((rushlightref02_two.f k 15).bind fun t173 => ((rushlightref02_two.f k 20).bind fun t174 => ((rushlightref02_Seventh.f k a0_0).bind fun t175 => ((rushlightref02_two.f k 25).bind fun t176 => ((rushlightref02_Spread.f k t168 a0_4).bind fun t177 => (some ((wrap64 ((wrap64 ((wrap64 ((wrap64 ((wrap64 ((wrap64 (t169 + (wrap64 (a0_1 * t170)))) + (wrap64 (t171 * t172)))) + (wrap64 (a0_2 * t173)))) + (wrap64 (a0_3 * t174)))) + (wrap64 (t175 * t176)))) + t177)) % 4294967296)))))))))) = some r := H
  have A3 := Aside0.mk A30
  clear A30
  replace H := Option.bind_eq_some_iff.mp H
  obtain ⟨t170, A40, H⟩ := H
  replace H : ((rushlightref02_Third.f a0_0).bind fun t171 => ((rushlightref02_two.f k 12).bind fun t172 => ((rushlightref02_two.f k 15).bind fun t173 => ((rushlightref02_two.f k 20).bind fun t174 => ((rushlightref02_Seventh.f k a0_0).bind fun t175 => ((rushlightref02_two.f k 25).bind fun t176 => ((rushlightref02_Spread.f k t168 a0_4).bind fun t177 => (some ((wrap64 ((wrap64 ((wrap64 ((wrap64 ((wrap64 ((wrap64 (t169 + (wrap64 (a0_1 * t170)))) + (wrap64 (t171 * t172)))) + (wrap64 (a0_2 * t173)))) + (wrap64 (a0_3 * t174)))) + (wrap64 (t175 * t176)))) + t177)) % 4294967296))))))))) = some r := H
  have A4 := Aside0.mk A40
  clear A40
  replace H := Option.bind_eq_some_iff.mp H
  obtain ⟨t171, A50, H⟩ := H
  replace H : ((rushlightref02_two.f k 12).bind fun t172 => ((rushlightref02_two.f k 15).bind fun t173 => ((rushlightref02_two.f k 20).bind fun t174 => ((rushlightref02_Seventh.f k a0_0).bind fun t175 => ((rushlightref02_two.f k 25).bind fun t176 => ((rushlightref02_Spread.f k t168 a0_4).bind fun t177 => (some ((wrap64 ((wrap64 ((wrap64 ((wrap64 ((wrap64 ((wrap64 (t169 + (wrap64 (a0_1 * t170)))) + (wrap64 (t171 * t172)))) + (wrap64 (a0_2 * t173)))) + (wrap64 (a0_3 * t174)))) + (wrap64 (t175 * t176)))) + t177)) % 4294967296)))))))) = some r := H
  have A5 := Aside0.mk A50
  clear A50
  replace H := Option.bind_eq_some_iff.mp H
  obtain ⟨t172, A60, H⟩ := H
  replace H : ((rushlightref02_two.f k 15).bind fun t173 => ((rushlightref02_two.f k 20).bind fun t174 => ((rushlightref02_Seventh.f k a0_0).bind fun t175 => ((rushlightref02_two.f k 25).bind fun t176 => ((rushlightref02_Spread.f k t168 a0_4).bind fun t177 => (some ((wrap64 ((wrap64 ((wrap64 ((wrap64 ((wrap64 ((wrap64 (t169 + (wrap64 (a0_1 * t170)))) + (wrap64 (t171 * t172)))) + (wrap64 (a0_2 * t173)))) + (wrap64 (a0_3 * t174)))) + (wrap64 (t175 * t176)))) + t177)) % 4294967296))))))) = some r := H
  have A6 := Aside0.mk A60
  clear A60
  replace H := Option.bind_eq_some_iff.mp H
  obtain ⟨t173, A70, H⟩ := H
  replace H : ((rushlightref02_two.f k 20).bind fun t174 => ((rushlightref02_Seventh.f k a0_0).bind fun t175 => ((rushlightref02_two.f k 25).bind fun t176 => ((rushlightref02_Spread.f k t168 a0_4).bind fun t177 => (some ((wrap64 ((wrap64 ((wrap64 ((wrap64 ((wrap64 ((wrap64 (t169 + (wrap64 (a0_1 * t170)))) + (wrap64 (t171 * t172)))) + (wrap64 (a0_2 * t173)))) + (wrap64 (a0_3 * t174)))) + (wrap64 (t175 * t176)))) + t177)) % 4294967296)))))) = some r := H
  have A7 := Aside0.mk A70
  clear A70
  replace H := Option.bind_eq_some_iff.mp H
  obtain ⟨t174, A80, H⟩ := H
  replace H : ((rushlightref02_Seventh.f k a0_0).bind fun t175 => ((rushlightref02_two.f k 25).bind fun t176 => ((rushlightref02_Spread.f k t168 a0_4).bind fun t177 => (some ((wrap64 ((wrap64 ((wrap64 ((wrap64 ((wrap64 ((wrap64 (t169 + (wrap64 (a0_1 * t170)))) + (wrap64 (t171 * t172)))) + (wrap64 (a0_2 * t173)))) + (wrap64 (a0_3 * t174)))) + (wrap64 (t175 * t176)))) + t177)) % 4294967296))))) = some r := H
  have A8 := Aside0.mk A80
  clear A80
  replace H := Option.bind_eq_some_iff.mp H
  obtain ⟨t175, A90, H⟩ := H
  replace H : ((rushlightref02_two.f k 25).bind fun t176 => ((rushlightref02_Spread.f k t168 a0_4).bind fun t177 => (some ((wrap64 ((wrap64 ((wrap64 ((wrap64 ((wrap64 ((wrap64 (t169 + (wrap64 (a0_1 * t170)))) + (wrap64 (t171 * t172)))) + (wrap64 (a0_2 * t173)))) + (wrap64 (a0_3 * t174)))) + (wrap64 (t175 * t176)))) + t177)) % 4294967296)))) = some r := H
  have A9 := Aside0.mk A90
  clear A90
  replace H := Option.bind_eq_some_iff.mp H
  obtain ⟨t176, A100, H⟩ := H
  replace H : ((rushlightref02_Spread.f k t168 a0_4).bind fun t177 => (some ((wrap64 ((wrap64 ((wrap64 ((wrap64 ((wrap64 ((wrap64 (t169 + (wrap64 (a0_1 * t170)))) + (wrap64 (t171 * t172)))) + (wrap64 (a0_2 * t173)))) + (wrap64 (a0_3 * t174)))) + (wrap64 (t175 * t176)))) + t177)) % 4294967296))) = some r := H
  have A10 := Aside0.mk A100
  clear A100
  replace H := Option.bind_eq_some_iff.mp H
  obtain ⟨t177, A110, H⟩ := H
  replace H : (some ((wrap64 ((wrap64 ((wrap64 ((wrap64 ((wrap64 ((wrap64 (t169 + (wrap64 (a0_1 * t170)))) + (wrap64 (t171 * t172)))) + (wrap64 (a0_2 * t173)))) + (wrap64 (a0_3 * t174)))) + (wrap64 (t175 * t176)))) + t177)) % 4294967296)) = some r := H
  have A11 := Aside0.mk A110
  clear A110
  obtain rfl := Option.some.inj H
  go_enter Try.func21, Try.ntmps21
  try go_wp2_with (first | ((with_reducible refine gate_dst (N := 1) rfl ?_); refine box_event ?hg (N := 1) ?hd (cs := #[.int .i64 a0_0, .int .i64 a0_1, .int .i64 a0_2, .int .i64 a0_3, .int .i64 a0_4]) (t := 30) ?hr ?_; (case hd => rfl); (case hg => rfl); (case hr => first | (go_simp; done) | (go_simp; rfl)); intro gb167 hg w12 hbox hb; have n0_ := Aside0.mk (below_step (by repeat (first | (with_reducible first | exact HB.out | apply below_alloc | apply pw_below_drewN | apply below_drew1) | exact HB.out)) hb); have n1_ := Aside0.mk (hbox); have n2_ := Aside0.mk ((by rw [hg]; exact (below_size (by repeat (first | (with_reducible first | exact HB.out | apply below_alloc | apply pw_below_drewN | apply below_drew1) | exact HB.out))) : w.heap.size ≤ gb167)); have n3_ := Aside0.mk ((by rw [hg]; exact (below_size (by repeat (first | (with_reducible first | exact HB.out | apply below_alloc | apply pw_below_drewN | apply below_drew1) | exact HB.out))) : w.heap.size ≤ gb167)); clear HB; have HB := n0_; have BK167 := n1_; have GW167 := n2_; have GE167 := n3_; clear n0_ n1_ n2_ n3_; clear hb hbox hg; have hcz13_0 : w12.cell? ⟨gb167, 0, none⟩ = some (.int .i64 a0_0) := (blk_cell BK167.out 0).trans rfl; have hcz13_1 : w12.cell? ⟨gb167, 1, none⟩ = some (.int .i64 a0_1) := (blk_cell BK167.out 1).trans rfl; have hcz13_2 : w12.cell? ⟨gb167, 2, none⟩ = some (.int .i64 a0_2) := (blk_cell BK167.out 2).trans rfl; have hcz13_3 : w12.cell? ⟨gb167, 3, none⟩ = some (.int .i64 a0_3) := (blk_cell BK167.out 3).trans rfl; have hcz13_4 : w12.cell? ⟨gb167, 4, none⟩ = some (.int .i64 a0_4) := (blk_cell BK167.out 4).trans rfl; have hfz13_0 := blk_frozen BK167.out 0; have hfz13_1 := blk_frozen BK167.out 1; have hfz13_2 := blk_frozen BK167.out 2; have hfz13_3 := blk_frozen BK167.out 3; have hfz13_4 := blk_frozen BK167.out 4) | ((with_reducible refine gate_callee (f := 18) rfl ?_); refine goesL_ (some 6) rfl rfl Try.func18 (by kernel_rfl) rfl #[.int .i64 a0_0] rfl (by (try simp only [List.map_toArray, List.map_cons, List.map_nil]); first | done | rfl | (simp only [List.length_drop, List.length_take]; rfl)) ?_; (with_reducible refine (rushlightref02_Form.calls k a0_0 t168 _ A2.out).mono ?_); rintro e w' ⟨rfl, ⟨nd, rfl⟩⟩; refine ⟨_, rfl, ?_⟩))
  (try (rw [drewN_self w12]; generalize hq_ : World.drewN w12 _ = w12; have n0_ : Aside0 (w12.heap[gb167]? = some (.cells #[.int .i64 a0_0, .int .i64 a0_1, .int .i64 a0_2, .int .i64 a0_3, .int .i64 a0_4] 30 (0, 0))) := ⟨by rw [← hq_]; exact (by (with_reducible repeat (first | refine blk_drewN ?_ _ | refine blk_drew ?_ | refine blk_alloc ?_ _)); exact BK167.out)⟩; have n1_ : Aside0 (Below w.heap.size w w12) := ⟨by rw [← hq_]; exact (by repeat (first | (with_reducible first | exact HB.out | apply below_alloc | apply pw_below_drewN | apply below_drew1 | refine below_set ?_ GE167.out) | exact HB.out))⟩; clear BK167 HB hq_; have BK167 := n0_; have HB := n1_; clear n0_ n1_))
  have n0_ := Aside0.mk (blk_drew BK167.out)
  have n1_ := Aside0.mk (below_drew1 HB.out)
  clear BK167
  clear HB
  have BK167 := n0_
  have HB := n1_
  clear n0_ n1_
  refine start_ (n := 37) (S := fun w' => w'.cell? ⟨gb167, 0, none⟩ = some (.int .i64 a0_0) ∧ w'.cell? ⟨gb167, 1, none⟩ = some (.int .i64 a0_1) ∧ w'.cell? ⟨gb167, 2, none⟩ = some (.int .i64 a0_2) ∧ w'.cell? ⟨gb167, 3, none⟩ = some (.int .i64 a0_3) ∧ w'.cell? ⟨gb167, 4, none⟩ = some (.int .i64 a0_4)) (ds := []) #[false, false, false, false, false, false, false, false, false, false, false, false, false, false, false, false, false, false, false, false, false, false, false, false, false, false, false, false, false, false, false, false, false, false, false, false, false] (by kernel_rfl) rfl rfl ⟨(blk_cell BK167.out 0).trans rfl, (blk_cell BK167.out 1).trans rfl, (blk_cell BK167.out 2).trans rfl, (blk_cell BK167.out 3).trans rfl, (blk_cell BK167.out 4).trans rfl⟩ (fun hHeld => ?_); refine with_tabW rushlightref02_Word.tab2 rushlightref02_Word.bits2 (fun HT_ HW_ => ?_)
  generalize w12.drew = w14 at BK167 HB hHeld ⊢
  refine pure_ (i := 0) (N := some 7) (v := ?_) (a' := ?_) #[true, false, false, false, false, false, false, false, false, false, false, false, false, false, false, false, false, false, false, false, false, false, false, false, false, false, false, false, false, false, false, false, false, false, false, false, false] rfl rfl (any_of HT_.out (by kernel_rfl)) (fun _ _ _ h => h) (Or.inl ⟨by rfl, ?_⟩) ?_ ?_
  rotate_left
  · intro w'
    go_simp
    with_reducible rfl
  rotate_left
  · simp only [Act.put, List.setIfInBounds_toArray, List.set_cons_zero, List.set_cons_succ, i64_w, i32_w]
    rfl
  refine pure_ (i := 3) (N := some 10) (v := ?_) (a' := ?_) #[true, false, false, true, false, false, false, false, false, false, false, false, false, false, false, false, false, false, false, false, false, false, false, false, false, false, false, false, false, false, false, false, false, false, false, false, false] rfl rfl (any_of HT_.out (by kernel_rfl)) (fun _ _ _ h => h) (Or.inl ⟨by rfl, ?_⟩) ?_ ?_
  rotate_left
  · intro w'
    go_simp
    with_reducible rfl
  rotate_left
  · simp only [Act.put, List.setIfInBounds_toArray, List.set_cons_zero, List.set_cons_succ, i64_w, i32_w]
    rfl
  refine pure_ (i := 8) (N := some 15) (v := ?_) (a' := ?_) #[true, false, false, true, false, false, false, false, true, false, false, false, false, false, false, false, false, false, false, false, false, false, false, false, false, false, false, false, false, false, false, false, false, false, false, false, false] rfl rfl (any_of HT_.out (by kernel_rfl)) (fun _ _ _ h => h) (Or.inl ⟨by rfl, ?_⟩) ?_ ?_
  rotate_left
  · intro w'
    go_simp
    with_reducible rfl
  rotate_left
  · simp only [Act.put, List.setIfInBounds_toArray, List.set_cons_zero, List.set_cons_succ, i64_w, i32_w]
    rfl
  refine pure_ (i := 14) (N := some 21) (v := ?_) (a' := ?_) #[true, false, false, true, false, false, false, false, true, false, false, false, false, false, true, false, false, false, false, false, false, false, false, false, false, false, false, false, false, false, false, false, false, false, false, false, false] rfl rfl (any_of HT_.out (by kernel_rfl)) (fun _ _ _ h => h) (Or.inl ⟨by rfl, ?_⟩) ?_ ?_
  rotate_left
  · intro w'
    go_simp
    with_reducible rfl
  rotate_left
  · simp only [Act.put, List.setIfInBounds_toArray, List.set_cons_zero, List.set_cons_succ, i64_w, i32_w]
    rfl
  refine pure_ (i := 19) (N := some 26) (v := ?_) (a' := ?_) #[true, false, false, true, false, false, false, false, true, false, false, false, false, false, true, false, false, false, false, true, false, false, false, false, false, false, false, false, false, false, false, false, false, false, false, false, false] rfl rfl (any_of HT_.out (by kernel_rfl)) (fun _ _ _ h => h) (Or.inl ⟨by rfl, ?_⟩) ?_ ?_
  rotate_left
  · intro w'
    go_simp
    with_reducible rfl
  rotate_left
  · simp only [Act.put, List.setIfInBounds_toArray, List.set_cons_zero, List.set_cons_succ, i64_w, i32_w]
    rfl
  refine pure_ (i := 24) (N := some 31) (v := ?_) (a' := ?_) #[true, false, false, true, false, false, false, false, true, false, false, false, false, false, true, false, false, false, false, true, false, false, false, false, true, false, false, false, false, false, false, false, false, false, false, false, false] rfl rfl (any_of HT_.out (by kernel_rfl)) (fun _ _ _ h => h) (Or.inl ⟨by rfl, ?_⟩) ?_ ?_
  rotate_left
  · intro w'
    go_simp
    with_reducible rfl
  rotate_left
  · simp only [Act.put, List.setIfInBounds_toArray, List.set_cons_zero, List.set_cons_succ, i64_w, i32_w]
    rfl
  refine pure_ (i := 30) (N := some 37) (v := ?_) (a' := ?_) #[true, false, false, true, false, false, false, false, true, false, false, false, false, false, true, false, false, false, false, true, false, false, false, false, true, false, false, false, false, false, true, false, false, false, false, false, false] rfl rfl (any_of HT_.out (by kernel_rfl)) (fun _ _ _ h => h) (Or.inl ⟨by rfl, ?_⟩) ?_ ?_
  rotate_left
  · intro w'
    go_simp
    with_reducible rfl
  rotate_left
  · simp only [Act.put, List.setIfInBounds_toArray, List.set_cons_zero, List.set_cons_succ, i64_w, i32_w]
    rfl
  refine pure_ (i := 31) (N := some 38) (v := ?_) (a' := ?_) #[true, false, false, true, false, false, false, false, true, false, false, false, false, false, true, false, false, false, false, true, false, false, false, false, true, false, false, false, false, false, true, true, false, false, false, false, false] rfl rfl (any_of HT_.out (by kernel_rfl)) (fun _ _ _ h => h) (Or.inl ⟨by rfl, ?_⟩) ?_ ?_
  rotate_left
  · intro w'
    go_simp
    with_reducible rfl
  rotate_left
  · simp only [Act.put, List.setIfInBounds_toArray, List.set_cons_zero, List.set_cons_succ, i64_w, i32_w]
    rfl
  refine take_ (i := 1) (N := some 8) (v := ?_) (a' := ?_) #[true, true, false, true, false, false, false, false, true, false, false, false, false, false, true, false, false, false, false, true, false, false, false, false, true, false, false, false, false, false, true, true, false, false, false, false, false] rfl rfl (take_ofW HT_.out HW_.out (by kernel_rfl)) (fun _ _ _ h => h) (Or.inl ⟨by rfl, ?_⟩) hHeld ?_ ?_
  rotate_left
  · rintro w' ⟨s0, s1, s2, s3, s4⟩
    go_simp
    with_reducible rfl
  rotate_left
  · simp only [Act.put, List.setIfInBounds_toArray, List.set_cons_zero, List.set_cons_succ, i64_w, i32_w]
    rfl
  refine take_ (i := 4) (N := some 11) (v := ?_) (a' := ?_) #[true, true, false, true, true, false, false, false, true, false, false, false, false, false, true, false, false, false, false, true, false, false, false, false, true, false, false, false, false, false, true, true, false, false, false, false, false] rfl rfl (take_ofW HT_.out HW_.out (by kernel_rfl)) (fun _ _ _ h => h) (Or.inl ⟨by rfl, ?_⟩) hHeld ?_ ?_
  rotate_left
  · rintro w' ⟨s0, s1, s2, s3, s4⟩
    go_simp
    with_reducible rfl
  rotate_left
  · simp only [Act.put, List.setIfInBounds_toArray, List.set_cons_zero, List.set_cons_succ, i64_w, i32_w]
    rfl
  refine take_ (i := 9) (N := some 16) (v := ?_) (a' := ?_) #[true, true, false, true, true, false, false, false, true, true, false, false, false, false, true, false, false, false, false, true, false, false, false, false, true, false, false, false, false, false, true, true, false, false, false, false, false] rfl rfl (take_ofW HT_.out HW_.out (by kernel_rfl)) (fun _ _ _ h => h) (Or.inl ⟨by rfl, ?_⟩) hHeld ?_ ?_
  rotate_left
  · rintro w' ⟨s0, s1, s2, s3, s4⟩
    go_simp
    with_reducible rfl
  rotate_left
  · simp only [Act.put, List.setIfInBounds_toArray, List.set_cons_zero, List.set_cons_succ, i64_w, i32_w]
    rfl
  refine take_ (i := 15) (N := some 22) (v := ?_) (a' := ?_) #[true, true, false, true, true, false, false, false, true, true, false, false, false, false, true, true, false, false, false, true, false, false, false, false, true, false, false, false, false, false, true, true, false, false, false, false, false] rfl rfl (take_ofW HT_.out HW_.out (by kernel_rfl)) (fun _ _ _ h => h) (Or.inl ⟨by rfl, ?_⟩) hHeld ?_ ?_
  rotate_left
  · rintro w' ⟨s0, s1, s2, s3, s4⟩
    go_simp
    with_reducible rfl
  rotate_left
  · simp only [Act.put, List.setIfInBounds_toArray, List.set_cons_zero, List.set_cons_succ, i64_w, i32_w]
    rfl
  refine take_ (i := 20) (N := some 27) (v := ?_) (a' := ?_) #[true, true, false, true, true, false, false, false, true, true, false, false, false, false, true, true, false, false, false, true, true, false, false, false, true, false, false, false, false, false, true, true, false, false, false, false, false] rfl rfl (take_ofW HT_.out HW_.out (by kernel_rfl)) (fun _ _ _ h => h) (Or.inl ⟨by rfl, ?_⟩) hHeld ?_ ?_
  rotate_left
  · rintro w' ⟨s0, s1, s2, s3, s4⟩
    go_simp
    with_reducible rfl
  rotate_left
  · simp only [Act.put, List.setIfInBounds_toArray, List.set_cons_zero, List.set_cons_succ, i64_w, i32_w]
    rfl
  refine take_ (i := 25) (N := some 32) (v := ?_) (a' := ?_) #[true, true, false, true, true, false, false, false, true, true, false, false, false, false, true, true, false, false, false, true, true, false, false, false, true, true, false, false, false, false, true, true, false, false, false, false, false] rfl rfl (take_ofW HT_.out HW_.out (by kernel_rfl)) (fun _ _ _ h => h) (Or.inl ⟨by rfl, ?_⟩) hHeld ?_ ?_
  rotate_left
  · rintro w' ⟨s0, s1, s2, s3, s4⟩
    go_simp
    with_reducible rfl
  rotate_left
  · simp only [Act.put, List.setIfInBounds_toArray, List.set_cons_zero, List.set_cons_succ, i64_w, i32_w]
    rfl
  refine take_ (i := 32) (N := some 39) (v := ?_) (a' := ?_) #[true, true, false, true, true, false, false, false, true, true, false, false, false, false, true, true, false, false, false, true, true, false, false, false, true, true, false, false, false, false, true, true, true, false, false, false, false] rfl rfl (take_ofW HT_.out HW_.out (by kernel_rfl)) (fun _ _ _ h => h) (Or.inl ⟨by rfl, ?_⟩) hHeld ?_ ?_
  rotate_left
  · rintro w' ⟨s0, s1, s2, s3, s4⟩
    go_simp
    with_reducible rfl
  rotate_left
  · simp only [Act.put, List.setIfInBounds_toArray, List.set_cons_zero, List.set_cons_succ, i64_w, i32_w]
    rfl
  refine one_ (i := 2) (N := some 9) #[true, true, true, true, true, false, false, false, true, true, false, false, false, false, true, true, false, false, false, true, true, false, false, false, true, true, false, false, false, false, true, true, true, false, false, false, false] rfl rfl (one_of HT_.out (by kernel_rfl)) (by decide) (fun K hK => ?_)
  refine goes_ Try.func34 (by kernel_rfl) rfl #[.int .i64 a0_0] (by rfl) rfl rfl (by (try simp only [List.map_toArray, List.map_cons, List.map_nil]); first | done | rfl | (simp only [List.length_drop, List.length_take]; rfl)) ?_
  with_reducible refine (rushlightref02_Code.calls a0_0 t169 _ A3.out).mono ?_
  rintro e w' ⟨rfl, ⟨nd, rfl⟩⟩
  refine ⟨_, rfl, ?_⟩
  refine hK.out _ _ ⟨(blk_cell BK167.out 0).trans rfl, (blk_cell BK167.out 1).trans rfl, (blk_cell BK167.out 2).trans rfl, (blk_cell BK167.out 3).trans rfl, (blk_cell BK167.out 4).trans rfl⟩ (fun hHeld => ?_)
  clear hK K
  refine norm_ (a' := ?_) ?_ ?_
  rotate_left
  · show Act.put _ (some 9) _ = _
    simp only [Act.put, List.setIfInBounds_toArray, List.set_cons_zero, List.set_cons_succ, i64_w, i32_w]
    rfl
  refine one_ (i := 5) (N := some 12) #[true, true, true, true, true, true, false, false, true, true, false, false, false, false, true, true, false, false, false, true, true, false, false, false, true, true, false, false, false, false, true, true, true, false, false, false, false] rfl rfl (one_of HT_.out (by kernel_rfl)) (by decide) (fun K hK => ?_)
  refine goes_ Try.func35 (by kernel_rfl) rfl #[.int .i64 7] (by rfl) rfl rfl (by (try simp only [List.map_toArray, List.map_cons, List.map_nil]); first | done | rfl | (simp only [List.length_drop, List.length_take]; rfl)) ?_
  with_reducible refine (rushlightref02_two.calls k 7 t170 _ A4.out).mono ?_
  rintro e w' ⟨rfl, ⟨nd, rfl⟩⟩
  refine ⟨_, rfl, ?_⟩
  refine hK.out _ _ ⟨(blk_cell BK167.out 0).trans rfl, (blk_cell BK167.out 1).trans rfl, (blk_cell BK167.out 2).trans rfl, (blk_cell BK167.out 3).trans rfl, (blk_cell BK167.out 4).trans rfl⟩ (fun hHeld => ?_)
  clear hK K
  refine norm_ (a' := ?_) ?_ ?_
  rotate_left
  · show Act.put _ (some 12) _ = _
    simp only [Act.put, List.setIfInBounds_toArray, List.set_cons_zero, List.set_cons_succ, i64_w, i32_w]
    rfl
  refine pure_ (i := 6) (N := some 13) (v := ?_) (a' := ?_) #[true, true, true, true, true, true, true, false, true, true, false, false, false, false, true, true, false, false, false, true, true, false, false, false, true, true, false, false, false, false, true, true, true, false, false, false, false] rfl rfl (any_of HT_.out (by kernel_rfl)) (fun _ _ _ h => h) (Or.inl ⟨by rfl, ?_⟩) ?_ ?_
  rotate_left
  · intro w'
    go_simp
    with_reducible rfl
  rotate_left
  · simp only [Act.put, List.setIfInBounds_toArray, List.set_cons_zero, List.set_cons_succ, i64_w, i32_w]
    rfl
  refine pure_ (i := 7) (N := some 14) (v := ?_) (a' := ?_) #[true, true, true, true, true, true, true, true, true, true, false, false, false, false, true, true, false, false, false, true, true, false, false, false, true, true, false, false, false, false, true, true, true, false, false, false, false] rfl rfl (any_of HT_.out (by kernel_rfl)) (fun _ _ _ h => h) (Or.inl ⟨by rfl, ?_⟩) ?_ ?_
  rotate_left
  · intro w'
    go_simp
    with_reducible rfl
  rotate_left
  · simp only [Act.put, List.setIfInBounds_toArray, List.set_cons_zero, List.set_cons_succ, i64_w, i32_w]
    rfl
  refine one_ (i := 10) (N := some 17) #[true, true, true, true, true, true, true, true, true, true, true, false, false, false, true, true, false, false, false, true, true, false, false, false, true, true, false, false, false, false, true, true, true, false, false, false, false] rfl rfl (one_of HT_.out (by kernel_rfl)) (by decide) (fun K hK => ?_)
  refine goes_ Try.func36 (by kernel_rfl) rfl #[.int .i64 a0_0] (by rfl) rfl rfl (by (try simp only [List.map_toArray, List.map_cons, List.map_nil]); first | done | rfl | (simp only [List.length_drop, List.length_take]; rfl)) ?_
  with_reducible refine (rushlightref02_Third.calls a0_0 t171 _ A5.out).mono ?_
  rintro e w15 ⟨rfl, hb⟩
  refine ⟨_, rfl, ?_⟩
  have n0_ := Aside0.mk (blk_below (g := gb167) (o := .cells #[.int .i64 a0_0, .int .i64 a0_1, .int .i64 a0_2, .int .i64 a0_3, .int .i64 a0_4] 30 (0, 0)) (by (with_reducible repeat (first | refine blk_drewN ?_ _ | refine blk_drew ?_ | refine blk_alloc ?_ _)); exact BK167.out) hb)
  have n1_ := Aside0.mk (below_step (by repeat (first | (with_reducible first | exact HB.out | apply below_alloc | apply pw_below_drewN | apply below_drew1 | refine below_set ?_ GE167.out) | exact HB.out)) hb)
  clear BK167
  clear HB
  have BK167 := n0_
  have HB := n1_
  clear n0_ n1_
  (try clear hb)
  (try clear hb2)
  (try clear hk)
  (try clear hi)
  refine hK.out _ _ ⟨(blk_cell BK167.out 0).trans rfl, (blk_cell BK167.out 1).trans rfl, (blk_cell BK167.out 2).trans rfl, (blk_cell BK167.out 3).trans rfl, (blk_cell BK167.out 4).trans rfl⟩ (fun hHeld => ?_)
  clear hK K
  refine norm_ (a' := ?_) ?_ ?_
  rotate_left
  · show Act.put _ (some 17) _ = _
    simp only [Act.put, List.setIfInBounds_toArray, List.set_cons_zero, List.set_cons_succ, i64_w, i32_w]
    rfl
  refine one_ (i := 11) (N := some 18) #[true, true, true, true, true, true, true, true, true, true, true, true, false, false, true, true, false, false, false, true, true, false, false, false, true, true, false, false, false, false, true, true, true, false, false, false, false] rfl rfl (one_of HT_.out (by kernel_rfl)) (by decide) (fun K hK => ?_)
  refine goes_ Try.func35 (by kernel_rfl) rfl #[.int .i64 12] (by rfl) rfl rfl (by (try simp only [List.map_toArray, List.map_cons, List.map_nil]); first | done | rfl | (simp only [List.length_drop, List.length_take]; rfl)) ?_
  with_reducible refine (rushlightref02_two.calls k 12 t172 _ A6.out).mono ?_
  rintro e w' ⟨rfl, ⟨nd, rfl⟩⟩
  refine ⟨_, rfl, ?_⟩
  refine hK.out _ _ ⟨(blk_cell BK167.out 0).trans rfl, (blk_cell BK167.out 1).trans rfl, (blk_cell BK167.out 2).trans rfl, (blk_cell BK167.out 3).trans rfl, (blk_cell BK167.out 4).trans rfl⟩ (fun hHeld => ?_)
  clear hK K
  refine norm_ (a' := ?_) ?_ ?_
  rotate_left
  · show Act.put _ (some 18) _ = _
    simp only [Act.put, List.setIfInBounds_toArray, List.set_cons_zero, List.set_cons_succ, i64_w, i32_w]
    rfl
  refine pure_ (i := 12) (N := some 19) (v := ?_) (a' := ?_) #[true, true, true, true, true, true, true, true, true, true, true, true, true, false, true, true, false, false, false, true, true, false, false, false, true, true, false, false, false, false, true, true, true, false, false, false, false] rfl rfl (any_of HT_.out (by kernel_rfl)) (fun _ _ _ h => h) (Or.inl ⟨by rfl, ?_⟩) ?_ ?_
  rotate_left
  · intro w'
    go_simp
    with_reducible rfl
  rotate_left
  · simp only [Act.put, List.setIfInBounds_toArray, List.set_cons_zero, List.set_cons_succ, i64_w, i32_w]
    rfl
  refine pure_ (i := 13) (N := some 20) (v := ?_) (a' := ?_) #[true, true, true, true, true, true, true, true, true, true, true, true, true, true, true, true, false, false, false, true, true, false, false, false, true, true, false, false, false, false, true, true, true, false, false, false, false] rfl rfl (any_of HT_.out (by kernel_rfl)) (fun _ _ _ h => h) (Or.inl ⟨by rfl, ?_⟩) ?_ ?_
  rotate_left
  · intro w'
    go_simp
    with_reducible rfl
  rotate_left
  · simp only [Act.put, List.setIfInBounds_toArray, List.set_cons_zero, List.set_cons_succ, i64_w, i32_w]
    rfl
  refine one_ (i := 16) (N := some 23) #[true, true, true, true, true, true, true, true, true, true, true, true, true, true, true, true, true, false, false, true, true, false, false, false, true, true, false, false, false, false, true, true, true, false, false, false, false] rfl rfl (one_of HT_.out (by kernel_rfl)) (by decide) (fun K hK => ?_)
  refine goes_ Try.func35 (by kernel_rfl) rfl #[.int .i64 15] (by rfl) rfl rfl (by (try simp only [List.map_toArray, List.map_cons, List.map_nil]); first | done | rfl | (simp only [List.length_drop, List.length_take]; rfl)) ?_
  with_reducible refine (rushlightref02_two.calls k 15 t173 _ A7.out).mono ?_
  rintro e w' ⟨rfl, ⟨nd, rfl⟩⟩
  refine ⟨_, rfl, ?_⟩
  refine hK.out _ _ ⟨(blk_cell BK167.out 0).trans rfl, (blk_cell BK167.out 1).trans rfl, (blk_cell BK167.out 2).trans rfl, (blk_cell BK167.out 3).trans rfl, (blk_cell BK167.out 4).trans rfl⟩ (fun hHeld => ?_)
  clear hK K
  refine norm_ (a' := ?_) ?_ ?_
  rotate_left
  · show Act.put _ (some 23) _ = _
    simp only [Act.put, List.setIfInBounds_toArray, List.set_cons_zero, List.set_cons_succ, i64_w, i32_w]
    rfl
  refine pure_ (i := 17) (N := some 24) (v := ?_) (a' := ?_) #[true, true, true, true, true, true, true, true, true, true, true, true, true, true, true, true, true, true, false, true, true, false, false, false, true, true, false, false, false, false, true, true, true, false, false, false, false] rfl rfl (any_of HT_.out (by kernel_rfl)) (fun _ _ _ h => h) (Or.inl ⟨by rfl, ?_⟩) ?_ ?_
  rotate_left
  · intro w'
    go_simp
    with_reducible rfl
  rotate_left
  · simp only [Act.put, List.setIfInBounds_toArray, List.set_cons_zero, List.set_cons_succ, i64_w, i32_w]
    rfl
  refine pure_ (i := 18) (N := some 25) (v := ?_) (a' := ?_) #[true, true, true, true, true, true, true, true, true, true, true, true, true, true, true, true, true, true, true, true, true, false, false, false, true, true, false, false, false, false, true, true, true, false, false, false, false] rfl rfl (any_of HT_.out (by kernel_rfl)) (fun _ _ _ h => h) (Or.inl ⟨by rfl, ?_⟩) ?_ ?_
  rotate_left
  · intro w'
    go_simp
    with_reducible rfl
  rotate_left
  · simp only [Act.put, List.setIfInBounds_toArray, List.set_cons_zero, List.set_cons_succ, i64_w, i32_w]
    rfl
  refine one_ (i := 21) (N := some 28) #[true, true, true, true, true, true, true, true, true, true, true, true, true, true, true, true, true, true, true, true, true, true, false, false, true, true, false, false, false, false, true, true, true, false, false, false, false] rfl rfl (one_of HT_.out (by kernel_rfl)) (by decide) (fun K hK => ?_)
  refine goes_ Try.func35 (by kernel_rfl) rfl #[.int .i64 20] (by rfl) rfl rfl (by (try simp only [List.map_toArray, List.map_cons, List.map_nil]); first | done | rfl | (simp only [List.length_drop, List.length_take]; rfl)) ?_
  with_reducible refine (rushlightref02_two.calls k 20 t174 _ A8.out).mono ?_
  rintro e w' ⟨rfl, ⟨nd, rfl⟩⟩
  refine ⟨_, rfl, ?_⟩
  refine hK.out _ _ ⟨(blk_cell BK167.out 0).trans rfl, (blk_cell BK167.out 1).trans rfl, (blk_cell BK167.out 2).trans rfl, (blk_cell BK167.out 3).trans rfl, (blk_cell BK167.out 4).trans rfl⟩ (fun hHeld => ?_)
  clear hK K
  refine norm_ (a' := ?_) ?_ ?_
  rotate_left
  · show Act.put _ (some 28) _ = _
    simp only [Act.put, List.setIfInBounds_toArray, List.set_cons_zero, List.set_cons_succ, i64_w, i32_w]
    rfl
  refine pure_ (i := 22) (N := some 29) (v := ?_) (a' := ?_) #[true, true, true, true, true, true, true, true, true, true, true, true, true, true, true, true, true, true, true, true, true, true, true, false, true, true, false, false, false, false, true, true, true, false, false, false, false] rfl rfl (any_of HT_.out (by kernel_rfl)) (fun _ _ _ h => h) (Or.inl ⟨by rfl, ?_⟩) ?_ ?_
  rotate_left
  · intro w'
    go_simp
    with_reducible rfl
  rotate_left
  · simp only [Act.put, List.setIfInBounds_toArray, List.set_cons_zero, List.set_cons_succ, i64_w, i32_w]
    rfl
  refine pure_ (i := 23) (N := some 30) (v := ?_) (a' := ?_) #[true, true, true, true, true, true, true, true, true, true, true, true, true, true, true, true, true, true, true, true, true, true, true, true, true, true, false, false, false, false, true, true, true, false, false, false, false] rfl rfl (any_of HT_.out (by kernel_rfl)) (fun _ _ _ h => h) (Or.inl ⟨by rfl, ?_⟩) ?_ ?_
  rotate_left
  · intro w'
    go_simp
    with_reducible rfl
  rotate_left
  · simp only [Act.put, List.setIfInBounds_toArray, List.set_cons_zero, List.set_cons_succ, i64_w, i32_w]
    rfl
  refine one_ (i := 26) (N := some 33) #[true, true, true, true, true, true, true, true, true, true, true, true, true, true, true, true, true, true, true, true, true, true, true, true, true, true, true, false, false, false, true, true, true, false, false, false, false] rfl rfl (one_of HT_.out (by kernel_rfl)) (by decide) (fun K hK => ?_)
  refine goes_ Try.func37 (by kernel_rfl) rfl #[.int .i64 a0_0] (by rfl) rfl rfl (by (try simp only [List.map_toArray, List.map_cons, List.map_nil]); first | done | rfl | (simp only [List.length_drop, List.length_take]; rfl)) ?_
  with_reducible refine (rushlightref02_Seventh.calls k a0_0 t175 _ A9.out).mono ?_
  rintro e w' ⟨rfl, ⟨nd, rfl⟩⟩
  refine ⟨_, rfl, ?_⟩
  refine hK.out _ _ ⟨(blk_cell BK167.out 0).trans rfl, (blk_cell BK167.out 1).trans rfl, (blk_cell BK167.out 2).trans rfl, (blk_cell BK167.out 3).trans rfl, (blk_cell BK167.out 4).trans rfl⟩ (fun hHeld => ?_)
  clear hK K
  refine norm_ (a' := ?_) ?_ ?_
  rotate_left
  · show Act.put _ (some 33) _ = _
    simp only [Act.put, List.setIfInBounds_toArray, List.set_cons_zero, List.set_cons_succ, i64_w, i32_w]
    rfl
  refine one_ (i := 27) (N := some 34) #[true, true, true, true, true, true, true, true, true, true, true, true, true, true, true, true, true, true, true, true, true, true, true, true, true, true, true, true, false, false, true, true, true, false, false, false, false] rfl rfl (one_of HT_.out (by kernel_rfl)) (by decide) (fun K hK => ?_)
  refine goes_ Try.func35 (by kernel_rfl) rfl #[.int .i64 25] (by rfl) rfl rfl (by (try simp only [List.map_toArray, List.map_cons, List.map_nil]); first | done | rfl | (simp only [List.length_drop, List.length_take]; rfl)) ?_
  with_reducible refine (rushlightref02_two.calls k 25 t176 _ A10.out).mono ?_
  rintro e w' ⟨rfl, ⟨nd, rfl⟩⟩
  refine ⟨_, rfl, ?_⟩
  refine hK.out _ _ ⟨(blk_cell BK167.out 0).trans rfl, (blk_cell BK167.out 1).trans rfl, (blk_cell BK167.out 2).trans rfl, (blk_cell BK167.out 3).trans rfl, (blk_cell BK167.out 4).trans rfl⟩ (fun hHeld => ?_)
  clear hK K
  refine norm_ (a' := ?_) ?_ ?_
  rotate_left
  · show Act.put _ (some 34) _ = _
    simp only [Act.put, List.setIfInBounds_toArray, List.set_cons_zero, List.set_cons_succ, i64_w, i32_w]
    rfl
  refine pure_ (i := 28) (N := some 35) (v := ?_) (a' := ?_) #[true, true, true, true, true, true, true, true, true, true, true, true, true, true, true, true, true, true, true, true, true, true, true, true, true, true, true, true, true, false, true, true, true, false, false, false, false] rfl rfl (any_of HT_.out (by kernel_rfl)) (fun _ _ _ h => h) (Or.inl ⟨by rfl, ?_⟩) ?_ ?_
  rotate_left
  · intro w'
    go_simp
    with_reducible rfl
  rotate_left
  · simp only [Act.put, List.setIfInBounds_toArray, List.set_cons_zero, List.set_cons_succ, i64_w, i32_w]
    rfl
  refine pure_ (i := 29) (N := some 36) (v := ?_) (a' := ?_) #[true, true, true, true, true, true, true, true, true, true, true, true, true, true, true, true, true, true, true, true, true, true, true, true, true, true, true, true, true, true, true, true, true, false, false, false, false] rfl rfl (any_of HT_.out (by kernel_rfl)) (fun _ _ _ h => h) (Or.inl ⟨by rfl, ?_⟩) ?_ ?_
  rotate_left
  · intro w'
    go_simp
    with_reducible rfl
  rotate_left
  · simp only [Act.put, List.setIfInBounds_toArray, List.set_cons_zero, List.set_cons_succ, i64_w, i32_w]
    rfl
  refine one_ (i := 33) (N := some 40) #[true, true, true, true, true, true, true, true, true, true, true, true, true, true, true, true, true, true, true, true, true, true, true, true, true, true, true, true, true, true, true, true, true, true, false, false, false] rfl rfl (one_of HT_.out (by kernel_rfl)) (by decide) (fun K hK => ?_)
  refine goes_ Try.func38 (by kernel_rfl) rfl #[.int .u8 t168, .int .i64 a0_4] (by rfl) rfl rfl (by (try simp only [List.map_toArray, List.map_cons, List.map_nil]); first | done | rfl | (simp only [List.length_drop, List.length_take]; rfl)) ?_
  with_reducible refine (rushlightref02_Spread.calls k t168 a0_4 t177 _ A11.out).mono ?_
  rintro e w' ⟨rfl, ⟨nd, rfl⟩⟩
  refine ⟨_, rfl, ?_⟩
  refine hK.out _ _ ⟨(blk_cell BK167.out 0).trans rfl, (blk_cell BK167.out 1).trans rfl, (blk_cell BK167.out 2).trans rfl, (blk_cell BK167.out 3).trans rfl, (blk_cell BK167.out 4).trans rfl⟩ (fun hHeld => ?_)
  clear hK K
  refine norm_ (a' := ?_) ?_ ?_
  rotate_left
  · show Act.put _ (some 40) _ = _
    simp only [Act.put, List.setIfInBounds_toArray, List.set_cons_zero, List.set_cons_succ, i64_w, i32_w]
    rfl
  refine pure_ (i := 34) (N := some 41) (v := ?_) (a' := ?_) #[true, true, true, true, true, true, true, true, true, true, true, true, true, true, true, true, true, true, true, true, true, true, true, true, true, true, true, true, true, true, true, true, true, true, true, false, false] rfl rfl (any_of HT_.out (by kernel_rfl)) (fun _ _ _ h => h) (Or.inl ⟨by rfl, ?_⟩) ?_ ?_
  rotate_left
  · intro w'
    go_simp
    with_reducible rfl
  rotate_left
  · simp only [Act.put, List.setIfInBounds_toArray, List.set_cons_zero, List.set_cons_succ, i64_w, i32_w]
    rfl
  refine pure_ (i := 35) (N := some 42) (v := ?_) (a' := ?_) #[true, true, true, true, true, true, true, true, true, true, true, true, true, true, true, true, true, true, true, true, true, true, true, true, true, true, true, true, true, true, true, true, true, true, true, true, false] rfl rfl (any_of HT_.out (by kernel_rfl)) (fun _ _ _ h => h) (Or.inl ⟨by rfl, ?_⟩) ?_ ?_
  rotate_left
  · intro w'
    go_simp
    with_reducible rfl
  rotate_left
  · simp only [Act.put, List.setIfInBounds_toArray, List.set_cons_zero, List.set_cons_succ, i64_w, i32_w]
    rfl
  refine pure_ (i := 36) (N := some 2) (v := ?_) (a' := ?_) #[true, true, true, true, true, true, true, true, true, true, true, true, true, true, true, true, true, true, true, true, true, true, true, true, true, true, true, true, true, true, true, true, true, true, true, true, true] rfl rfl (any_of HT_.out (by kernel_rfl)) (fun _ _ _ h => h) (Or.inl ⟨by rfl, ?_⟩) ?_ ?_
  rotate_left
  · intro w'
    go_simp
    with_reducible rfl
  rotate_left
  · simp only [Act.put, List.setIfInBounds_toArray, List.set_cons_zero, List.set_cons_succ, i64_w, i32_w]
    rfl
  refine done_ (done_of HT_.out (by kernel_rfl)) ?_
  try go_wp2
  go_ret
  exact ⟨by first | rfl | (simp [errW_none, errW_some] <;> rfl) | (simp [*, errW_none, errW_some] <;> rfl), by repeat (first | (with_reducible first | exact HB.out | apply below_alloc | apply pw_below_drewN | apply below_drew1 | refine below_set ?_ GE167.out) | exact HB.out)⟩
def inst_fits.j0 : Nat → Int → Bool → ByteArray → Int → Int → Int → Int → Option (Bool)
  | 0, _, _, _, _, _, _, _ => none
  | k + 1, x1, x11, x182000, x182001, x182002, x182003, x182004 => if x11 = true then (some true) else ((inst_bits.f x1 12 3).bind fun t182 => (if t182 = x182003 then (if x182001 = 82 then (some ((x1 / 33554432) == x182004)) else (if x182001 = 72 then (some ((x1 / 33554432) == x182004)) else (some true))) else (some false)))
def inst_fits.f (k : Nat) (a0_0 : ByteArray) (a0_1 : Int) (a0_2 : Int) (a0_3 : Int) (a0_4 : Int) (a1 : Int) : Option (Bool) := if (Go.bits .and .u32 a1 127) = a0_2 then (if a0_1 = 85 then (inst_fits.j0 k a1 true a0_0 a0_1 a0_2 a0_3 a0_4) else (inst_fits.j0 k a1 (a0_1 == 74) a0_0 a0_1 a0_2 a0_3 a0_4)) else (some false)
set_option maxHeartbeats 8000000 in
set_option maxRecDepth 100000 in
theorem inst_fits.calls (k : Nat) (a0_0 : ByteArray) (a0_1 : Int) (a0_2 : Int) (a0_3 : Int) (a0_4 : Int) (a1 : Int) (r : Bool) (w : World) (h : inst_fits.f k a0_0 a0_1 a0_2 a0_3 a0_4 a1 = some r) :
    Calls Try.prog 29 #[.agg #[.string a0_0, .int .u8 a0_1, .int .u32 a0_2, .int .u32 a0_3, .int .u32 a0_4], .int .u32 a1] w fun e w' => e = .returned (.bool r) ∧ Below w.heap.size w w' := by
  have hu43 := Try.underlying43
  have HB := Aside0.mk (Below.refl w.heap.size w)
  have H : (if (Go.bits .and .u32 a1 127) = a0_2 then (if a0_1 = 85 then (inst_fits.j0 k a1 true a0_0 a0_1 a0_2 a0_3 a0_4) else (inst_fits.j0 k a1 (a0_1 == 74) a0_0 a0_1 a0_2 a0_3 a0_4)) else (some false)) = some r := h
  clear h
  by_cases c3 : (Go.bits .and .u32 a1 127) = a0_2
  · rw [if_pos c3] at H
    have c3b0 : ((Go.bits .and .u32 a1 127) == a0_2) = true := beq_iff_eq.mpr c3
    have c3b1 : ((Go.bits .and .u32 a1 127) != a0_2) = false := bne_eq_false_iff_eq.mpr c3
    clear c3
    have HC4 := Aside0.mk H
    clear H
    go_enter Try.func29, Try.ntmps29
    go_upto_region 3 with (first | ((with_reducible refine gate_dst (N := 2) rfl ?_); refine box_event ?hg (N := 2) ?hd (cs := #[.string a0_0, .int .u8 a0_1, .int .u32 a0_2, .int .u32 a0_3, .int .u32 a0_4]) (t := 43) ?hr ?_; (case hd => rfl); (case hg => rfl); (case hr => first | (go_simp; done) | (go_simp; rfl)); intro gb181 hg w5 hbox hb; have n0_ := Aside0.mk (below_step (by repeat (first | (with_reducible first | exact HB.out | apply below_alloc | apply pw_below_drewN | apply below_drew1) | exact HB.out)) hb); have n1_ := Aside0.mk (hbox); have n2_ := Aside0.mk ((by rw [hg]; exact (below_size (by repeat (first | (with_reducible first | exact HB.out | apply below_alloc | apply pw_below_drewN | apply below_drew1) | exact HB.out))) : w.heap.size ≤ gb181)); have n3_ := Aside0.mk ((by rw [hg]; exact (below_size (by repeat (first | (with_reducible first | exact HB.out | apply below_alloc | apply pw_below_drewN | apply below_drew1) | exact HB.out))) : w.heap.size ≤ gb181)); clear HB; have HB := n0_; have BK181 := n1_; have GW181 := n2_; have GE181 := n3_; clear n0_ n1_ n2_ n3_; clear hb hbox hg; have hcz6_0 : w5.cell? ⟨gb181, 0, none⟩ = some (.string a0_0) := (blk_cell BK181.out 0).trans rfl; have hcz6_1 : w5.cell? ⟨gb181, 1, none⟩ = some (.int .u8 a0_1) := (blk_cell BK181.out 1).trans rfl; have hcz6_2 : w5.cell? ⟨gb181, 2, none⟩ = some (.int .u32 a0_2) := (blk_cell BK181.out 2).trans rfl; have hcz6_3 : w5.cell? ⟨gb181, 3, none⟩ = some (.int .u32 a0_3) := (blk_cell BK181.out 3).trans rfl; have hcz6_4 : w5.cell? ⟨gb181, 4, none⟩ = some (.int .u32 a0_4) := (blk_cell BK181.out 4).trans rfl; have hfz6_0 := blk_frozen BK181.out 0; have hfz6_1 := blk_frozen BK181.out 1; have hfz6_2 := blk_frozen BK181.out 2; have hfz6_3 := blk_frozen BK181.out 3; have hfz6_4 := blk_frozen BK181.out 4))
    repeat (go_quiet (first | ((with_reducible refine gate_dst (N := 2) rfl ?_); refine box_event ?hg (N := 2) ?hd (cs := #[.string a0_0, .int .u8 a0_1, .int .u32 a0_2, .int .u32 a0_3, .int .u32 a0_4]) (t := 43) ?hr ?_; (case hd => rfl); (case hg => rfl); (case hr => first | (go_simp; done) | (go_simp; rfl)); intro gb181 hg w5 hbox hb; have n0_ := Aside0.mk (below_step (by repeat (first | (with_reducible first | exact HB.out | apply below_alloc | apply pw_below_drewN | apply below_drew1) | exact HB.out)) hb); have n1_ := Aside0.mk (hbox); have n2_ := Aside0.mk ((by rw [hg]; exact (below_size (by repeat (first | (with_reducible first | exact HB.out | apply below_alloc | apply pw_below_drewN | apply below_drew1) | exact HB.out))) : w.heap.size ≤ gb181)); have n3_ := Aside0.mk ((by rw [hg]; exact (below_size (by repeat (first | (with_reducible first | exact HB.out | apply below_alloc | apply pw_below_drewN | apply below_drew1) | exact HB.out))) : w.heap.size ≤ gb181)); clear HB; have HB := n0_; have BK181 := n1_; have GW181 := n2_; have GE181 := n3_; clear n0_ n1_ n2_ n3_; clear hb hbox hg; have hcz6_0 : w5.cell? ⟨gb181, 0, none⟩ = some (.string a0_0) := (blk_cell BK181.out 0).trans rfl; have hcz6_1 : w5.cell? ⟨gb181, 1, none⟩ = some (.int .u8 a0_1) := (blk_cell BK181.out 1).trans rfl; have hcz6_2 : w5.cell? ⟨gb181, 2, none⟩ = some (.int .u32 a0_2) := (blk_cell BK181.out 2).trans rfl; have hcz6_3 : w5.cell? ⟨gb181, 3, none⟩ = some (.int .u32 a0_3) := (blk_cell BK181.out 3).trans rfl; have hcz6_4 : w5.cell? ⟨gb181, 4, none⟩ = some (.int .u32 a0_4) := (blk_cell BK181.out 4).trans rfl; have hfz6_0 := blk_frozen BK181.out 0; have hfz6_1 := blk_frozen BK181.out 1; have hfz6_2 := blk_frozen BK181.out 2; have hfz6_3 := blk_frozen BK181.out 3; have hfz6_4 := blk_frozen BK181.out 4)); go_upto_region 3 with (first | ((with_reducible refine gate_dst (N := 2) rfl ?_); refine box_event ?hg (N := 2) ?hd (cs := #[.string a0_0, .int .u8 a0_1, .int .u32 a0_2, .int .u32 a0_3, .int .u32 a0_4]) (t := 43) ?hr ?_; (case hd => rfl); (case hg => rfl); (case hr => first | (go_simp; done) | (go_simp; rfl)); intro gb181 hg w5 hbox hb; have n0_ := Aside0.mk (below_step (by repeat (first | (with_reducible first | exact HB.out | apply below_alloc | apply pw_below_drewN | apply below_drew1) | exact HB.out)) hb); have n1_ := Aside0.mk (hbox); have n2_ := Aside0.mk ((by rw [hg]; exact (below_size (by repeat (first | (with_reducible first | exact HB.out | apply below_alloc | apply pw_below_drewN | apply below_drew1) | exact HB.out))) : w.heap.size ≤ gb181)); have n3_ := Aside0.mk ((by rw [hg]; exact (below_size (by repeat (first | (with_reducible first | exact HB.out | apply below_alloc | apply pw_below_drewN | apply below_drew1) | exact HB.out))) : w.heap.size ≤ gb181)); clear HB; have HB := n0_; have BK181 := n1_; have GW181 := n2_; have GE181 := n3_; clear n0_ n1_ n2_ n3_; clear hb hbox hg; have hcz6_0 : w5.cell? ⟨gb181, 0, none⟩ = some (.string a0_0) := (blk_cell BK181.out 0).trans rfl; have hcz6_1 : w5.cell? ⟨gb181, 1, none⟩ = some (.int .u8 a0_1) := (blk_cell BK181.out 1).trans rfl; have hcz6_2 : w5.cell? ⟨gb181, 2, none⟩ = some (.int .u32 a0_2) := (blk_cell BK181.out 2).trans rfl; have hcz6_3 : w5.cell? ⟨gb181, 3, none⟩ = some (.int .u32 a0_3) := (blk_cell BK181.out 3).trans rfl; have hcz6_4 : w5.cell? ⟨gb181, 4, none⟩ = some (.int .u32 a0_4) := (blk_cell BK181.out 4).trans rfl; have hfz6_0 := blk_frozen BK181.out 0; have hfz6_1 := blk_frozen BK181.out 1; have hfz6_2 := blk_frozen BK181.out 2; have hfz6_3 := blk_frozen BK181.out 3; have hfz6_4 := blk_frozen BK181.out 4)))
    (try simp only [Act.put, List.setIfInBounds_toArray, List.set_cons_zero, List.set_cons_succ])
    go_cut [11] (fun v11 wc => ∃ (kq : Nat) (x11_3 : Bool), v11 = .bool x11_3 ∧ Aside0 (inst_fits.j0 kq a1 x11_3 a0_0 a0_1 a0_2 a0_3 a0_4 = some r) ∧ Aside0 (kq ≤ k) ∧ Aside0 (wc.heap[gb181]? = some (.cells #[.string a0_0, .int .u8 a0_1, .int .u32 a0_2, .int .u32 a0_3, .int .u32 a0_4] 43 (0, 0))) ∧ Aside0 (Below w.heap.size w wc))
    case first =>
      have H := HC4.out
      clear HC4
      by_cases c7 : a0_1 = 85
      · rw [if_pos c7] at H
        have c7b0 : (a0_1 == 85) = true := beq_iff_eq.mpr c7
        have c7b1 : (a0_1 != 85) = false := bne_eq_false_iff_eq.mpr c7
        clear c7
        (first | rw [c7b0] | (simp only [i64_w, i32_w]; rw [c7b0]) | skip)
        have H' := Aside0.mk H
        clear H
        have hcz8_0 : w5.cell? ⟨gb181, 0, none⟩ = some (.string a0_0) := (blk_cell BK181.out 0).trans rfl
        have hcz8_1 : w5.cell? ⟨gb181, 1, none⟩ = some (.int .u8 a0_1) := (blk_cell BK181.out 1).trans rfl
        have hcz8_2 : w5.cell? ⟨gb181, 2, none⟩ = some (.int .u32 a0_2) := (blk_cell BK181.out 2).trans rfl
        have hcz8_3 : w5.cell? ⟨gb181, 3, none⟩ = some (.int .u32 a0_3) := (blk_cell BK181.out 3).trans rfl
        have hcz8_4 : w5.cell? ⟨gb181, 4, none⟩ = some (.int .u32 a0_4) := (blk_cell BK181.out 4).trans rfl
        have hfz8_0 := blk_frozen BK181.out 0
        have hfz8_1 := blk_frozen BK181.out 1
        have hfz8_2 := blk_frozen BK181.out 2
        have hfz8_3 := blk_frozen BK181.out 3
        have hfz8_4 := blk_frozen BK181.out 4
        go_wp2
        repeat (go_quiet (fail); try go_wp2)
        go_meet
        case rel => exact ⟨_, (true), (by first | rfl | (simp; done) | (simp [*]; done)), H', ⟨by first | omega | exact Nat.le_refl _⟩, ⟨by (with_reducible repeat (first | refine blk_drewN ?_ _ | refine blk_drew ?_ | refine blk_alloc ?_ _)); exact BK181.out⟩, ⟨by repeat (first | (with_reducible first | exact HB.out | apply below_alloc | apply pw_below_drewN | apply below_drew1 | refine below_set ?_ GE181.out) | exact HB.out)⟩⟩
      · rw [if_neg c7] at H
        have c7b0 : (a0_1 == 85) = false := beq_eq_false_iff_ne.mpr c7
        have c7b1 : (a0_1 != 85) = true := bne_iff_ne.mpr c7
        (first | rw [c7b0] | (simp only [i64_w, i32_w]; rw [c7b0]) | skip)
        have H' := Aside0.mk H
        clear H
        have hcz9_0 : w5.cell? ⟨gb181, 0, none⟩ = some (.string a0_0) := (blk_cell BK181.out 0).trans rfl
        have hcz9_1 : w5.cell? ⟨gb181, 1, none⟩ = some (.int .u8 a0_1) := (blk_cell BK181.out 1).trans rfl
        have hcz9_2 : w5.cell? ⟨gb181, 2, none⟩ = some (.int .u32 a0_2) := (blk_cell BK181.out 2).trans rfl
        have hcz9_3 : w5.cell? ⟨gb181, 3, none⟩ = some (.int .u32 a0_3) := (blk_cell BK181.out 3).trans rfl
        have hcz9_4 : w5.cell? ⟨gb181, 4, none⟩ = some (.int .u32 a0_4) := (blk_cell BK181.out 4).trans rfl
        have hfz9_0 := blk_frozen BK181.out 0
        have hfz9_1 := blk_frozen BK181.out 1
        have hfz9_2 := blk_frozen BK181.out 2
        have hfz9_3 := blk_frozen BK181.out 3
        have hfz9_4 := blk_frozen BK181.out 4
        go_wp2
        repeat (go_quiet (fail); try go_wp2)
        go_meet
        case rel => exact ⟨_, ((a0_1 == 74)), (by first | rfl | (simp; done) | (simp [*]; done)), H', ⟨by first | omega | exact Nat.le_refl _⟩, ⟨by (with_reducible repeat (first | refine blk_drewN ?_ _ | refine blk_drew ?_ | refine blk_alloc ?_ _)); exact BK181.out⟩, ⟨by repeat (first | (with_reducible first | exact HB.out | apply below_alloc | apply pw_below_drewN | apply below_drew1 | refine below_set ?_ GE181.out) | exact HB.out)⟩⟩
    case rest =>
      clear HC4
      try clear c2
      try clear p2
      try clear c3
      try clear c3b0
      try clear c3b1
      try clear c7
      try clear c7b0
      try clear c7b1
      try clear hcz6_0
      try clear hcz6_1
      try clear hcz6_2
      try clear hcz6_3
      try clear hcz6_4
      try clear hcz8_0
      try clear hcz8_1
      try clear hcz8_2
      try clear hcz8_3
      try clear hcz8_4
      try clear hcz9_0
      try clear hcz9_1
      try clear hcz9_2
      try clear hcz9_3
      try clear hcz9_4
      try clear hfz6_0
      try clear hfz6_1
      try clear hfz6_2
      try clear hfz6_3
      try clear hfz6_4
      try clear hfz8_0
      try clear hfz8_1
      try clear hfz8_2
      try clear hfz8_3
      try clear hfz8_4
      try clear hfz9_0
      try clear hfz9_1
      try clear hfz9_2
      try clear hfz9_3
      try clear hfz9_4
      obtain ⟨kq, x11_3, rfl, HA, HJ3, BK181, HB⟩ := hcut
      cases kq with
      | zero => exact absurd HA.out (by simp [inst_fits.j0])
      | succ kj3 =>
        have H := HA.out
        clear HA
        simp only [inst_fits.j0] at H
        by_cases c10 : x11_3 = true
        · subst c10
          have H1 : (some true) = some r := by rw [if_pos rfl] at H; exact H
          clear H
          have H := H1
          clear H1
          obtain rfl := Option.some.inj H
          go_wp2
          repeat (go_quiet (fail); try go_wp2)
          go_ret
          exact ⟨by first | rfl | (simp [errW_none, errW_some] <;> rfl) | (simp [*, errW_none, errW_some] <;> rfl), by repeat (first | (with_reducible first | exact HB.out | apply below_alloc | apply pw_below_drewN | apply below_drew1 | refine below_set ?_ GE181.out) | exact HB.out)⟩
        · replace c10 := Bool.eq_false_iff.mpr c10
          subst c10
          have H1 : ((inst_bits.f a1 12 3).bind fun t182 => (if t182 = a0_3 then (if a0_1 = 82 then (some ((a1 / 33554432) == a0_4)) else (if a0_1 = 72 then (some ((a1 / 33554432) == a0_4)) else (some true))) else (some false))) = some r := by rw [if_neg (show ¬ (false = true) by decide)] at H; exact H
          clear H
          have H := H1
          clear H1
          replace H := Option.bind_eq_some_iff.mp H
          obtain ⟨t182, A110, H⟩ := H
          replace H : (if t182 = a0_3 then (if a0_1 = 82 then (some ((a1 / 33554432) == a0_4)) else (if a0_1 = 72 then (some ((a1 / 33554432) == a0_4)) else (some true))) else (some false)) = some r := H
          have A11 := Aside0.mk A110
          clear A110
          by_cases c12 : t182 = a0_3
          · rw [if_pos c12] at H
            have c12b0 : (t182 == a0_3) = true := beq_iff_eq.mpr c12
            have c12b1 : (t182 != a0_3) = false := bne_eq_false_iff_eq.mpr c12
            clear c12
            by_cases c13 : a0_1 = 82
            · rw [if_pos c13] at H
              have c13b0 : (a0_1 == 82) = true := beq_iff_eq.mpr c13
              have c13b1 : (a0_1 != 82) = false := bne_eq_false_iff_eq.mpr c13
              clear c13
              obtain rfl := Option.some.inj H
              go_wp2_with (first | (go_at_call 31; (with_reducible refine (inst_bits.calls a1 12 3 t182 _ A11.out).mono ?_); rintro e w' ⟨rfl, ⟨nd, rfl⟩⟩; (try first | exact ⟨rfl, _, World.drewN_drewN _ _ _⟩ | exact ⟨rfl, _, Eq.trans (World.drewN_drewN _ _ _) (congrArg (World.drewN _) (Nat.add_assoc _ _ _))⟩); have hcz14_0 : wc.cell? ⟨gb181, 0, none⟩ = some (.string a0_0) := (blk_cell BK181.out 0).trans rfl; have hcz14_1 : wc.cell? ⟨gb181, 1, none⟩ = some (.int .u8 a0_1) := (blk_cell BK181.out 1).trans rfl; have hcz14_2 : wc.cell? ⟨gb181, 2, none⟩ = some (.int .u32 a0_2) := (blk_cell BK181.out 2).trans rfl; have hcz14_3 : wc.cell? ⟨gb181, 3, none⟩ = some (.int .u32 a0_3) := (blk_cell BK181.out 3).trans rfl; have hcz14_4 : wc.cell? ⟨gb181, 4, none⟩ = some (.int .u32 a0_4) := (blk_cell BK181.out 4).trans rfl; have hfz14_0 := blk_frozen BK181.out 0; have hfz14_1 := blk_frozen BK181.out 1; have hfz14_2 := blk_frozen BK181.out 2; have hfz14_3 := blk_frozen BK181.out 3; have hfz14_4 := blk_frozen BK181.out 4))
              repeat (go_quiet (first | (go_at_call 31; (with_reducible refine (inst_bits.calls a1 12 3 t182 _ A11.out).mono ?_); rintro e w' ⟨rfl, ⟨nd, rfl⟩⟩; (try first | exact ⟨rfl, _, World.drewN_drewN _ _ _⟩ | exact ⟨rfl, _, Eq.trans (World.drewN_drewN _ _ _) (congrArg (World.drewN _) (Nat.add_assoc _ _ _))⟩); have hcz14_0 : wc.cell? ⟨gb181, 0, none⟩ = some (.string a0_0) := (blk_cell BK181.out 0).trans rfl; have hcz14_1 : wc.cell? ⟨gb181, 1, none⟩ = some (.int .u8 a0_1) := (blk_cell BK181.out 1).trans rfl; have hcz14_2 : wc.cell? ⟨gb181, 2, none⟩ = some (.int .u32 a0_2) := (blk_cell BK181.out 2).trans rfl; have hcz14_3 : wc.cell? ⟨gb181, 3, none⟩ = some (.int .u32 a0_3) := (blk_cell BK181.out 3).trans rfl; have hcz14_4 : wc.cell? ⟨gb181, 4, none⟩ = some (.int .u32 a0_4) := (blk_cell BK181.out 4).trans rfl; have hfz14_0 := blk_frozen BK181.out 0; have hfz14_1 := blk_frozen BK181.out 1; have hfz14_2 := blk_frozen BK181.out 2; have hfz14_3 := blk_frozen BK181.out 3; have hfz14_4 := blk_frozen BK181.out 4)); try go_wp2_with (first | (go_at_call 31; (with_reducible refine (inst_bits.calls a1 12 3 t182 _ A11.out).mono ?_); rintro e w' ⟨rfl, ⟨nd, rfl⟩⟩; (try first | exact ⟨rfl, _, World.drewN_drewN _ _ _⟩ | exact ⟨rfl, _, Eq.trans (World.drewN_drewN _ _ _) (congrArg (World.drewN _) (Nat.add_assoc _ _ _))⟩); have hcz14_0 : wc.cell? ⟨gb181, 0, none⟩ = some (.string a0_0) := (blk_cell BK181.out 0).trans rfl; have hcz14_1 : wc.cell? ⟨gb181, 1, none⟩ = some (.int .u8 a0_1) := (blk_cell BK181.out 1).trans rfl; have hcz14_2 : wc.cell? ⟨gb181, 2, none⟩ = some (.int .u32 a0_2) := (blk_cell BK181.out 2).trans rfl; have hcz14_3 : wc.cell? ⟨gb181, 3, none⟩ = some (.int .u32 a0_3) := (blk_cell BK181.out 3).trans rfl; have hcz14_4 : wc.cell? ⟨gb181, 4, none⟩ = some (.int .u32 a0_4) := (blk_cell BK181.out 4).trans rfl; have hfz14_0 := blk_frozen BK181.out 0; have hfz14_1 := blk_frozen BK181.out 1; have hfz14_2 := blk_frozen BK181.out 2; have hfz14_3 := blk_frozen BK181.out 3; have hfz14_4 := blk_frozen BK181.out 4)))
              go_ret
              exact ⟨by first | rfl | (simp [errW_none, errW_some] <;> rfl) | (simp [*, errW_none, errW_some] <;> rfl), by repeat (first | (with_reducible first | exact HB.out | apply below_alloc | apply pw_below_drewN | apply below_drew1 | refine below_set ?_ GE181.out) | exact HB.out)⟩
            · rw [if_neg c13] at H
              have c13b0 : (a0_1 == 82) = false := beq_eq_false_iff_ne.mpr c13
              have c13b1 : (a0_1 != 82) = true := bne_iff_ne.mpr c13
              by_cases c15 : a0_1 = 72
              · rw [if_pos c15] at H
                have c15b0 : (a0_1 == 72) = true := beq_iff_eq.mpr c15
                have c15b1 : (a0_1 != 72) = false := bne_eq_false_iff_eq.mpr c15
                clear c15
                obtain rfl := Option.some.inj H
                go_wp2_with (first | (go_at_call 31; (with_reducible refine (inst_bits.calls a1 12 3 t182 _ A11.out).mono ?_); rintro e w' ⟨rfl, ⟨nd, rfl⟩⟩; (try first | exact ⟨rfl, _, World.drewN_drewN _ _ _⟩ | exact ⟨rfl, _, Eq.trans (World.drewN_drewN _ _ _) (congrArg (World.drewN _) (Nat.add_assoc _ _ _))⟩); have hcz16_0 : wc.cell? ⟨gb181, 0, none⟩ = some (.string a0_0) := (blk_cell BK181.out 0).trans rfl; have hcz16_1 : wc.cell? ⟨gb181, 1, none⟩ = some (.int .u8 a0_1) := (blk_cell BK181.out 1).trans rfl; have hcz16_2 : wc.cell? ⟨gb181, 2, none⟩ = some (.int .u32 a0_2) := (blk_cell BK181.out 2).trans rfl; have hcz16_3 : wc.cell? ⟨gb181, 3, none⟩ = some (.int .u32 a0_3) := (blk_cell BK181.out 3).trans rfl; have hcz16_4 : wc.cell? ⟨gb181, 4, none⟩ = some (.int .u32 a0_4) := (blk_cell BK181.out 4).trans rfl; have hfz16_0 := blk_frozen BK181.out 0; have hfz16_1 := blk_frozen BK181.out 1; have hfz16_2 := blk_frozen BK181.out 2; have hfz16_3 := blk_frozen BK181.out 3; have hfz16_4 := blk_frozen BK181.out 4))
                repeat (go_quiet (first | (go_at_call 31; (with_reducible refine (inst_bits.calls a1 12 3 t182 _ A11.out).mono ?_); rintro e w' ⟨rfl, ⟨nd, rfl⟩⟩; (try first | exact ⟨rfl, _, World.drewN_drewN _ _ _⟩ | exact ⟨rfl, _, Eq.trans (World.drewN_drewN _ _ _) (congrArg (World.drewN _) (Nat.add_assoc _ _ _))⟩); have hcz16_0 : wc.cell? ⟨gb181, 0, none⟩ = some (.string a0_0) := (blk_cell BK181.out 0).trans rfl; have hcz16_1 : wc.cell? ⟨gb181, 1, none⟩ = some (.int .u8 a0_1) := (blk_cell BK181.out 1).trans rfl; have hcz16_2 : wc.cell? ⟨gb181, 2, none⟩ = some (.int .u32 a0_2) := (blk_cell BK181.out 2).trans rfl; have hcz16_3 : wc.cell? ⟨gb181, 3, none⟩ = some (.int .u32 a0_3) := (blk_cell BK181.out 3).trans rfl; have hcz16_4 : wc.cell? ⟨gb181, 4, none⟩ = some (.int .u32 a0_4) := (blk_cell BK181.out 4).trans rfl; have hfz16_0 := blk_frozen BK181.out 0; have hfz16_1 := blk_frozen BK181.out 1; have hfz16_2 := blk_frozen BK181.out 2; have hfz16_3 := blk_frozen BK181.out 3; have hfz16_4 := blk_frozen BK181.out 4)); try go_wp2_with (first | (go_at_call 31; (with_reducible refine (inst_bits.calls a1 12 3 t182 _ A11.out).mono ?_); rintro e w' ⟨rfl, ⟨nd, rfl⟩⟩; (try first | exact ⟨rfl, _, World.drewN_drewN _ _ _⟩ | exact ⟨rfl, _, Eq.trans (World.drewN_drewN _ _ _) (congrArg (World.drewN _) (Nat.add_assoc _ _ _))⟩); have hcz16_0 : wc.cell? ⟨gb181, 0, none⟩ = some (.string a0_0) := (blk_cell BK181.out 0).trans rfl; have hcz16_1 : wc.cell? ⟨gb181, 1, none⟩ = some (.int .u8 a0_1) := (blk_cell BK181.out 1).trans rfl; have hcz16_2 : wc.cell? ⟨gb181, 2, none⟩ = some (.int .u32 a0_2) := (blk_cell BK181.out 2).trans rfl; have hcz16_3 : wc.cell? ⟨gb181, 3, none⟩ = some (.int .u32 a0_3) := (blk_cell BK181.out 3).trans rfl; have hcz16_4 : wc.cell? ⟨gb181, 4, none⟩ = some (.int .u32 a0_4) := (blk_cell BK181.out 4).trans rfl; have hfz16_0 := blk_frozen BK181.out 0; have hfz16_1 := blk_frozen BK181.out 1; have hfz16_2 := blk_frozen BK181.out 2; have hfz16_3 := blk_frozen BK181.out 3; have hfz16_4 := blk_frozen BK181.out 4)))
                go_ret
                exact ⟨by first | rfl | (simp [errW_none, errW_some] <;> rfl) | (simp [*, errW_none, errW_some] <;> rfl), by repeat (first | (with_reducible first | exact HB.out | apply below_alloc | apply pw_below_drewN | apply below_drew1 | refine below_set ?_ GE181.out) | exact HB.out)⟩
              · rw [if_neg c15] at H
                have c15b0 : (a0_1 == 72) = false := beq_eq_false_iff_ne.mpr c15
                have c15b1 : (a0_1 != 72) = true := bne_iff_ne.mpr c15
                obtain rfl := Option.some.inj H
                go_wp2_with (first | (go_at_call 31; (with_reducible refine (inst_bits.calls a1 12 3 t182 _ A11.out).mono ?_); rintro e w' ⟨rfl, ⟨nd, rfl⟩⟩; (try first | exact ⟨rfl, _, World.drewN_drewN _ _ _⟩ | exact ⟨rfl, _, Eq.trans (World.drewN_drewN _ _ _) (congrArg (World.drewN _) (Nat.add_assoc _ _ _))⟩); have hcz17_0 : wc.cell? ⟨gb181, 0, none⟩ = some (.string a0_0) := (blk_cell BK181.out 0).trans rfl; have hcz17_1 : wc.cell? ⟨gb181, 1, none⟩ = some (.int .u8 a0_1) := (blk_cell BK181.out 1).trans rfl; have hcz17_2 : wc.cell? ⟨gb181, 2, none⟩ = some (.int .u32 a0_2) := (blk_cell BK181.out 2).trans rfl; have hcz17_3 : wc.cell? ⟨gb181, 3, none⟩ = some (.int .u32 a0_3) := (blk_cell BK181.out 3).trans rfl; have hcz17_4 : wc.cell? ⟨gb181, 4, none⟩ = some (.int .u32 a0_4) := (blk_cell BK181.out 4).trans rfl; have hfz17_0 := blk_frozen BK181.out 0; have hfz17_1 := blk_frozen BK181.out 1; have hfz17_2 := blk_frozen BK181.out 2; have hfz17_3 := blk_frozen BK181.out 3; have hfz17_4 := blk_frozen BK181.out 4))
                repeat (go_quiet (first | (go_at_call 31; (with_reducible refine (inst_bits.calls a1 12 3 t182 _ A11.out).mono ?_); rintro e w' ⟨rfl, ⟨nd, rfl⟩⟩; (try first | exact ⟨rfl, _, World.drewN_drewN _ _ _⟩ | exact ⟨rfl, _, Eq.trans (World.drewN_drewN _ _ _) (congrArg (World.drewN _) (Nat.add_assoc _ _ _))⟩); have hcz17_0 : wc.cell? ⟨gb181, 0, none⟩ = some (.string a0_0) := (blk_cell BK181.out 0).trans rfl; have hcz17_1 : wc.cell? ⟨gb181, 1, none⟩ = some (.int .u8 a0_1) := (blk_cell BK181.out 1).trans rfl; have hcz17_2 : wc.cell? ⟨gb181, 2, none⟩ = some (.int .u32 a0_2) := (blk_cell BK181.out 2).trans rfl; have hcz17_3 : wc.cell? ⟨gb181, 3, none⟩ = some (.int .u32 a0_3) := (blk_cell BK181.out 3).trans rfl; have hcz17_4 : wc.cell? ⟨gb181, 4, none⟩ = some (.int .u32 a0_4) := (blk_cell BK181.out 4).trans rfl; have hfz17_0 := blk_frozen BK181.out 0; have hfz17_1 := blk_frozen BK181.out 1; have hfz17_2 := blk_frozen BK181.out 2; have hfz17_3 := blk_frozen BK181.out 3; have hfz17_4 := blk_frozen BK181.out 4)); try go_wp2_with (first | (go_at_call 31; (with_reducible refine (inst_bits.calls a1 12 3 t182 _ A11.out).mono ?_); rintro e w' ⟨rfl, ⟨nd, rfl⟩⟩; (try first | exact ⟨rfl, _, World.drewN_drewN _ _ _⟩ | exact ⟨rfl, _, Eq.trans (World.drewN_drewN _ _ _) (congrArg (World.drewN _) (Nat.add_assoc _ _ _))⟩); have hcz17_0 : wc.cell? ⟨gb181, 0, none⟩ = some (.string a0_0) := (blk_cell BK181.out 0).trans rfl; have hcz17_1 : wc.cell? ⟨gb181, 1, none⟩ = some (.int .u8 a0_1) := (blk_cell BK181.out 1).trans rfl; have hcz17_2 : wc.cell? ⟨gb181, 2, none⟩ = some (.int .u32 a0_2) := (blk_cell BK181.out 2).trans rfl; have hcz17_3 : wc.cell? ⟨gb181, 3, none⟩ = some (.int .u32 a0_3) := (blk_cell BK181.out 3).trans rfl; have hcz17_4 : wc.cell? ⟨gb181, 4, none⟩ = some (.int .u32 a0_4) := (blk_cell BK181.out 4).trans rfl; have hfz17_0 := blk_frozen BK181.out 0; have hfz17_1 := blk_frozen BK181.out 1; have hfz17_2 := blk_frozen BK181.out 2; have hfz17_3 := blk_frozen BK181.out 3; have hfz17_4 := blk_frozen BK181.out 4)))
                go_ret
                exact ⟨by first | rfl | (simp [errW_none, errW_some] <;> rfl) | (simp [*, errW_none, errW_some] <;> rfl), by repeat (first | (with_reducible first | exact HB.out | apply below_alloc | apply pw_below_drewN | apply below_drew1 | refine below_set ?_ GE181.out) | exact HB.out)⟩
          · rw [if_neg c12] at H
            have c12b0 : (t182 == a0_3) = false := beq_eq_false_iff_ne.mpr c12
            have c12b1 : (t182 != a0_3) = true := bne_iff_ne.mpr c12
            obtain rfl := Option.some.inj H
            go_wp2_with (first | (go_at_call 31; (with_reducible refine (inst_bits.calls a1 12 3 t182 _ A11.out).mono ?_); rintro e w' ⟨rfl, ⟨nd, rfl⟩⟩; (try first | exact ⟨rfl, _, World.drewN_drewN _ _ _⟩ | exact ⟨rfl, _, Eq.trans (World.drewN_drewN _ _ _) (congrArg (World.drewN _) (Nat.add_assoc _ _ _))⟩); have hcz18_0 : wc.cell? ⟨gb181, 0, none⟩ = some (.string a0_0) := (blk_cell BK181.out 0).trans rfl; have hcz18_1 : wc.cell? ⟨gb181, 1, none⟩ = some (.int .u8 a0_1) := (blk_cell BK181.out 1).trans rfl; have hcz18_2 : wc.cell? ⟨gb181, 2, none⟩ = some (.int .u32 a0_2) := (blk_cell BK181.out 2).trans rfl; have hcz18_3 : wc.cell? ⟨gb181, 3, none⟩ = some (.int .u32 a0_3) := (blk_cell BK181.out 3).trans rfl; have hcz18_4 : wc.cell? ⟨gb181, 4, none⟩ = some (.int .u32 a0_4) := (blk_cell BK181.out 4).trans rfl; have hfz18_0 := blk_frozen BK181.out 0; have hfz18_1 := blk_frozen BK181.out 1; have hfz18_2 := blk_frozen BK181.out 2; have hfz18_3 := blk_frozen BK181.out 3; have hfz18_4 := blk_frozen BK181.out 4))
            repeat (go_quiet (first | (go_at_call 31; (with_reducible refine (inst_bits.calls a1 12 3 t182 _ A11.out).mono ?_); rintro e w' ⟨rfl, ⟨nd, rfl⟩⟩; (try first | exact ⟨rfl, _, World.drewN_drewN _ _ _⟩ | exact ⟨rfl, _, Eq.trans (World.drewN_drewN _ _ _) (congrArg (World.drewN _) (Nat.add_assoc _ _ _))⟩); have hcz18_0 : wc.cell? ⟨gb181, 0, none⟩ = some (.string a0_0) := (blk_cell BK181.out 0).trans rfl; have hcz18_1 : wc.cell? ⟨gb181, 1, none⟩ = some (.int .u8 a0_1) := (blk_cell BK181.out 1).trans rfl; have hcz18_2 : wc.cell? ⟨gb181, 2, none⟩ = some (.int .u32 a0_2) := (blk_cell BK181.out 2).trans rfl; have hcz18_3 : wc.cell? ⟨gb181, 3, none⟩ = some (.int .u32 a0_3) := (blk_cell BK181.out 3).trans rfl; have hcz18_4 : wc.cell? ⟨gb181, 4, none⟩ = some (.int .u32 a0_4) := (blk_cell BK181.out 4).trans rfl; have hfz18_0 := blk_frozen BK181.out 0; have hfz18_1 := blk_frozen BK181.out 1; have hfz18_2 := blk_frozen BK181.out 2; have hfz18_3 := blk_frozen BK181.out 3; have hfz18_4 := blk_frozen BK181.out 4)); try go_wp2_with (first | (go_at_call 31; (with_reducible refine (inst_bits.calls a1 12 3 t182 _ A11.out).mono ?_); rintro e w' ⟨rfl, ⟨nd, rfl⟩⟩; (try first | exact ⟨rfl, _, World.drewN_drewN _ _ _⟩ | exact ⟨rfl, _, Eq.trans (World.drewN_drewN _ _ _) (congrArg (World.drewN _) (Nat.add_assoc _ _ _))⟩); have hcz18_0 : wc.cell? ⟨gb181, 0, none⟩ = some (.string a0_0) := (blk_cell BK181.out 0).trans rfl; have hcz18_1 : wc.cell? ⟨gb181, 1, none⟩ = some (.int .u8 a0_1) := (blk_cell BK181.out 1).trans rfl; have hcz18_2 : wc.cell? ⟨gb181, 2, none⟩ = some (.int .u32 a0_2) := (blk_cell BK181.out 2).trans rfl; have hcz18_3 : wc.cell? ⟨gb181, 3, none⟩ = some (.int .u32 a0_3) := (blk_cell BK181.out 3).trans rfl; have hcz18_4 : wc.cell? ⟨gb181, 4, none⟩ = some (.int .u32 a0_4) := (blk_cell BK181.out 4).trans rfl; have hfz18_0 := blk_frozen BK181.out 0; have hfz18_1 := blk_frozen BK181.out 1; have hfz18_2 := blk_frozen BK181.out 2; have hfz18_3 := blk_frozen BK181.out 3; have hfz18_4 := blk_frozen BK181.out 4)))
            go_ret
            exact ⟨by first | rfl | (simp [errW_none, errW_some] <;> rfl) | (simp [*, errW_none, errW_some] <;> rfl), by repeat (first | (with_reducible first | exact HB.out | apply below_alloc | apply pw_below_drewN | apply below_drew1 | refine below_set ?_ GE181.out) | exact HB.out)⟩
  · rw [if_neg c3] at H
    have c3b0 : ((Go.bits .and .u32 a1 127) == a0_2) = false := beq_eq_false_iff_ne.mpr c3
    have c3b1 : ((Go.bits .and .u32 a1 127) != a0_2) = true := bne_iff_ne.mpr c3
    obtain rfl := Option.some.inj H
    go_enter Try.func29, Try.ntmps29
    go_wp2_with (first | ((with_reducible refine gate_dst (N := 2) rfl ?_); refine box_event ?hg (N := 2) ?hd (cs := #[.string a0_0, .int .u8 a0_1, .int .u32 a0_2, .int .u32 a0_3, .int .u32 a0_4]) (t := 43) ?hr ?_; (case hd => rfl); (case hg => rfl); (case hr => first | (go_simp; done) | (go_simp; rfl)); intro gb181 hg w19 hbox hb; have n0_ := Aside0.mk (below_step (by repeat (first | (with_reducible first | exact HB.out | apply below_alloc | apply pw_below_drewN | apply below_drew1) | exact HB.out)) hb); have n1_ := Aside0.mk (hbox); have n2_ := Aside0.mk ((by rw [hg]; exact (below_size (by repeat (first | (with_reducible first | exact HB.out | apply below_alloc | apply pw_below_drewN | apply below_drew1) | exact HB.out))) : w.heap.size ≤ gb181)); have n3_ := Aside0.mk ((by rw [hg]; exact (below_size (by repeat (first | (with_reducible first | exact HB.out | apply below_alloc | apply pw_below_drewN | apply below_drew1) | exact HB.out))) : w.heap.size ≤ gb181)); clear HB; have HB := n0_; have BK181 := n1_; have GW181 := n2_; have GE181 := n3_; clear n0_ n1_ n2_ n3_; clear hb hbox hg; have hcz20_0 : w19.cell? ⟨gb181, 0, none⟩ = some (.string a0_0) := (blk_cell BK181.out 0).trans rfl; have hcz20_1 : w19.cell? ⟨gb181, 1, none⟩ = some (.int .u8 a0_1) := (blk_cell BK181.out 1).trans rfl; have hcz20_2 : w19.cell? ⟨gb181, 2, none⟩ = some (.int .u32 a0_2) := (blk_cell BK181.out 2).trans rfl; have hcz20_3 : w19.cell? ⟨gb181, 3, none⟩ = some (.int .u32 a0_3) := (blk_cell BK181.out 3).trans rfl; have hcz20_4 : w19.cell? ⟨gb181, 4, none⟩ = some (.int .u32 a0_4) := (blk_cell BK181.out 4).trans rfl; have hfz20_0 := blk_frozen BK181.out 0; have hfz20_1 := blk_frozen BK181.out 1; have hfz20_2 := blk_frozen BK181.out 2; have hfz20_3 := blk_frozen BK181.out 3; have hfz20_4 := blk_frozen BK181.out 4))
    repeat (go_quiet (first | ((with_reducible refine gate_dst (N := 2) rfl ?_); refine box_event ?hg (N := 2) ?hd (cs := #[.string a0_0, .int .u8 a0_1, .int .u32 a0_2, .int .u32 a0_3, .int .u32 a0_4]) (t := 43) ?hr ?_; (case hd => rfl); (case hg => rfl); (case hr => first | (go_simp; done) | (go_simp; rfl)); intro gb181 hg w19 hbox hb; have n0_ := Aside0.mk (below_step (by repeat (first | (with_reducible first | exact HB.out | apply below_alloc | apply pw_below_drewN | apply below_drew1) | exact HB.out)) hb); have n1_ := Aside0.mk (hbox); have n2_ := Aside0.mk ((by rw [hg]; exact (below_size (by repeat (first | (with_reducible first | exact HB.out | apply below_alloc | apply pw_below_drewN | apply below_drew1) | exact HB.out))) : w.heap.size ≤ gb181)); have n3_ := Aside0.mk ((by rw [hg]; exact (below_size (by repeat (first | (with_reducible first | exact HB.out | apply below_alloc | apply pw_below_drewN | apply below_drew1) | exact HB.out))) : w.heap.size ≤ gb181)); clear HB; have HB := n0_; have BK181 := n1_; have GW181 := n2_; have GE181 := n3_; clear n0_ n1_ n2_ n3_; clear hb hbox hg; have hcz20_0 : w19.cell? ⟨gb181, 0, none⟩ = some (.string a0_0) := (blk_cell BK181.out 0).trans rfl; have hcz20_1 : w19.cell? ⟨gb181, 1, none⟩ = some (.int .u8 a0_1) := (blk_cell BK181.out 1).trans rfl; have hcz20_2 : w19.cell? ⟨gb181, 2, none⟩ = some (.int .u32 a0_2) := (blk_cell BK181.out 2).trans rfl; have hcz20_3 : w19.cell? ⟨gb181, 3, none⟩ = some (.int .u32 a0_3) := (blk_cell BK181.out 3).trans rfl; have hcz20_4 : w19.cell? ⟨gb181, 4, none⟩ = some (.int .u32 a0_4) := (blk_cell BK181.out 4).trans rfl; have hfz20_0 := blk_frozen BK181.out 0; have hfz20_1 := blk_frozen BK181.out 1; have hfz20_2 := blk_frozen BK181.out 2; have hfz20_3 := blk_frozen BK181.out 3; have hfz20_4 := blk_frozen BK181.out 4)); try go_wp2_with (first | ((with_reducible refine gate_dst (N := 2) rfl ?_); refine box_event ?hg (N := 2) ?hd (cs := #[.string a0_0, .int .u8 a0_1, .int .u32 a0_2, .int .u32 a0_3, .int .u32 a0_4]) (t := 43) ?hr ?_; (case hd => rfl); (case hg => rfl); (case hr => first | (go_simp; done) | (go_simp; rfl)); intro gb181 hg w19 hbox hb; have n0_ := Aside0.mk (below_step (by repeat (first | (with_reducible first | exact HB.out | apply below_alloc | apply pw_below_drewN | apply below_drew1) | exact HB.out)) hb); have n1_ := Aside0.mk (hbox); have n2_ := Aside0.mk ((by rw [hg]; exact (below_size (by repeat (first | (with_reducible first | exact HB.out | apply below_alloc | apply pw_below_drewN | apply below_drew1) | exact HB.out))) : w.heap.size ≤ gb181)); have n3_ := Aside0.mk ((by rw [hg]; exact (below_size (by repeat (first | (with_reducible first | exact HB.out | apply below_alloc | apply pw_below_drewN | apply below_drew1) | exact HB.out))) : w.heap.size ≤ gb181)); clear HB; have HB := n0_; have BK181 := n1_; have GW181 := n2_; have GE181 := n3_; clear n0_ n1_ n2_ n3_; clear hb hbox hg; have hcz20_0 : w19.cell? ⟨gb181, 0, none⟩ = some (.string a0_0) := (blk_cell BK181.out 0).trans rfl; have hcz20_1 : w19.cell? ⟨gb181, 1, none⟩ = some (.int .u8 a0_1) := (blk_cell BK181.out 1).trans rfl; have hcz20_2 : w19.cell? ⟨gb181, 2, none⟩ = some (.int .u32 a0_2) := (blk_cell BK181.out 2).trans rfl; have hcz20_3 : w19.cell? ⟨gb181, 3, none⟩ = some (.int .u32 a0_3) := (blk_cell BK181.out 3).trans rfl; have hcz20_4 : w19.cell? ⟨gb181, 4, none⟩ = some (.int .u32 a0_4) := (blk_cell BK181.out 4).trans rfl; have hfz20_0 := blk_frozen BK181.out 0; have hfz20_1 := blk_frozen BK181.out 1; have hfz20_2 := blk_frozen BK181.out 2; have hfz20_3 := blk_frozen BK181.out 3; have hfz20_4 := blk_frozen BK181.out 4)))
    go_ret
    exact ⟨by first | rfl | (simp [errW_none, errW_some] <;> rfl) | (simp [*, errW_none, errW_some] <;> rfl), by repeat (first | (with_reducible first | exact HB.out | apply below_alloc | apply pw_below_drewN | apply below_drew1 | refine below_set ?_ GE181.out) | exact HB.out)⟩
def word_Sign.f (a0 : Int) (a1 : Int) : Option (Int) := if a1 < 1 then (some a0) else (if a1 > 31 then (some a0) else (if 0 ≤ (wrap64 (32 - a1)) then (some ((shr .i32 (wrap32 (shl .u32 a0 (wrap64 (32 - a1)))) (wrap64 (32 - a1))) % 4294967296)) else (none)))
set_option maxHeartbeats 8000000 in
set_option maxRecDepth 100000 in
theorem word_Sign.calls (a0 : Int) (a1 : Int) (r : Int) (w : World) (h : word_Sign.f a0 a1 = some r) :
    Calls Try.prog 39 #[.int .u32 a0, .int .i64 a1] w fun e w' => e = .returned (.int .u32 r) ∧ Drawn0 w w' := by
  have H : (if a1 < 1 then (some a0) else (if a1 > 31 then (some a0) else (if 0 ≤ (wrap64 (32 - a1)) then (some ((shr .i32 (wrap32 (shl .u32 a0 (wrap64 (32 - a1)))) (wrap64 (32 - a1))) % 4294967296)) else (none)))) = some r := h
  clear h
  by_cases c3 : a1 < 1
  · rw [if_pos c3] at H
    have c3b0 : decide (a1 < 1) = true := decide_eq_true c3
    clear c3
    obtain rfl := Option.some.inj H
    go_enter Try.func39, Try.ntmps39
    go_wp2
    go_ret
    exact ⟨by first | rfl | (simp; done) | (simp [*]; done), by repeat (first | exact Drawn0.refl _ | apply Drawn0.step)⟩
  · rw [if_neg c3] at H
    have c3b0 : decide (a1 < 1) = false := decide_eq_false c3
    clear c3
    by_cases c4 : a1 > 31
    · rw [if_pos c4] at H
      have c4b0 : decide (31 < a1) = true := decide_eq_true c4
      clear c4
      obtain rfl := Option.some.inj H
      go_enter Try.func39, Try.ntmps39
      go_wp2
      go_ret
      exact ⟨by first | rfl | (simp; done) | (simp [*]; done), by repeat (first | exact Drawn0.refl _ | apply Drawn0.step)⟩
    · rw [if_neg c4] at H
      have c4b0 : decide (31 < a1) = false := decide_eq_false c4
      clear c4
      obtain ⟨ji5, hji5⟩ : ∃ j_ : Int, (wrap64 (32 - a1)) = j_ := ⟨_, rfl⟩
      replace H : (if 0 ≤ (ji5) then (some ((shr .i32 (wrap32 (shl .u32 a0 (ji5))) (ji5)) % 4294967296)) else (none)) = some r := by first | (rw [hji5] at H; exact H) | (simp only [hji5] at H ⊢; exact H)
      have hji5w : (IntKind.i64.wrap (32 - a1)) = ji5 := (i64_w _).trans hji5
      by_cases c6 : 0 ≤ (ji5)
      · rw [if_pos c6] at H
        have c6b0 := eq_true c6
        have c6b1 : decide (0 ≤ (ji5)) = true := decide_eq_true c6
        clear c6
        obtain ⟨ji7, hji7⟩ : ∃ j_ : Int, (shl .u32 a0 (ji5)) = j_ := ⟨_, rfl⟩
        replace H : (some ((shr .i32 (wrap32 (ji7)) (ji5)) % 4294967296)) = some r := by first | (rw [hji7] at H; exact H) | (simp only [hji7] at H ⊢; exact H)
        have hji7_ : (IntKind.u32.wrap (a0 * 2 ^ min (ji5).toNat 32)) = ji7 := hji7
        have hji7z : (ji5) ≤ 32 → (IntKind.u32.wrap (a0 * 2 ^ (ji5).toNat)) = ji7 := shl_small hji7
        have c8b0 := eq_true (of_decide_eq_true (by first | (with_reducible assumption) | assumption) : 0 ≤ (ji5))
        obtain ⟨ji9, hji9⟩ : ∃ j_ : Int, (shr .i32 (wrap32 (ji7)) (ji5)) = j_ := ⟨_, rfl⟩
        replace H : (some ((ji9) % 4294967296)) = some r := by first | (rw [hji9] at H; exact H) | (simp only [hji9] at H ⊢; exact H)
        have hji9_ : ((wrap32 (ji7)) / 2 ^ min (ji5).toNat 32) = ji9 := hji9
        have hji9z : (ji5) ≤ 32 → ((wrap32 (ji7)) / 2 ^ (ji5).toNat) = ji9 := shr_small hji9
        obtain rfl := Option.some.inj H
        go_enter Try.func39, Try.ntmps39
        go_wp2
        go_ret
        exact ⟨by first | rfl | (simp; done) | (simp only [← hji5, ← hji7, ← hji9] <;> (first | rfl | simp)) | (simp [*]; done), by repeat (first | exact Drawn0.refl _ | apply Drawn0.step)⟩
      · rw [if_neg c6] at H
        exact absurd H (by simp)
end Go.Proofs.Ytjanolcelfjgeaa.P
end
section
namespace Go.Proofs.Ytjanolcelfjgeaa.P
open Go.RowKit Go.Proofs.YtjanolcelfjgeaaW.PrintWords Go.Proofs.YtjanolcelfjgeaaW.PrintLast Go.Proofs.YtjanolcelfjgeaaW.PrintMore
attribute [local go_sem] max2_int min2_int max_two min_two max_three min_three max_four min_four   
set_option linter.unusedVariables false
set_option linter.unusedSimpArgs false
attribute [local go_sem high] eqA23
def inst_told.f (a0 : Int) (a1 : Int) : Option (Int) := if a0 = 85 then (some (wrap64 (wrap32 (Go.bits .andNot .u32 a1 4095)))) else (if a0 = 74 then ((inst_bits.f a1 31 1).bind fun t183 => ((inst_bits.f a1 21 10).bind fun t184 => ((inst_bits.f a1 20 1).bind fun t185 => ((inst_bits.f a1 12 8).bind fun t186 => ((word_Sign.f (Go.bits .or .u32 (Go.bits .or .u32 (Go.bits .or .u32 ((t183 * 1048576) % 4294967296) ((t184 * 2) % 4294967296)) ((t185 * 2048) % 4294967296)) ((t186 * 4096) % 4294967296)) 21).bind fun t187 => (some (wrap64 (wrap32 (t187))))))))) else (if a0 = 73 then (some (wrap64 ((wrap32 (a1)) / 1048576))) else (if a0 = 72 then ((inst_bits.f a1 20 5).bind fun t188 => (some (wrap64 (t188)))) else (if a0 = 83 then ((inst_bits.f a1 25 7).bind fun t189 => ((inst_bits.f a1 7 5).bind fun t190 => ((word_Sign.f (Go.bits .or .u32 ((t189 * 32) % 4294967296) t190) 12).bind fun t191 => (some (wrap64 (wrap32 (t191))))))) else (if a0 = 66 then ((inst_bits.f a1 31 1).bind fun t192 => ((inst_bits.f a1 25 6).bind fun t193 => ((inst_bits.f a1 8 4).bind fun t194 => ((inst_bits.f a1 7 1).bind fun t195 => ((word_Sign.f (Go.bits .or .u32 (Go.bits .or .u32 (Go.bits .or .u32 ((t192 * 4096) % 4294967296) ((t193 * 32) % 4294967296)) ((t194 * 2) % 4294967296)) ((t195 * 2048) % 4294967296)) 13).bind fun t196 => (some (wrap64 (wrap32 (t196))))))))) else (some 0))))))
set_option maxHeartbeats 8000000 in
set_option maxRecDepth 100000 in
theorem inst_told.calls (a0 : Int) (a1 : Int) (r : Int) (w : World) (h : inst_told.f a0 a1 = some r) :
    Calls Try.prog 30 #[.int .u8 a0, .int .u32 a1] w fun e w' => e = .returned (.int .i64 r) ∧ Drawn0 w w' := by
  have H : (if a0 = 85 then (some (wrap64 (wrap32 (Go.bits .andNot .u32 a1 4095)))) else (if a0 = 74 then ((inst_bits.f a1 31 1).bind fun t183 => ((inst_bits.f a1 21 10).bind fun t184 => ((inst_bits.f a1 20 1).bind fun t185 => ((inst_bits.f a1 12 8).bind fun t186 => ((word_Sign.f (Go.bits .or .u32 (Go.bits .or .u32 (Go.bits .or .u32 ((t183 * 1048576) % 4294967296) ((t184 * 2) % 4294967296)) ((t185 * 2048) % 4294967296)) ((t186 * 4096) % 4294967296)) 21).bind fun t187 => (some (wrap64 (wrap32 (t187))))))))) else (if a0 = 73 then (some (wrap64 ((wrap32 (a1)) / 1048576))) else (if a0 = 72 then ((inst_bits.f a1 20 5).bind fun t188 => (some (wrap64 (t188)))) else (if a0 = 83 then ((inst_bits.f a1 25 7).bind fun t189 => ((inst_bits.f a1 7 5).bind fun t190 => ((word_Sign.f (Go.bits .or .u32 ((t189 * 32) % 4294967296) t190) 12).bind fun t191 => (some (wrap64 (wrap32 (t191))))))) else (if a0 = 66 then ((inst_bits.f a1 31 1).bind fun t192 => ((inst_bits.f a1 25 6).bind fun t193 => ((inst_bits.f a1 8 4).bind fun t194 => ((inst_bits.f a1 7 1).bind fun t195 => ((word_Sign.f (Go.bits .or .u32 (Go.bits .or .u32 (Go.bits .or .u32 ((t192 * 4096) % 4294967296) ((t193 * 32) % 4294967296)) ((t194 * 2) % 4294967296)) ((t195 * 2048) % 4294967296)) 13).bind fun t196 => (some (wrap64 (wrap32 (t196))))))))) else (some 0))))))) = some r := h
  clear h
  by_cases c3 : a0 = 85
  · rw [if_pos c3] at H
    have c3b0 : (a0 == 85) = true := beq_iff_eq.mpr c3
    have c3b1 : (a0 != 85) = false := bne_eq_false_iff_eq.mpr c3
    clear c3
    obtain rfl := Option.some.inj H
    go_enter Try.func30, Try.ntmps30
    go_wp2
    go_ret
    exact ⟨by first | rfl | (simp; done) | (simp [*]; done), by repeat (first | exact Drawn0.refl _ | apply Drawn0.step)⟩
  · rw [if_neg c3] at H
    have c3b0 : (a0 == 85) = false := beq_eq_false_iff_ne.mpr c3
    have c3b1 : (a0 != 85) = true := bne_iff_ne.mpr c3
    by_cases c4 : a0 = 74
    · rw [if_pos c4] at H
      have c4b0 : (a0 == 74) = true := beq_iff_eq.mpr c4
      have c4b1 : (a0 != 74) = false := bne_eq_false_iff_eq.mpr c4
      clear c4
      replace H := Option.bind_eq_some_iff.mp H
      obtain ⟨t183, A50, H⟩ := H
      replace H : ((inst_bits.f a1 21 10).bind fun t184 => ((inst_bits.f a1 20 1).bind fun t185 => ((inst_bits.f a1 12 8).bind fun t186 => ((word_Sign.f (Go.bits .or .u32 (Go.bits .or .u32 (Go.bits .or .u32 ((t183 * 1048576) % 4294967296) ((t184 * 2) % 4294967296)) ((t185 * 2048) % 4294967296)) ((t186 * 4096) % 4294967296)) 21).bind fun t187 => (some (wrap64 (wrap32 (t187)))))))) = some r := H
      have A5 := Aside0.mk A50
      clear A50
      replace H := Option.bind_eq_some_iff.mp H
      obtain ⟨t184, A60, H⟩ := H
      replace H : ((inst_bits.f a1 20 1).bind fun t185 => ((inst_bits.f a1 12 8).bind fun t186 => ((word_Sign.f (Go.bits .or .u32 (Go.bits .or .u32 (Go.bits .or .u32 ((t183 * 1048576) % 4294967296) ((t184 * 2) % 4294967296)) ((t185 * 2048) % 4294967296)) ((t186 * 4096) % 4294967296)) 21).bind fun t187 => (some (wrap64 (wrap32 (t187))))))) = some r := H
      have A6 := Aside0.mk A60
      clear A60
      replace H := Option.bind_eq_some_iff.mp H
      obtain ⟨t185, A70, H⟩ := H
      replace H : ((inst_bits.f a1 12 8).bind fun t186 => ((word_Sign.f (Go.bits .or .u32 (Go.bits .or .u32 (Go.bits .or .u32 ((t183 * 1048576) % 4294967296) ((t184 * 2) % 4294967296)) ((t185 * 2048) % 4294967296)) ((t186 * 4096) % 4294967296)) 21).bind fun t187 => (some (wrap64 (wrap32 (t187)))))) = some r := H
      have A7 := Aside0.mk A70
      clear A70
      replace H := Option.bind_eq_some_iff.mp H
      obtain ⟨t186, A80, H⟩ := H
      replace H : ((word_Sign.f (Go.bits .or .u32 (Go.bits .or .u32 (Go.bits .or .u32 ((t183 * 1048576) % 4294967296) ((t184 * 2) % 4294967296)) ((t185 * 2048) % 4294967296)) ((t186 * 4096) % 4294967296)) 21).bind fun t187 => (some (wrap64 (wrap32 (t187))))) = some r := H
      have A8 := Aside0.mk A80
      clear A80
      replace H := Option.bind_eq_some_iff.mp H
      obtain ⟨t187, A90, H⟩ := H
      replace H : (some (wrap64 (wrap32 (t187)))) = some r := H
      have A9 := Aside0.mk A90
      clear A90
      obtain rfl := Option.some.inj H
      go_enter Try.func30, Try.ntmps30
      go_wp2_with (first | ((with_reducible refine gate_callee (f := 31) rfl ?_); refine goesL_ (some 17) rfl rfl Try.func31 (by kernel_rfl) rfl #[.int .u32 a1, .int .i64 31, .int .i64 1] rfl (by (try simp only [List.map_toArray, List.map_cons, List.map_nil]); first | done | rfl | (simp only [List.length_drop, List.length_take]; rfl)) ?_; (with_reducible refine (inst_bits.calls a1 31 1 t183 _ A5.out).mono ?_); rintro e w' ⟨rfl, ⟨nd, rfl⟩⟩; refine ⟨_, rfl, ?_⟩) | ((with_reducible refine gate_callee (f := 31) rfl ?_); refine goesL_ (some 20) rfl rfl Try.func31 (by kernel_rfl) rfl #[.int .u32 a1, .int .i64 21, .int .i64 10] rfl (by (try simp only [List.map_toArray, List.map_cons, List.map_nil]); first | done | rfl | (simp only [List.length_drop, List.length_take]; rfl)) ?_; (with_reducible refine (inst_bits.calls a1 21 10 t184 _ A6.out).mono ?_); rintro e w' ⟨rfl, ⟨nd, rfl⟩⟩; refine ⟨_, rfl, ?_⟩) | ((with_reducible refine gate_callee (f := 31) rfl ?_); refine goesL_ (some 24) rfl rfl Try.func31 (by kernel_rfl) rfl #[.int .u32 a1, .int .i64 20, .int .i64 1] rfl (by (try simp only [List.map_toArray, List.map_cons, List.map_nil]); first | done | rfl | (simp only [List.length_drop, List.length_take]; rfl)) ?_; (with_reducible refine (inst_bits.calls a1 20 1 t185 _ A7.out).mono ?_); rintro e w' ⟨rfl, ⟨nd, rfl⟩⟩; refine ⟨_, rfl, ?_⟩) | ((with_reducible refine gate_callee (f := 31) rfl ?_); refine goesL_ (some 28) rfl rfl Try.func31 (by kernel_rfl) rfl #[.int .u32 a1, .int .i64 12, .int .i64 8] rfl (by (try simp only [List.map_toArray, List.map_cons, List.map_nil]); first | done | rfl | (simp only [List.length_drop, List.length_take]; rfl)) ?_; (with_reducible refine (inst_bits.calls a1 12 8 t186 _ A8.out).mono ?_); rintro e w' ⟨rfl, ⟨nd, rfl⟩⟩; refine ⟨_, rfl, ?_⟩) | ((with_reducible refine gate_callee (f := 39) rfl ?_); refine goesL_ (some 32) rfl rfl Try.func39 (by kernel_rfl) rfl #[.int .u32 (Go.bits .or .u32 (Go.bits .or .u32 (Go.bits .or .u32 ((t183 * 1048576) % 4294967296) ((t184 * 2) % 4294967296)) ((t185 * 2048) % 4294967296)) ((t186 * 4096) % 4294967296)), .int .i64 21] rfl (by (try simp only [List.map_toArray, List.map_cons, List.map_nil]); first | done | rfl | (simp only [List.length_drop, List.length_take]; rfl)) ?_; (with_reducible refine (word_Sign.calls (Go.bits .or .u32 (Go.bits .or .u32 (Go.bits .or .u32 ((t183 * 1048576) % 4294967296) ((t184 * 2) % 4294967296)) ((t185 * 2048) % 4294967296)) ((t186 * 4096) % 4294967296)) 21 t187 _ A9.out).mono ?_); rintro e w' ⟨rfl, ⟨nd, rfl⟩⟩; refine ⟨_, rfl, ?_⟩))
      go_ret
      exact ⟨by first | rfl | (simp; done) | (simp [*]; done), by repeat (first | exact Drawn0.refl _ | apply Drawn0.step)⟩
    · rw [if_neg c4] at H
      have c4b0 : (a0 == 74) = false := beq_eq_false_iff_ne.mpr c4
      have c4b1 : (a0 != 74) = true := bne_iff_ne.mpr c4
      by_cases c10 : a0 = 73
      · rw [if_pos c10] at H
        have c10b0 : (a0 == 73) = true := beq_iff_eq.mpr c10
        have c10b1 : (a0 != 73) = false := bne_eq_false_iff_eq.mpr c10
        clear c10
        obtain rfl := Option.some.inj H
        go_enter Try.func30, Try.ntmps30
        go_wp2
        go_ret
        exact ⟨by first | rfl | (simp; done) | (simp [*]; done), by repeat (first | exact Drawn0.refl _ | apply Drawn0.step)⟩
      · rw [if_neg c10] at H
        have c10b0 : (a0 == 73) = false := beq_eq_false_iff_ne.mpr c10
        have c10b1 : (a0 != 73) = true := bne_iff_ne.mpr c10
        by_cases c11 : a0 = 72
        · rw [if_pos c11] at H
          have c11b0 : (a0 == 72) = true := beq_iff_eq.mpr c11
          have c11b1 : (a0 != 72) = false := bne_eq_false_iff_eq.mpr c11
          clear c11
          replace H := Option.bind_eq_some_iff.mp H
          obtain ⟨t188, A120, H⟩ := H
          replace H : (some (wrap64 (t188))) = some r := H
          have A12 := Aside0.mk A120
          clear A120
          obtain rfl := Option.some.inj H
          go_enter Try.func30, Try.ntmps30
          go_wp2_with (first | ((with_reducible refine gate_callee (f := 31) rfl ?_); refine goesL_ (some 44) rfl rfl Try.func31 (by kernel_rfl) rfl #[.int .u32 a1, .int .i64 20, .int .i64 5] rfl (by (try simp only [List.map_toArray, List.map_cons, List.map_nil]); first | done | rfl | (simp only [List.length_drop, List.length_take]; rfl)) ?_; (with_reducible refine (inst_bits.calls a1 20 5 t188 _ A12.out).mono ?_); rintro e w' ⟨rfl, ⟨nd, rfl⟩⟩; refine ⟨_, rfl, ?_⟩))
          go_ret
          exact ⟨by first | rfl | (simp; done) | (simp [*]; done), by repeat (first | exact Drawn0.refl _ | apply Drawn0.step)⟩
        · rw [if_neg c11] at H
          have c11b0 : (a0 == 72) = false := beq_eq_false_iff_ne.mpr c11
          have c11b1 : (a0 != 72) = true := bne_iff_ne.mpr c11
          by_cases c13 : a0 = 83
          · rw [if_pos c13] at H
            have c13b0 : (a0 == 83) = true := beq_iff_eq.mpr c13
            have c13b1 : (a0 != 83) = false := bne_eq_false_iff_eq.mpr c13
            clear c13
            replace H := Option.bind_eq_some_iff.mp H
            obtain ⟨t189, A140, H⟩ := H
            replace H : ((inst_bits.f a1 7 5).bind fun t190 => ((word_Sign.f (Go.bits .or .u32 ((t189 * 32) % 4294967296) t190) 12).bind fun t191 => (some (wrap64 (wrap32 (t191)))))) = some r := H
            have A14 := Aside0.mk A140
            clear A140
            replace H := Option.bind_eq_some_iff.mp H
            obtain ⟨t190, A150, H⟩ := H
            replace H : ((word_Sign.f (Go.bits .or .u32 ((t189 * 32) % 4294967296) t190) 12).bind fun t191 => (some (wrap64 (wrap32 (t191))))) = some r := H
            have A15 := Aside0.mk A150
            clear A150
            replace H := Option.bind_eq_some_iff.mp H
            obtain ⟨t191, A160, H⟩ := H
            replace H : (some (wrap64 (wrap32 (t191)))) = some r := H
            have A16 := Aside0.mk A160
            clear A160
            obtain rfl := Option.some.inj H
            go_enter Try.func30, Try.ntmps30
            go_wp2_with (first | ((with_reducible refine gate_callee (f := 31) rfl ?_); refine goesL_ (some 49) rfl rfl Try.func31 (by kernel_rfl) rfl #[.int .u32 a1, .int .i64 25, .int .i64 7] rfl (by (try simp only [List.map_toArray, List.map_cons, List.map_nil]); first | done | rfl | (simp only [List.length_drop, List.length_take]; rfl)) ?_; (with_reducible refine (inst_bits.calls a1 25 7 t189 _ A14.out).mono ?_); rintro e w' ⟨rfl, ⟨nd, rfl⟩⟩; refine ⟨_, rfl, ?_⟩) | ((with_reducible refine gate_callee (f := 31) rfl ?_); refine goesL_ (some 52) rfl rfl Try.func31 (by kernel_rfl) rfl #[.int .u32 a1, .int .i64 7, .int .i64 5] rfl (by (try simp only [List.map_toArray, List.map_cons, List.map_nil]); first | done | rfl | (simp only [List.length_drop, List.length_take]; rfl)) ?_; (with_reducible refine (inst_bits.calls a1 7 5 t190 _ A15.out).mono ?_); rintro e w' ⟨rfl, ⟨nd, rfl⟩⟩; refine ⟨_, rfl, ?_⟩) | ((with_reducible refine gate_callee (f := 39) rfl ?_); refine goesL_ (some 54) rfl rfl Try.func39 (by kernel_rfl) rfl #[.int .u32 (Go.bits .or .u32 ((t189 * 32) % 4294967296) t190), .int .i64 12] rfl (by (try simp only [List.map_toArray, List.map_cons, List.map_nil]); first | done | rfl | (simp only [List.length_drop, List.length_take]; rfl)) ?_; (with_reducible refine (word_Sign.calls (Go.bits .or .u32 ((t189 * 32) % 4294967296) t190) 12 t191 _ A16.out).mono ?_); rintro e w' ⟨rfl, ⟨nd, rfl⟩⟩; refine ⟨_, rfl, ?_⟩))
            go_ret
            exact ⟨by first | rfl | (simp; done) | (simp [*]; done), by repeat (first | exact Drawn0.refl _ | apply Drawn0.step)⟩
          · rw [if_neg c13] at H
            have c13b0 : (a0 == 83) = false := beq_eq_false_iff_ne.mpr c13
            have c13b1 : (a0 != 83) = true := bne_iff_ne.mpr c13
            by_cases c17 : a0 = 66
            · rw [if_pos c17] at H
              have c17b0 : (a0 == 66) = true := beq_iff_eq.mpr c17
              have c17b1 : (a0 != 66) = false := bne_eq_false_iff_eq.mpr c17
              clear c17
              replace H := Option.bind_eq_some_iff.mp H
              obtain ⟨t192, A180, H⟩ := H
              replace H : ((inst_bits.f a1 25 6).bind fun t193 => ((inst_bits.f a1 8 4).bind fun t194 => ((inst_bits.f a1 7 1).bind fun t195 => ((word_Sign.f (Go.bits .or .u32 (Go.bits .or .u32 (Go.bits .or .u32 ((t192 * 4096) % 4294967296) ((t193 * 32) % 4294967296)) ((t194 * 2) % 4294967296)) ((t195 * 2048) % 4294967296)) 13).bind fun t196 => (some (wrap64 (wrap32 (t196)))))))) = some r := H
              have A18 := Aside0.mk A180
              clear A180
              replace H := Option.bind_eq_some_iff.mp H
              obtain ⟨t193, A190, H⟩ := H
              replace H : ((inst_bits.f a1 8 4).bind fun t194 => ((inst_bits.f a1 7 1).bind fun t195 => ((word_Sign.f (Go.bits .or .u32 (Go.bits .or .u32 (Go.bits .or .u32 ((t192 * 4096) % 4294967296) ((t193 * 32) % 4294967296)) ((t194 * 2) % 4294967296)) ((t195 * 2048) % 4294967296)) 13).bind fun t196 => (some (wrap64 (wrap32 (t196))))))) = some r := H
              have A19 := Aside0.mk A190
              clear A190
              replace H := Option.bind_eq_some_iff.mp H
              obtain ⟨t194, A200, H⟩ := H
              replace H : ((inst_bits.f a1 7 1).bind fun t195 => ((word_Sign.f (Go.bits .or .u32 (Go.bits .or .u32 (Go.bits .or .u32 ((t192 * 4096) % 4294967296) ((t193 * 32) % 4294967296)) ((t194 * 2) % 4294967296)) ((t195 * 2048) % 4294967296)) 13).bind fun t196 => (some (wrap64 (wrap32 (t196)))))) = some r := H
              have A20 := Aside0.mk A200
              clear A200
              replace H := Option.bind_eq_some_iff.mp H
              obtain ⟨t195, A210, H⟩ := H
              replace H : ((word_Sign.f (Go.bits .or .u32 (Go.bits .or .u32 (Go.bits .or .u32 ((t192 * 4096) % 4294967296) ((t193 * 32) % 4294967296)) ((t194 * 2) % 4294967296)) ((t195 * 2048) % 4294967296)) 13).bind fun t196 => (some (wrap64 (wrap32 (t196))))) = some r := H
              have A21 := Aside0.mk A210
              clear A210
              replace H := Option.bind_eq_some_iff.mp H
              obtain ⟨t196, A220, H⟩ := H
              replace H : (some (wrap64 (wrap32 (t196)))) = some r := H
              have A22 := Aside0.mk A220
              clear A220
              obtain rfl := Option.some.inj H
              go_enter Try.func30, Try.ntmps30
              go_wp2_with (first | ((with_reducible refine gate_callee (f := 31) rfl ?_); refine goesL_ (some 60) rfl rfl Try.func31 (by kernel_rfl) rfl #[.int .u32 a1, .int .i64 31, .int .i64 1] rfl (by (try simp only [List.map_toArray, List.map_cons, List.map_nil]); first | done | rfl | (simp only [List.length_drop, List.length_take]; rfl)) ?_; (with_reducible refine (inst_bits.calls a1 31 1 t192 _ A18.out).mono ?_); rintro e w' ⟨rfl, ⟨nd, rfl⟩⟩; refine ⟨_, rfl, ?_⟩) | ((with_reducible refine gate_callee (f := 31) rfl ?_); refine goesL_ (some 63) rfl rfl Try.func31 (by kernel_rfl) rfl #[.int .u32 a1, .int .i64 25, .int .i64 6] rfl (by (try simp only [List.map_toArray, List.map_cons, List.map_nil]); first | done | rfl | (simp only [List.length_drop, List.length_take]; rfl)) ?_; (with_reducible refine (inst_bits.calls a1 25 6 t193 _ A19.out).mono ?_); rintro e w' ⟨rfl, ⟨nd, rfl⟩⟩; refine ⟨_, rfl, ?_⟩) | ((with_reducible refine gate_callee (f := 31) rfl ?_); refine goesL_ (some 67) rfl rfl Try.func31 (by kernel_rfl) rfl #[.int .u32 a1, .int .i64 8, .int .i64 4] rfl (by (try simp only [List.map_toArray, List.map_cons, List.map_nil]); first | done | rfl | (simp only [List.length_drop, List.length_take]; rfl)) ?_; (with_reducible refine (inst_bits.calls a1 8 4 t194 _ A20.out).mono ?_); rintro e w' ⟨rfl, ⟨nd, rfl⟩⟩; refine ⟨_, rfl, ?_⟩) | ((with_reducible refine gate_callee (f := 31) rfl ?_); refine goesL_ (some 71) rfl rfl Try.func31 (by kernel_rfl) rfl #[.int .u32 a1, .int .i64 7, .int .i64 1] rfl (by (try simp only [List.map_toArray, List.map_cons, List.map_nil]); first | done | rfl | (simp only [List.length_drop, List.length_take]; rfl)) ?_; (with_reducible refine (inst_bits.calls a1 7 1 t195 _ A21.out).mono ?_); rintro e w' ⟨rfl, ⟨nd, rfl⟩⟩; refine ⟨_, rfl, ?_⟩) | ((with_reducible refine gate_callee (f := 39) rfl ?_); refine goesL_ (some 75) rfl rfl Try.func39 (by kernel_rfl) rfl #[.int .u32 (Go.bits .or .u32 (Go.bits .or .u32 (Go.bits .or .u32 ((t192 * 4096) % 4294967296) ((t193 * 32) % 4294967296)) ((t194 * 2) % 4294967296)) ((t195 * 2048) % 4294967296)), .int .i64 13] rfl (by (try simp only [List.map_toArray, List.map_cons, List.map_nil]); first | done | rfl | (simp only [List.length_drop, List.length_take]; rfl)) ?_; (with_reducible refine (word_Sign.calls (Go.bits .or .u32 (Go.bits .or .u32 (Go.bits .or .u32 ((t192 * 4096) % 4294967296) ((t193 * 32) % 4294967296)) ((t194 * 2) % 4294967296)) ((t195 * 2048) % 4294967296)) 13 t196 _ A22.out).mono ?_); rintro e w' ⟨rfl, ⟨nd, rfl⟩⟩; refine ⟨_, rfl, ?_⟩))
              go_ret
              exact ⟨by first | rfl | (simp; done) | (simp [*]; done), by repeat (first | exact Drawn0.refl _ | apply Drawn0.step)⟩
            · rw [if_neg c17] at H
              have c17b0 : (a0 == 66) = false := beq_eq_false_iff_ne.mpr c17
              have c17b1 : (a0 != 66) = true := bne_iff_ne.mpr c17
              obtain rfl := Option.some.inj H
              go_enter Try.func30, Try.ntmps30
              go_wp2
              go_ret
              exact ⟨by first | rfl | (simp; done) | (simp [*]; done), by repeat (first | exact Drawn0.refl _ | apply Drawn0.step)⟩
def inst_Decode.found (k : Nat) (a0 x : Int) (s : List UInt8 × Int × Int × Int × Int) : Option (Int × Int × Int × Int × Int × Int) :=
  (inst_told.f s.2.1 a0).bind fun m => (inst_needs.f k s.2.1).bind fun b =>
    (if b.1 = true then (inst_bits.f a0 7 5).bind (fun t => some (wrap64 t)) else some 0).bind fun rd =>
    (if b.2.1 = true then (inst_bits.f a0 15 5).bind (fun t => some (wrap64 t)) else some 0).bind fun rs1 =>
    (if b.2.2.1 = true then (inst_bits.f a0 20 5).bind (fun t => some (wrap64 t)) else some 0).bind fun rs2 =>
    some (x, rd, rs1, rs2, m, 0)
def inst_Decode.l0 : Nat → Int → Int → Option (Int × Int × Int × Int × Int × Int)
  | 0, _, _ => none
  | k + 1, a0, x => if x ≤ 45 then
      (inst_fits.f k ⟨(shapeOf x).1.toArray⟩ (shapeOf x).2.1 (shapeOf x).2.2.1 (shapeOf x).2.2.2.1 (shapeOf x).2.2.2.2 a0).bind fun t =>
        if t = true then inst_Decode.found k a0 x (shapeOf x) else inst_Decode.l0 k a0 (x + 1)
    else some (0, 0, 0, 0, 0, 3)
def inst_Decode.f (k : Nat) (a0 : Int) : Option (Int × Int × Int × Int × Int × Int) := inst_Decode.l0 k a0 1
theorem flat5 {α : Type} (f : α → List Value) (hf : ∀ x, (f x).length = 5) (z : α) : ∀ (l : List α) (n j : Nat), n < l.length → j < 5 → ((l.map f).flatten)[n * 5 + j]? = (f (l.getD n z))[j]? := by
  intro l
  induction l with
  | nil => intro n j h; simp at h
  | cons x xs ih =>
    intro n j h hj
    have hx := hf x
    cases n with
    | zero =>
      simp only [List.map_cons, List.flatten_cons, Nat.zero_mul, Nat.zero_add, List.getD_cons_zero]
      rw [List.getElem?_append_left (by omega)]
    | succ n =>
      simp only [List.map_cons, List.flatten_cons, List.getD_cons_succ]
      rw [List.getElem?_append_right (by omega)]
      rw [show (n + 1) * 5 + j - (f x).length = n * 5 + j from by omega]
      exact ih n j (by simpa using h) hj
theorem shapes_parts (n : Nat) (hn : n < 46) (j : Nat) (hj : j < 5) : shapes230[n * 5 + j]? = (shapeRow (shapes.getD n noShape))[j]? := by
  unfold shapes230
  rw [List.getElem?_toArray]
  exact flat5 shapeRow (fun x => rfl) noShape shapes n j (by simpa [shapes] using hn) hj
set_option maxHeartbeats 1000000 in
set_option maxRecDepth 100000 in
theorem inst_Decode.calls (k : Nat) (a0 : Int) (r1 : Int) (r2 : Int) (r3 : Int) (r4 : Int) (r5 : Int) (r6 : Int) (w : World) (h : inst_Decode.f k a0 = some (r1, r2, r3, r4, r5, r6)) :
    Calls Try.prog 13 #[.int .u32 a0] w fun e w' => e = .returned (.tuple #[.agg #[.int .i64 r1, .int .i64 r2, .int .i64 r3, .int .i64 r4, .int .i64 r5], .int .i64 r6]) ∧ Below w.heap.size w w' := by
  have hu23 := Try.underlying23
  have hu43 := Try.underlying43
  have hz := (zero_of_info info52).1
  have H := Aside0.mk h
  clear h
  go_enter Try.func13, Try.ntmps13
  go_wp2_with (go_at_call 28; refine (table_calls _).mono ?_; rintro e w' ⟨rfl, hb⟩; have HB := Aside0.mk hb; clear hb; have hst := run_storeCells_new (P := Try.prog) w' 52 zeros230 shapes230 size52 rfl one52)

  clear hst
  have hgT : w.heap.size < w'.heap.size := by have := HB.out.size; simp at this; omega
  have HR := Aside0.mk (show (w'.alloc (.cells shapes230 52)).heap[w.heap.size]? = some (.cells #[.int .i64 0, .int .i64 0, .int .i64 0, .int .i64 0, .int .i64 0] 23 (0, 0)) from blk_alloc ((HB.out.block _ (by simp)).trans (heap_alloc_last w _)) _)
  have HT := Aside0.mk (show (w'.alloc (.cells shapes230 52)).heap[w'.heap.size]? = some (.cells shapes230 52 (0, 0)) from heap_alloc_last w' _)
  have HW := Aside0.mk (show Below w.heap.size w (w'.alloc (.cells shapes230 52)) from below_alloc (((Below.refl _ _).alloc (Nat.le_refl _) _).trans (HB.out.mono (by simp))) _)
  clear HB
  generalize hgt : w'.heap.size = gT at *
  clear hgt
  go_loopw [5] (fun v wr => ∃ (n kq : Nat), v = .int .i64 (n : Int) ∧ 1 ≤ n ∧ n ≤ 46 ∧ Aside0 (inst_Decode.l0 kq a0 (n : Int) = some (r1, r2, r3, r4, r5, r6)) ∧ Aside0 (wr.heap[w.heap.size]? = some (.cells #[.int .i64 0, .int .i64 0, .int .i64 0, .int .i64 0, .int .i64 0] 23 (0, 0))) ∧ Aside0 (wr.heap[gT]? = some (.cells shapes230 52 (0, 0))) ∧ Aside0 (Below w.heap.size w wr)) (fun v _ => 46 - (intOf v).toNat)
  case atStart => exact ⟨1, k, rfl, by omega, by omega, H, HR, HT, HW⟩
  case round =>
    clear H HR HT HW
    obtain ⟨n, kq, rfl, hn1, hn2, H, HR, HT, HB⟩ := hrel
    cases kq with
    | zero => exact absurd H.out (by simp [inst_Decode.l0])
    | succ kq =>
    by_cases hn : n < 46
    · have h0 := H.out
      clear H
      simp only [inst_Decode.l0] at h0
      rw [if_pos (by omega)] at h0
      have hsh : shapeOf (n : Int) = shapes.getD n noShape := if_pos (by omega)
      rw [hsh] at h0
      clear hsh
      have hc : ∀ j, j < 5 → wr.cell? ⟨gT, n * 5 + j, none⟩ = (shapeRow (shapes.getD n noShape))[j]? := fun j hj => (blk_cell HT.out _).trans (shapes_parts n hn j hj)
      generalize shapes.getD n noShape = s at *
      obtain ⟨s1, s2, s3, s4, s5⟩ := s
      have hc0 : wr.cell? ⟨gT, n * 5, none⟩ = some (.string ⟨s1.toArray⟩) := hc 0 (by omega)
      have hc1 : wr.cell? ⟨gT, n * 5 + 1, none⟩ = some (.int .u8 s2) := hc 1 (by omega)
      have hc2 : wr.cell? ⟨gT, n * 5 + 2, none⟩ = some (.int .u32 s3) := hc 2 (by omega)
      have hc3 : wr.cell? ⟨gT, n * 5 + 3, none⟩ = some (.int .u32 s4) := hc 3 (by omega)
      have hc4 : wr.cell? ⟨gT, n * 5 + 4, none⟩ = some (.int .u32 s5) := hc 4 (by omega)
      clear hc
      dsimp only at h0
      replace h0 := Option.bind_eq_some_iff.mp h0
      obtain ⟨t, ht, h0⟩ := h0
      have HF := Aside0.mk ht
      clear ht
      have H := Aside0.mk h0
      clear h0
      cases t with
      | false =>
        have h1 := H.out
        clear H
        have H := Aside0.mk (show inst_Decode.l0 kq a0 ((n + 1 : Nat) : Int) = some (r1, r2, r3, r4, r5, r6) from h1)
        clear h1
        go_wp2_with (go_at_call 29; refine (inst_fits.calls kq _ _ _ _ _ _ _ _ HF.out).mono ?_; rintro e w3 ⟨rfl, hb3⟩; have HB3 := Aside0.mk hb3; clear hb3)
        go_roundw
        case rel =>
          have hb := HB3.out
          refine ⟨n + 1, kq, by go_num, by omega, by omega, H, ⟨blk_below (blk_alloc HR.out _) hb⟩, ⟨blk_below (blk_alloc HT.out _) hb⟩, ⟨below_then (below_alloc HB.out _) (by have := HB.out.size; simp; omega) hb⟩⟩
        case measure => simp [intOf]; omega
      | true =>
        have h1 : inst_Decode.found kq a0 (n : Int) (s1, s2, s3, s4, s5) = some (r1, r2, r3, r4, r5, r6) := H.out
        clear H
        simp only [inst_Decode.found] at h1
        replace h1 := Option.bind_eq_some_iff.mp h1
        obtain ⟨m, hm, h1⟩ := h1
        replace h1 := Option.bind_eq_some_iff.mp h1
        obtain ⟨⟨b1, b2, b3, b4⟩, hnd, h1⟩ := h1
        replace h1 := Option.bind_eq_some_iff.mp h1
        obtain ⟨d1, hd1, h1⟩ := h1
        replace h1 := Option.bind_eq_some_iff.mp h1
        obtain ⟨d2, hd2, h1⟩ := h1
        replace h1 := Option.bind_eq_some_iff.mp h1
        obtain ⟨d3, hd3, h1⟩ := h1
        simp only [Option.some.injEq, Prod.mk.injEq] at h1
        obtain ⟨rfl, rfl, rfl, rfl, rfl, rfl⟩ := h1
        have HM := Aside0.mk hm
        have HN := Aside0.mk hnd
        have HD1 := Aside0.mk hd1
        have HD2 := Aside0.mk hd2
        have HD3 := Aside0.mk hd3
        clear hm hnd hd1 hd2 hd3
        cases b1 <;> cases b2 <;> cases b3
        · have hx1 : True := trivial
          have h1 := HD1.out
          clear HD1
          rw [if_neg (by simp)] at h1
          obtain rfl := Option.some.inj h1
          have h2 := HD2.out
          clear HD2
          rw [if_neg (by simp)] at h2
          obtain rfl := Option.some.inj h2
          have h3 := HD3.out
          clear HD3
          rw [if_neg (by simp)] at h3
          obtain rfl := Option.some.inj h3
          go_wp2_with (first | (go_at_call 29; refine (inst_fits.calls kq _ _ _ _ _ _ _ _ HF.out).mono ?_; rintro e w3 ⟨rfl, hb3⟩; have HX := Aside0.mk ((hb3.block _ (by simp)).trans (heap_alloc_last wr _)); have HR3 := Aside0.mk (blk_below (blk_alloc HR.out _) hb3); have HB3 := Aside0.mk (below_then (below_alloc HB.out _) (by have := HB.out.size; simp; omega) hb3); clear hb3 hx1; have hx1 := blk_cell HX.out 1) | (go_at_call 30; refine (inst_told.calls s2 a0 _ _ HM.out).mono ?_; rintro e w4 ⟨rfl, hd4⟩; have HX4 := Aside0.mk (blk_below HX.out hd4.below); have HR4 := Aside0.mk (blk_below HR3.out hd4.below); have HB4 := Aside0.mk (below_then HB3.out HB3.out.size hd4.below); have hlt4 : w.heap.size < w4.heap.size := blk_lt HR4.out; clear hd4 hx1; have hx1 := blk_cell HX4.out 1; have hx2 := blk_lt HX4.out) | (go_at_call 22; refine (inst_needs.calls kq s2 _ _ _ _ _ HN.out).mono ?_; rintro e w5 ⟨rfl, hd5⟩; have HI5 := Aside0.mk (blk_below (heap_alloc_last w4 _) hd5.below); have HR5 := Aside0.mk (blk_below (blk_alloc HR4.out _) hd5.below); have HB5 := Aside0.mk (below_then (below_alloc HB4.out _) (by have := HB4.out.size; simp; omega) hd5.below); clear hd5 hx1 hx2; have hi0 := blk_cell HI5.out 0; have hi1 := blk_cell HI5.out 1; have hi2 := blk_cell HI5.out 2; have hi3 := blk_cell HI5.out 3; have hi4 := blk_cell HI5.out 4; have hj1 := blk_frozen HI5.out 1; have hj2 := blk_frozen HI5.out 2; have hj3 := blk_frozen HI5.out 3; have hr0 := blk_cell HR5.out 0; have hs0 := blk_frozen HR5.out 0; have hr1 := blk_cell HR5.out 1; have hs1 := blk_frozen HR5.out 1; have hr2 := blk_cell HR5.out 2; have hs2 := blk_frozen HR5.out 2; have hr3 := blk_cell HR5.out 3; have hs3 := blk_frozen HR5.out 3; have hr4 := blk_cell HR5.out 4; have hs4 := blk_frozen HR5.out 4))
          have hz := HR5.out
          replace hz := blk_set hz 0 (.int .i64 ((n : Int)))
          replace hz := blk_set hz 1 (.int .i64 (0))
          replace hz := blk_set hz 2 (.int .i64 (0))
          replace hz := blk_set hz 3 (.int .i64 (0))
          replace hz := blk_set hz 4 (.int .i64 (m))
          have hw := HB5.out
          refine bodyPost_ret (results_ct rfl _ _ w.heap.size 23 _ (0, 0) _ rfl (by simpa using hz) Try.underlying23 rfl (by kernel_rfl)) rfl ⟨rfl, ?_⟩
          exact ((((hw.setCell (Nat.le_refl _) _).setCell (Nat.le_refl _) _).setCell (Nat.le_refl _) _).setCell (Nat.le_refl _) _).setCell (Nat.le_refl _) _
        · have hx1 : True := trivial
          have h1 := HD1.out
          clear HD1
          rw [if_neg (by simp)] at h1
          obtain rfl := Option.some.inj h1
          have h2 := HD2.out
          clear HD2
          rw [if_neg (by simp)] at h2
          obtain rfl := Option.some.inj h2
          have h3 := HD3.out
          clear HD3
          rw [if_pos rfl] at h3
          replace h3 := Option.bind_eq_some_iff.mp h3
          obtain ⟨q3, h3, h3_⟩ := h3
          obtain rfl := Option.some.inj h3_
          have HD3 := Aside0.mk h3
          clear h3
          go_wp2_with (first | (go_at_call 29; refine (inst_fits.calls kq _ _ _ _ _ _ _ _ HF.out).mono ?_; rintro e w3 ⟨rfl, hb3⟩; have HX := Aside0.mk ((hb3.block _ (by simp)).trans (heap_alloc_last wr _)); have HR3 := Aside0.mk (blk_below (blk_alloc HR.out _) hb3); have HB3 := Aside0.mk (below_then (below_alloc HB.out _) (by have := HB.out.size; simp; omega) hb3); clear hb3 hx1; have hx1 := blk_cell HX.out 1) | (go_at_call 30; refine (inst_told.calls s2 a0 _ _ HM.out).mono ?_; rintro e w4 ⟨rfl, hd4⟩; have HX4 := Aside0.mk (blk_below HX.out hd4.below); have HR4 := Aside0.mk (blk_below HR3.out hd4.below); have HB4 := Aside0.mk (below_then HB3.out HB3.out.size hd4.below); have hlt4 : w.heap.size < w4.heap.size := blk_lt HR4.out; clear hd4 hx1; have hx1 := blk_cell HX4.out 1; have hx2 := blk_lt HX4.out) | (go_at_call 22; refine (inst_needs.calls kq s2 _ _ _ _ _ HN.out).mono ?_; rintro e w5 ⟨rfl, hd5⟩; have HI5 := Aside0.mk (blk_below (heap_alloc_last w4 _) hd5.below); have HR5 := Aside0.mk (blk_below (blk_alloc HR4.out _) hd5.below); have HB5 := Aside0.mk (below_then (below_alloc HB4.out _) (by have := HB4.out.size; simp; omega) hd5.below); clear hd5 hx1 hx2; have hi0 := blk_cell HI5.out 0; have hi1 := blk_cell HI5.out 1; have hi2 := blk_cell HI5.out 2; have hi3 := blk_cell HI5.out 3; have hi4 := blk_cell HI5.out 4; have hj1 := blk_frozen HI5.out 1; have hj2 := blk_frozen HI5.out 2; have hj3 := blk_frozen HI5.out 3; have hr0 := blk_cell HR5.out 0; have hs0 := blk_frozen HR5.out 0; have hr1 := blk_cell HR5.out 1; have hs1 := blk_frozen HR5.out 1; have hr2 := blk_cell HR5.out 2; have hs2 := blk_frozen HR5.out 2; have hr3 := blk_cell HR5.out 3; have hs3 := blk_frozen HR5.out 3; have hr4 := blk_cell HR5.out 4; have hs4 := blk_frozen HR5.out 4) | (go_at_call 31; (with_reducible refine (inst_bits.calls a0 20 5 _ _ HD3.out).mono ?_); rintro e w6 ⟨rfl, hd⟩; have HI6 := Aside0.mk (blk_below (HI5.out) hd.below); have HR6 := Aside0.mk (blk_below (HR5.out) hd.below); have HB6 := Aside0.mk (below_then (HB5.out) (below_size (HB5.out)) hd.below); clear hd; clear hi0 hi1 hi2 hi3 hi4 hj1 hj2 hj3 hr0 hr1 hr2 hr3 hr4 hs0 hs1 hs2 hs3 hs4; have hi0 := blk_cell HI6.out 0; have hi1 := blk_cell HI6.out 1; have hi2 := blk_cell HI6.out 2; have hi3 := blk_cell HI6.out 3; have hi4 := blk_cell HI6.out 4; have hj1 := blk_frozen HI6.out 1; have hj2 := blk_frozen HI6.out 2; have hj3 := blk_frozen HI6.out 3; have hr0 := blk_cell HR6.out 0; have hs0 := blk_frozen HR6.out 0; have hr1 := blk_cell HR6.out 1; have hs1 := blk_frozen HR6.out 1; have hr2 := blk_cell HR6.out 2; have hs2 := blk_frozen HR6.out 2; have hr3 := blk_cell HR6.out 3; have hs3 := blk_frozen HR6.out 3; have hr4 := blk_cell HR6.out 4; have hs4 := blk_frozen HR6.out 4))
          have hz := blk_far HR6.out (p := ⟨w4.heap.size, 3, none⟩) (Nat.ne_of_lt hlt4) (.int .i64 (wrap64 q3))
          replace hz := blk_set hz 0 (.int .i64 ((n : Int)))
          replace hz := blk_set hz 1 (.int .i64 (0))
          replace hz := blk_set hz 2 (.int .i64 (0))
          replace hz := blk_set hz 3 (.int .i64 (wrap64 q3))
          replace hz := blk_set hz 4 (.int .i64 (m))
          have hw := below_set (j := 3) (v := .int .i64 (wrap64 q3)) HB6.out (Nat.le_of_lt hlt4)
          refine bodyPost_ret (results_ct rfl _ _ w.heap.size 23 _ (0, 0) _ rfl (by simpa using hz) Try.underlying23 rfl (by kernel_rfl)) rfl ⟨rfl, ?_⟩
          exact ((((hw.setCell (Nat.le_refl _) _).setCell (Nat.le_refl _) _).setCell (Nat.le_refl _) _).setCell (Nat.le_refl _) _).setCell (Nat.le_refl _) _
        · have hx1 : True := trivial
          have h1 := HD1.out
          clear HD1
          rw [if_neg (by simp)] at h1
          obtain rfl := Option.some.inj h1
          have h2 := HD2.out
          clear HD2
          rw [if_pos rfl] at h2
          replace h2 := Option.bind_eq_some_iff.mp h2
          obtain ⟨q2, h2, h2_⟩ := h2
          obtain rfl := Option.some.inj h2_
          have HD2 := Aside0.mk h2
          clear h2
          have h3 := HD3.out
          clear HD3
          rw [if_neg (by simp)] at h3
          obtain rfl := Option.some.inj h3
          go_wp2_with (first | (go_at_call 29; refine (inst_fits.calls kq _ _ _ _ _ _ _ _ HF.out).mono ?_; rintro e w3 ⟨rfl, hb3⟩; have HX := Aside0.mk ((hb3.block _ (by simp)).trans (heap_alloc_last wr _)); have HR3 := Aside0.mk (blk_below (blk_alloc HR.out _) hb3); have HB3 := Aside0.mk (below_then (below_alloc HB.out _) (by have := HB.out.size; simp; omega) hb3); clear hb3 hx1; have hx1 := blk_cell HX.out 1) | (go_at_call 30; refine (inst_told.calls s2 a0 _ _ HM.out).mono ?_; rintro e w4 ⟨rfl, hd4⟩; have HX4 := Aside0.mk (blk_below HX.out hd4.below); have HR4 := Aside0.mk (blk_below HR3.out hd4.below); have HB4 := Aside0.mk (below_then HB3.out HB3.out.size hd4.below); have hlt4 : w.heap.size < w4.heap.size := blk_lt HR4.out; clear hd4 hx1; have hx1 := blk_cell HX4.out 1; have hx2 := blk_lt HX4.out) | (go_at_call 22; refine (inst_needs.calls kq s2 _ _ _ _ _ HN.out).mono ?_; rintro e w5 ⟨rfl, hd5⟩; have HI5 := Aside0.mk (blk_below (heap_alloc_last w4 _) hd5.below); have HR5 := Aside0.mk (blk_below (blk_alloc HR4.out _) hd5.below); have HB5 := Aside0.mk (below_then (below_alloc HB4.out _) (by have := HB4.out.size; simp; omega) hd5.below); clear hd5 hx1 hx2; have hi0 := blk_cell HI5.out 0; have hi1 := blk_cell HI5.out 1; have hi2 := blk_cell HI5.out 2; have hi3 := blk_cell HI5.out 3; have hi4 := blk_cell HI5.out 4; have hj1 := blk_frozen HI5.out 1; have hj2 := blk_frozen HI5.out 2; have hj3 := blk_frozen HI5.out 3; have hr0 := blk_cell HR5.out 0; have hs0 := blk_frozen HR5.out 0; have hr1 := blk_cell HR5.out 1; have hs1 := blk_frozen HR5.out 1; have hr2 := blk_cell HR5.out 2; have hs2 := blk_frozen HR5.out 2; have hr3 := blk_cell HR5.out 3; have hs3 := blk_frozen HR5.out 3; have hr4 := blk_cell HR5.out 4; have hs4 := blk_frozen HR5.out 4) | (go_at_call 31; (with_reducible refine (inst_bits.calls a0 15 5 _ _ HD2.out).mono ?_); rintro e w6 ⟨rfl, hd⟩; have HI6 := Aside0.mk (blk_below (HI5.out) hd.below); have HR6 := Aside0.mk (blk_below (HR5.out) hd.below); have HB6 := Aside0.mk (below_then (HB5.out) (below_size (HB5.out)) hd.below); clear hd; clear hi0 hi1 hi2 hi3 hi4 hj1 hj2 hj3 hr0 hr1 hr2 hr3 hr4 hs0 hs1 hs2 hs3 hs4; have hi0 := blk_cell HI6.out 0; have hi1 := blk_cell HI6.out 1; have hi2 := blk_cell HI6.out 2; have hi3 := blk_cell HI6.out 3; have hi4 := blk_cell HI6.out 4; have hj1 := blk_frozen HI6.out 1; have hj2 := blk_frozen HI6.out 2; have hj3 := blk_frozen HI6.out 3; have hr0 := blk_cell HR6.out 0; have hs0 := blk_frozen HR6.out 0; have hr1 := blk_cell HR6.out 1; have hs1 := blk_frozen HR6.out 1; have hr2 := blk_cell HR6.out 2; have hs2 := blk_frozen HR6.out 2; have hr3 := blk_cell HR6.out 3; have hs3 := blk_frozen HR6.out 3; have hr4 := blk_cell HR6.out 4; have hs4 := blk_frozen HR6.out 4))
          have hz := blk_far HR6.out (p := ⟨w4.heap.size, 2, none⟩) (Nat.ne_of_lt hlt4) (.int .i64 (wrap64 q2))
          replace hz := blk_set hz 0 (.int .i64 ((n : Int)))
          replace hz := blk_set hz 1 (.int .i64 (0))
          replace hz := blk_set hz 2 (.int .i64 (wrap64 q2))
          replace hz := blk_set hz 3 (.int .i64 (0))
          replace hz := blk_set hz 4 (.int .i64 (m))
          have hw := below_set (j := 2) (v := .int .i64 (wrap64 q2)) HB6.out (Nat.le_of_lt hlt4)
          refine bodyPost_ret (results_ct rfl _ _ w.heap.size 23 _ (0, 0) _ rfl (by simpa using hz) Try.underlying23 rfl (by kernel_rfl)) rfl ⟨rfl, ?_⟩
          exact ((((hw.setCell (Nat.le_refl _) _).setCell (Nat.le_refl _) _).setCell (Nat.le_refl _) _).setCell (Nat.le_refl _) _).setCell (Nat.le_refl _) _
        · have hx1 : True := trivial
          have h1 := HD1.out
          clear HD1
          rw [if_neg (by simp)] at h1
          obtain rfl := Option.some.inj h1
          have h2 := HD2.out
          clear HD2
          rw [if_pos rfl] at h2
          replace h2 := Option.bind_eq_some_iff.mp h2
          obtain ⟨q2, h2, h2_⟩ := h2
          obtain rfl := Option.some.inj h2_
          have HD2 := Aside0.mk h2
          clear h2
          have h3 := HD3.out
          clear HD3
          rw [if_pos rfl] at h3
          replace h3 := Option.bind_eq_some_iff.mp h3
          obtain ⟨q3, h3, h3_⟩ := h3
          obtain rfl := Option.some.inj h3_
          have HD3 := Aside0.mk h3
          clear h3
          go_wp2_with (first | (go_at_call 29; refine (inst_fits.calls kq _ _ _ _ _ _ _ _ HF.out).mono ?_; rintro e w3 ⟨rfl, hb3⟩; have HX := Aside0.mk ((hb3.block _ (by simp)).trans (heap_alloc_last wr _)); have HR3 := Aside0.mk (blk_below (blk_alloc HR.out _) hb3); have HB3 := Aside0.mk (below_then (below_alloc HB.out _) (by have := HB.out.size; simp; omega) hb3); clear hb3 hx1; have hx1 := blk_cell HX.out 1) | (go_at_call 30; refine (inst_told.calls s2 a0 _ _ HM.out).mono ?_; rintro e w4 ⟨rfl, hd4⟩; have HX4 := Aside0.mk (blk_below HX.out hd4.below); have HR4 := Aside0.mk (blk_below HR3.out hd4.below); have HB4 := Aside0.mk (below_then HB3.out HB3.out.size hd4.below); have hlt4 : w.heap.size < w4.heap.size := blk_lt HR4.out; clear hd4 hx1; have hx1 := blk_cell HX4.out 1; have hx2 := blk_lt HX4.out) | (go_at_call 22; refine (inst_needs.calls kq s2 _ _ _ _ _ HN.out).mono ?_; rintro e w5 ⟨rfl, hd5⟩; have HI5 := Aside0.mk (blk_below (heap_alloc_last w4 _) hd5.below); have HR5 := Aside0.mk (blk_below (blk_alloc HR4.out _) hd5.below); have HB5 := Aside0.mk (below_then (below_alloc HB4.out _) (by have := HB4.out.size; simp; omega) hd5.below); clear hd5 hx1 hx2; have hi0 := blk_cell HI5.out 0; have hi1 := blk_cell HI5.out 1; have hi2 := blk_cell HI5.out 2; have hi3 := blk_cell HI5.out 3; have hi4 := blk_cell HI5.out 4; have hj1 := blk_frozen HI5.out 1; have hj2 := blk_frozen HI5.out 2; have hj3 := blk_frozen HI5.out 3; have hr0 := blk_cell HR5.out 0; have hs0 := blk_frozen HR5.out 0; have hr1 := blk_cell HR5.out 1; have hs1 := blk_frozen HR5.out 1; have hr2 := blk_cell HR5.out 2; have hs2 := blk_frozen HR5.out 2; have hr3 := blk_cell HR5.out 3; have hs3 := blk_frozen HR5.out 3; have hr4 := blk_cell HR5.out 4; have hs4 := blk_frozen HR5.out 4) | (go_at_call 31; (with_reducible refine (inst_bits.calls a0 15 5 _ _ HD2.out).mono ?_); rintro e w6 ⟨rfl, hd⟩; have HI6 := Aside0.mk (blk_below (HI5.out) hd.below); have HR6 := Aside0.mk (blk_below (HR5.out) hd.below); have HB6 := Aside0.mk (below_then (HB5.out) (below_size (HB5.out)) hd.below); clear hd; clear hi0 hi1 hi2 hi3 hi4 hj1 hj2 hj3 hr0 hr1 hr2 hr3 hr4 hs0 hs1 hs2 hs3 hs4; have hi0 := blk_cell HI6.out 0; have hi1 := blk_cell HI6.out 1; have hi2 := blk_cell HI6.out 2; have hi3 := blk_cell HI6.out 3; have hi4 := blk_cell HI6.out 4; have hj1 := blk_frozen HI6.out 1; have hj2 := blk_frozen HI6.out 2; have hj3 := blk_frozen HI6.out 3; have hr0 := blk_cell HR6.out 0; have hs0 := blk_frozen HR6.out 0; have hr1 := blk_cell HR6.out 1; have hs1 := blk_frozen HR6.out 1; have hr2 := blk_cell HR6.out 2; have hs2 := blk_frozen HR6.out 2; have hr3 := blk_cell HR6.out 3; have hs3 := blk_frozen HR6.out 3; have hr4 := blk_cell HR6.out 4; have hs4 := blk_frozen HR6.out 4) | (go_at_call 31; (with_reducible refine (inst_bits.calls a0 20 5 _ _ HD3.out).mono ?_); rintro e w7 ⟨rfl, hd⟩; have HI7 := Aside0.mk (blk_below (blk_set HI6.out 2 (.int .i64 (wrap64 q2))) hd.below); have HR7 := Aside0.mk (blk_below (blk_far HR6.out (p := ⟨w4.heap.size, 2, none⟩) (Nat.ne_of_lt hlt4) (.int .i64 (wrap64 q2))) hd.below); have HB7 := Aside0.mk (below_then (below_set (j := 2) (v := .int .i64 (wrap64 q2)) HB6.out (Nat.le_of_lt hlt4)) (below_size (below_set (j := 2) (v := .int .i64 (wrap64 q2)) HB6.out (Nat.le_of_lt hlt4))) hd.below); clear hd; clear hi0 hi1 hi2 hi3 hi4 hj1 hj2 hj3 hr0 hr1 hr2 hr3 hr4 hs0 hs1 hs2 hs3 hs4; have hi0 := blk_cell HI7.out 0; have hi1 := blk_cell HI7.out 1; have hi2 := blk_cell HI7.out 2; have hi3 := blk_cell HI7.out 3; have hi4 := blk_cell HI7.out 4; have hj1 := blk_frozen HI7.out 1; have hj2 := blk_frozen HI7.out 2; have hj3 := blk_frozen HI7.out 3; have hr0 := blk_cell HR7.out 0; have hs0 := blk_frozen HR7.out 0; have hr1 := blk_cell HR7.out 1; have hs1 := blk_frozen HR7.out 1; have hr2 := blk_cell HR7.out 2; have hs2 := blk_frozen HR7.out 2; have hr3 := blk_cell HR7.out 3; have hs3 := blk_frozen HR7.out 3; have hr4 := blk_cell HR7.out 4; have hs4 := blk_frozen HR7.out 4))
          have hz := blk_far HR7.out (p := ⟨w4.heap.size, 3, none⟩) (Nat.ne_of_lt hlt4) (.int .i64 (wrap64 q3))
          replace hz := blk_set hz 0 (.int .i64 ((n : Int)))
          replace hz := blk_set hz 1 (.int .i64 (0))
          replace hz := blk_set hz 2 (.int .i64 (wrap64 q2))
          replace hz := blk_set hz 3 (.int .i64 (wrap64 q3))
          replace hz := blk_set hz 4 (.int .i64 (m))
          have hw := below_set (j := 3) (v := .int .i64 (wrap64 q3)) HB7.out (Nat.le_of_lt hlt4)
          refine bodyPost_ret (results_ct rfl _ _ w.heap.size 23 _ (0, 0) _ rfl (by simpa using hz) Try.underlying23 rfl (by kernel_rfl)) rfl ⟨rfl, ?_⟩
          exact ((((hw.setCell (Nat.le_refl _) _).setCell (Nat.le_refl _) _).setCell (Nat.le_refl _) _).setCell (Nat.le_refl _) _).setCell (Nat.le_refl _) _
        · have hx1 : True := trivial
          have h1 := HD1.out
          clear HD1
          rw [if_pos rfl] at h1
          replace h1 := Option.bind_eq_some_iff.mp h1
          obtain ⟨q1, h1, h1_⟩ := h1
          obtain rfl := Option.some.inj h1_
          have HD1 := Aside0.mk h1
          clear h1
          have h2 := HD2.out
          clear HD2
          rw [if_neg (by simp)] at h2
          obtain rfl := Option.some.inj h2
          have h3 := HD3.out
          clear HD3
          rw [if_neg (by simp)] at h3
          obtain rfl := Option.some.inj h3
          go_wp2_with (first | (go_at_call 29; refine (inst_fits.calls kq _ _ _ _ _ _ _ _ HF.out).mono ?_; rintro e w3 ⟨rfl, hb3⟩; have HX := Aside0.mk ((hb3.block _ (by simp)).trans (heap_alloc_last wr _)); have HR3 := Aside0.mk (blk_below (blk_alloc HR.out _) hb3); have HB3 := Aside0.mk (below_then (below_alloc HB.out _) (by have := HB.out.size; simp; omega) hb3); clear hb3 hx1; have hx1 := blk_cell HX.out 1) | (go_at_call 30; refine (inst_told.calls s2 a0 _ _ HM.out).mono ?_; rintro e w4 ⟨rfl, hd4⟩; have HX4 := Aside0.mk (blk_below HX.out hd4.below); have HR4 := Aside0.mk (blk_below HR3.out hd4.below); have HB4 := Aside0.mk (below_then HB3.out HB3.out.size hd4.below); have hlt4 : w.heap.size < w4.heap.size := blk_lt HR4.out; clear hd4 hx1; have hx1 := blk_cell HX4.out 1; have hx2 := blk_lt HX4.out) | (go_at_call 22; refine (inst_needs.calls kq s2 _ _ _ _ _ HN.out).mono ?_; rintro e w5 ⟨rfl, hd5⟩; have HI5 := Aside0.mk (blk_below (heap_alloc_last w4 _) hd5.below); have HR5 := Aside0.mk (blk_below (blk_alloc HR4.out _) hd5.below); have HB5 := Aside0.mk (below_then (below_alloc HB4.out _) (by have := HB4.out.size; simp; omega) hd5.below); clear hd5 hx1 hx2; have hi0 := blk_cell HI5.out 0; have hi1 := blk_cell HI5.out 1; have hi2 := blk_cell HI5.out 2; have hi3 := blk_cell HI5.out 3; have hi4 := blk_cell HI5.out 4; have hj1 := blk_frozen HI5.out 1; have hj2 := blk_frozen HI5.out 2; have hj3 := blk_frozen HI5.out 3; have hr0 := blk_cell HR5.out 0; have hs0 := blk_frozen HR5.out 0; have hr1 := blk_cell HR5.out 1; have hs1 := blk_frozen HR5.out 1; have hr2 := blk_cell HR5.out 2; have hs2 := blk_frozen HR5.out 2; have hr3 := blk_cell HR5.out 3; have hs3 := blk_frozen HR5.out 3; have hr4 := blk_cell HR5.out 4; have hs4 := blk_frozen HR5.out 4) | (go_at_call 31; (with_reducible refine (inst_bits.calls a0 7 5 _ _ HD1.out).mono ?_); rintro e w6 ⟨rfl, hd⟩; have HI6 := Aside0.mk (blk_below (HI5.out) hd.below); have HR6 := Aside0.mk (blk_below (HR5.out) hd.below); have HB6 := Aside0.mk (below_then (HB5.out) (below_size (HB5.out)) hd.below); clear hd; clear hi0 hi1 hi2 hi3 hi4 hj1 hj2 hj3 hr0 hr1 hr2 hr3 hr4 hs0 hs1 hs2 hs3 hs4; have hi0 := blk_cell HI6.out 0; have hi1 := blk_cell HI6.out 1; have hi2 := blk_cell HI6.out 2; have hi3 := blk_cell HI6.out 3; have hi4 := blk_cell HI6.out 4; have hj1 := blk_frozen HI6.out 1; have hj2 := blk_frozen HI6.out 2; have hj3 := blk_frozen HI6.out 3; have hr0 := blk_cell HR6.out 0; have hs0 := blk_frozen HR6.out 0; have hr1 := blk_cell HR6.out 1; have hs1 := blk_frozen HR6.out 1; have hr2 := blk_cell HR6.out 2; have hs2 := blk_frozen HR6.out 2; have hr3 := blk_cell HR6.out 3; have hs3 := blk_frozen HR6.out 3; have hr4 := blk_cell HR6.out 4; have hs4 := blk_frozen HR6.out 4))
          have hz := blk_far HR6.out (p := ⟨w4.heap.size, 1, none⟩) (Nat.ne_of_lt hlt4) (.int .i64 (wrap64 q1))
          replace hz := blk_set hz 0 (.int .i64 ((n : Int)))
          replace hz := blk_set hz 1 (.int .i64 (wrap64 q1))
          replace hz := blk_set hz 2 (.int .i64 (0))
          replace hz := blk_set hz 3 (.int .i64 (0))
          replace hz := blk_set hz 4 (.int .i64 (m))
          have hw := below_set (j := 1) (v := .int .i64 (wrap64 q1)) HB6.out (Nat.le_of_lt hlt4)
          refine bodyPost_ret (results_ct rfl _ _ w.heap.size 23 _ (0, 0) _ rfl (by simpa using hz) Try.underlying23 rfl (by kernel_rfl)) rfl ⟨rfl, ?_⟩
          exact ((((hw.setCell (Nat.le_refl _) _).setCell (Nat.le_refl _) _).setCell (Nat.le_refl _) _).setCell (Nat.le_refl _) _).setCell (Nat.le_refl _) _
        · have hx1 : True := trivial
          have h1 := HD1.out
          clear HD1
          rw [if_pos rfl] at h1
          replace h1 := Option.bind_eq_some_iff.mp h1
          obtain ⟨q1, h1, h1_⟩ := h1
          obtain rfl := Option.some.inj h1_
          have HD1 := Aside0.mk h1
          clear h1
          have h2 := HD2.out
          clear HD2
          rw [if_neg (by simp)] at h2
          obtain rfl := Option.some.inj h2
          have h3 := HD3.out
          clear HD3
          rw [if_pos rfl] at h3
          replace h3 := Option.bind_eq_some_iff.mp h3
          obtain ⟨q3, h3, h3_⟩ := h3
          obtain rfl := Option.some.inj h3_
          have HD3 := Aside0.mk h3
          clear h3
          go_wp2_with (first | (go_at_call 29; refine (inst_fits.calls kq _ _ _ _ _ _ _ _ HF.out).mono ?_; rintro e w3 ⟨rfl, hb3⟩; have HX := Aside0.mk ((hb3.block _ (by simp)).trans (heap_alloc_last wr _)); have HR3 := Aside0.mk (blk_below (blk_alloc HR.out _) hb3); have HB3 := Aside0.mk (below_then (below_alloc HB.out _) (by have := HB.out.size; simp; omega) hb3); clear hb3 hx1; have hx1 := blk_cell HX.out 1) | (go_at_call 30; refine (inst_told.calls s2 a0 _ _ HM.out).mono ?_; rintro e w4 ⟨rfl, hd4⟩; have HX4 := Aside0.mk (blk_below HX.out hd4.below); have HR4 := Aside0.mk (blk_below HR3.out hd4.below); have HB4 := Aside0.mk (below_then HB3.out HB3.out.size hd4.below); have hlt4 : w.heap.size < w4.heap.size := blk_lt HR4.out; clear hd4 hx1; have hx1 := blk_cell HX4.out 1; have hx2 := blk_lt HX4.out) | (go_at_call 22; refine (inst_needs.calls kq s2 _ _ _ _ _ HN.out).mono ?_; rintro e w5 ⟨rfl, hd5⟩; have HI5 := Aside0.mk (blk_below (heap_alloc_last w4 _) hd5.below); have HR5 := Aside0.mk (blk_below (blk_alloc HR4.out _) hd5.below); have HB5 := Aside0.mk (below_then (below_alloc HB4.out _) (by have := HB4.out.size; simp; omega) hd5.below); clear hd5 hx1 hx2; have hi0 := blk_cell HI5.out 0; have hi1 := blk_cell HI5.out 1; have hi2 := blk_cell HI5.out 2; have hi3 := blk_cell HI5.out 3; have hi4 := blk_cell HI5.out 4; have hj1 := blk_frozen HI5.out 1; have hj2 := blk_frozen HI5.out 2; have hj3 := blk_frozen HI5.out 3; have hr0 := blk_cell HR5.out 0; have hs0 := blk_frozen HR5.out 0; have hr1 := blk_cell HR5.out 1; have hs1 := blk_frozen HR5.out 1; have hr2 := blk_cell HR5.out 2; have hs2 := blk_frozen HR5.out 2; have hr3 := blk_cell HR5.out 3; have hs3 := blk_frozen HR5.out 3; have hr4 := blk_cell HR5.out 4; have hs4 := blk_frozen HR5.out 4) | (go_at_call 31; (with_reducible refine (inst_bits.calls a0 7 5 _ _ HD1.out).mono ?_); rintro e w6 ⟨rfl, hd⟩; have HI6 := Aside0.mk (blk_below (HI5.out) hd.below); have HR6 := Aside0.mk (blk_below (HR5.out) hd.below); have HB6 := Aside0.mk (below_then (HB5.out) (below_size (HB5.out)) hd.below); clear hd; clear hi0 hi1 hi2 hi3 hi4 hj1 hj2 hj3 hr0 hr1 hr2 hr3 hr4 hs0 hs1 hs2 hs3 hs4; have hi0 := blk_cell HI6.out 0; have hi1 := blk_cell HI6.out 1; have hi2 := blk_cell HI6.out 2; have hi3 := blk_cell HI6.out 3; have hi4 := blk_cell HI6.out 4; have hj1 := blk_frozen HI6.out 1; have hj2 := blk_frozen HI6.out 2; have hj3 := blk_frozen HI6.out 3; have hr0 := blk_cell HR6.out 0; have hs0 := blk_frozen HR6.out 0; have hr1 := blk_cell HR6.out 1; have hs1 := blk_frozen HR6.out 1; have hr2 := blk_cell HR6.out 2; have hs2 := blk_frozen HR6.out 2; have hr3 := blk_cell HR6.out 3; have hs3 := blk_frozen HR6.out 3; have hr4 := blk_cell HR6.out 4; have hs4 := blk_frozen HR6.out 4) | (go_at_call 31; (with_reducible refine (inst_bits.calls a0 20 5 _ _ HD3.out).mono ?_); rintro e w7 ⟨rfl, hd⟩; have HI7 := Aside0.mk (blk_below (blk_set HI6.out 1 (.int .i64 (wrap64 q1))) hd.below); have HR7 := Aside0.mk (blk_below (blk_far HR6.out (p := ⟨w4.heap.size, 1, none⟩) (Nat.ne_of_lt hlt4) (.int .i64 (wrap64 q1))) hd.below); have HB7 := Aside0.mk (below_then (below_set (j := 1) (v := .int .i64 (wrap64 q1)) HB6.out (Nat.le_of_lt hlt4)) (below_size (below_set (j := 1) (v := .int .i64 (wrap64 q1)) HB6.out (Nat.le_of_lt hlt4))) hd.below); clear hd; clear hi0 hi1 hi2 hi3 hi4 hj1 hj2 hj3 hr0 hr1 hr2 hr3 hr4 hs0 hs1 hs2 hs3 hs4; have hi0 := blk_cell HI7.out 0; have hi1 := blk_cell HI7.out 1; have hi2 := blk_cell HI7.out 2; have hi3 := blk_cell HI7.out 3; have hi4 := blk_cell HI7.out 4; have hj1 := blk_frozen HI7.out 1; have hj2 := blk_frozen HI7.out 2; have hj3 := blk_frozen HI7.out 3; have hr0 := blk_cell HR7.out 0; have hs0 := blk_frozen HR7.out 0; have hr1 := blk_cell HR7.out 1; have hs1 := blk_frozen HR7.out 1; have hr2 := blk_cell HR7.out 2; have hs2 := blk_frozen HR7.out 2; have hr3 := blk_cell HR7.out 3; have hs3 := blk_frozen HR7.out 3; have hr4 := blk_cell HR7.out 4; have hs4 := blk_frozen HR7.out 4))
          have hz := blk_far HR7.out (p := ⟨w4.heap.size, 3, none⟩) (Nat.ne_of_lt hlt4) (.int .i64 (wrap64 q3))
          replace hz := blk_set hz 0 (.int .i64 ((n : Int)))
          replace hz := blk_set hz 1 (.int .i64 (wrap64 q1))
          replace hz := blk_set hz 2 (.int .i64 (0))
          replace hz := blk_set hz 3 (.int .i64 (wrap64 q3))
          replace hz := blk_set hz 4 (.int .i64 (m))
          have hw := below_set (j := 3) (v := .int .i64 (wrap64 q3)) HB7.out (Nat.le_of_lt hlt4)
          refine bodyPost_ret (results_ct rfl _ _ w.heap.size 23 _ (0, 0) _ rfl (by simpa using hz) Try.underlying23 rfl (by kernel_rfl)) rfl ⟨rfl, ?_⟩
          exact ((((hw.setCell (Nat.le_refl _) _).setCell (Nat.le_refl _) _).setCell (Nat.le_refl _) _).setCell (Nat.le_refl _) _).setCell (Nat.le_refl _) _
        · have hx1 : True := trivial
          have h1 := HD1.out
          clear HD1
          rw [if_pos rfl] at h1
          replace h1 := Option.bind_eq_some_iff.mp h1
          obtain ⟨q1, h1, h1_⟩ := h1
          obtain rfl := Option.some.inj h1_
          have HD1 := Aside0.mk h1
          clear h1
          have h2 := HD2.out
          clear HD2
          rw [if_pos rfl] at h2
          replace h2 := Option.bind_eq_some_iff.mp h2
          obtain ⟨q2, h2, h2_⟩ := h2
          obtain rfl := Option.some.inj h2_
          have HD2 := Aside0.mk h2
          clear h2
          have h3 := HD3.out
          clear HD3
          rw [if_neg (by simp)] at h3
          obtain rfl := Option.some.inj h3
          go_wp2_with (first | (go_at_call 29; refine (inst_fits.calls kq _ _ _ _ _ _ _ _ HF.out).mono ?_; rintro e w3 ⟨rfl, hb3⟩; have HX := Aside0.mk ((hb3.block _ (by simp)).trans (heap_alloc_last wr _)); have HR3 := Aside0.mk (blk_below (blk_alloc HR.out _) hb3); have HB3 := Aside0.mk (below_then (below_alloc HB.out _) (by have := HB.out.size; simp; omega) hb3); clear hb3 hx1; have hx1 := blk_cell HX.out 1) | (go_at_call 30; refine (inst_told.calls s2 a0 _ _ HM.out).mono ?_; rintro e w4 ⟨rfl, hd4⟩; have HX4 := Aside0.mk (blk_below HX.out hd4.below); have HR4 := Aside0.mk (blk_below HR3.out hd4.below); have HB4 := Aside0.mk (below_then HB3.out HB3.out.size hd4.below); have hlt4 : w.heap.size < w4.heap.size := blk_lt HR4.out; clear hd4 hx1; have hx1 := blk_cell HX4.out 1; have hx2 := blk_lt HX4.out) | (go_at_call 22; refine (inst_needs.calls kq s2 _ _ _ _ _ HN.out).mono ?_; rintro e w5 ⟨rfl, hd5⟩; have HI5 := Aside0.mk (blk_below (heap_alloc_last w4 _) hd5.below); have HR5 := Aside0.mk (blk_below (blk_alloc HR4.out _) hd5.below); have HB5 := Aside0.mk (below_then (below_alloc HB4.out _) (by have := HB4.out.size; simp; omega) hd5.below); clear hd5 hx1 hx2; have hi0 := blk_cell HI5.out 0; have hi1 := blk_cell HI5.out 1; have hi2 := blk_cell HI5.out 2; have hi3 := blk_cell HI5.out 3; have hi4 := blk_cell HI5.out 4; have hj1 := blk_frozen HI5.out 1; have hj2 := blk_frozen HI5.out 2; have hj3 := blk_frozen HI5.out 3; have hr0 := blk_cell HR5.out 0; have hs0 := blk_frozen HR5.out 0; have hr1 := blk_cell HR5.out 1; have hs1 := blk_frozen HR5.out 1; have hr2 := blk_cell HR5.out 2; have hs2 := blk_frozen HR5.out 2; have hr3 := blk_cell HR5.out 3; have hs3 := blk_frozen HR5.out 3; have hr4 := blk_cell HR5.out 4; have hs4 := blk_frozen HR5.out 4) | (go_at_call 31; (with_reducible refine (inst_bits.calls a0 7 5 _ _ HD1.out).mono ?_); rintro e w6 ⟨rfl, hd⟩; have HI6 := Aside0.mk (blk_below (HI5.out) hd.below); have HR6 := Aside0.mk (blk_below (HR5.out) hd.below); have HB6 := Aside0.mk (below_then (HB5.out) (below_size (HB5.out)) hd.below); clear hd; clear hi0 hi1 hi2 hi3 hi4 hj1 hj2 hj3 hr0 hr1 hr2 hr3 hr4 hs0 hs1 hs2 hs3 hs4; have hi0 := blk_cell HI6.out 0; have hi1 := blk_cell HI6.out 1; have hi2 := blk_cell HI6.out 2; have hi3 := blk_cell HI6.out 3; have hi4 := blk_cell HI6.out 4; have hj1 := blk_frozen HI6.out 1; have hj2 := blk_frozen HI6.out 2; have hj3 := blk_frozen HI6.out 3; have hr0 := blk_cell HR6.out 0; have hs0 := blk_frozen HR6.out 0; have hr1 := blk_cell HR6.out 1; have hs1 := blk_frozen HR6.out 1; have hr2 := blk_cell HR6.out 2; have hs2 := blk_frozen HR6.out 2; have hr3 := blk_cell HR6.out 3; have hs3 := blk_frozen HR6.out 3; have hr4 := blk_cell HR6.out 4; have hs4 := blk_frozen HR6.out 4) | (go_at_call 31; (with_reducible refine (inst_bits.calls a0 15 5 _ _ HD2.out).mono ?_); rintro e w7 ⟨rfl, hd⟩; have HI7 := Aside0.mk (blk_below (blk_set HI6.out 1 (.int .i64 (wrap64 q1))) hd.below); have HR7 := Aside0.mk (blk_below (blk_far HR6.out (p := ⟨w4.heap.size, 1, none⟩) (Nat.ne_of_lt hlt4) (.int .i64 (wrap64 q1))) hd.below); have HB7 := Aside0.mk (below_then (below_set (j := 1) (v := .int .i64 (wrap64 q1)) HB6.out (Nat.le_of_lt hlt4)) (below_size (below_set (j := 1) (v := .int .i64 (wrap64 q1)) HB6.out (Nat.le_of_lt hlt4))) hd.below); clear hd; clear hi0 hi1 hi2 hi3 hi4 hj1 hj2 hj3 hr0 hr1 hr2 hr3 hr4 hs0 hs1 hs2 hs3 hs4; have hi0 := blk_cell HI7.out 0; have hi1 := blk_cell HI7.out 1; have hi2 := blk_cell HI7.out 2; have hi3 := blk_cell HI7.out 3; have hi4 := blk_cell HI7.out 4; have hj1 := blk_frozen HI7.out 1; have hj2 := blk_frozen HI7.out 2; have hj3 := blk_frozen HI7.out 3; have hr0 := blk_cell HR7.out 0; have hs0 := blk_frozen HR7.out 0; have hr1 := blk_cell HR7.out 1; have hs1 := blk_frozen HR7.out 1; have hr2 := blk_cell HR7.out 2; have hs2 := blk_frozen HR7.out 2; have hr3 := blk_cell HR7.out 3; have hs3 := blk_frozen HR7.out 3; have hr4 := blk_cell HR7.out 4; have hs4 := blk_frozen HR7.out 4))
          have hz := blk_far HR7.out (p := ⟨w4.heap.size, 2, none⟩) (Nat.ne_of_lt hlt4) (.int .i64 (wrap64 q2))
          replace hz := blk_set hz 0 (.int .i64 ((n : Int)))
          replace hz := blk_set hz 1 (.int .i64 (wrap64 q1))
          replace hz := blk_set hz 2 (.int .i64 (wrap64 q2))
          replace hz := blk_set hz 3 (.int .i64 (0))
          replace hz := blk_set hz 4 (.int .i64 (m))
          have hw := below_set (j := 2) (v := .int .i64 (wrap64 q2)) HB7.out (Nat.le_of_lt hlt4)
          refine bodyPost_ret (results_ct rfl _ _ w.heap.size 23 _ (0, 0) _ rfl (by simpa using hz) Try.underlying23 rfl (by kernel_rfl)) rfl ⟨rfl, ?_⟩
          exact ((((hw.setCell (Nat.le_refl _) _).setCell (Nat.le_refl _) _).setCell (Nat.le_refl _) _).setCell (Nat.le_refl _) _).setCell (Nat.le_refl _) _
        · have hx1 : True := trivial
          have h1 := HD1.out
          clear HD1
          rw [if_pos rfl] at h1
          replace h1 := Option.bind_eq_some_iff.mp h1
          obtain ⟨q1, h1, h1_⟩ := h1
          obtain rfl := Option.some.inj h1_
          have HD1 := Aside0.mk h1
          clear h1
          have h2 := HD2.out
          clear HD2
          rw [if_pos rfl] at h2
          replace h2 := Option.bind_eq_some_iff.mp h2
          obtain ⟨q2, h2, h2_⟩ := h2
          obtain rfl := Option.some.inj h2_
          have HD2 := Aside0.mk h2
          clear h2
          have h3 := HD3.out
          clear HD3
          rw [if_pos rfl] at h3
          replace h3 := Option.bind_eq_some_iff.mp h3
          obtain ⟨q3, h3, h3_⟩ := h3
          obtain rfl := Option.some.inj h3_
          have HD3 := Aside0.mk h3
          clear h3
          go_wp2_with (first | (go_at_call 29; refine (inst_fits.calls kq _ _ _ _ _ _ _ _ HF.out).mono ?_; rintro e w3 ⟨rfl, hb3⟩; have HX := Aside0.mk ((hb3.block _ (by simp)).trans (heap_alloc_last wr _)); have HR3 := Aside0.mk (blk_below (blk_alloc HR.out _) hb3); have HB3 := Aside0.mk (below_then (below_alloc HB.out _) (by have := HB.out.size; simp; omega) hb3); clear hb3 hx1; have hx1 := blk_cell HX.out 1) | (go_at_call 30; refine (inst_told.calls s2 a0 _ _ HM.out).mono ?_; rintro e w4 ⟨rfl, hd4⟩; have HX4 := Aside0.mk (blk_below HX.out hd4.below); have HR4 := Aside0.mk (blk_below HR3.out hd4.below); have HB4 := Aside0.mk (below_then HB3.out HB3.out.size hd4.below); have hlt4 : w.heap.size < w4.heap.size := blk_lt HR4.out; clear hd4 hx1; have hx1 := blk_cell HX4.out 1; have hx2 := blk_lt HX4.out) | (go_at_call 22; refine (inst_needs.calls kq s2 _ _ _ _ _ HN.out).mono ?_; rintro e w5 ⟨rfl, hd5⟩; have HI5 := Aside0.mk (blk_below (heap_alloc_last w4 _) hd5.below); have HR5 := Aside0.mk (blk_below (blk_alloc HR4.out _) hd5.below); have HB5 := Aside0.mk (below_then (below_alloc HB4.out _) (by have := HB4.out.size; simp; omega) hd5.below); clear hd5 hx1 hx2; have hi0 := blk_cell HI5.out 0; have hi1 := blk_cell HI5.out 1; have hi2 := blk_cell HI5.out 2; have hi3 := blk_cell HI5.out 3; have hi4 := blk_cell HI5.out 4; have hj1 := blk_frozen HI5.out 1; have hj2 := blk_frozen HI5.out 2; have hj3 := blk_frozen HI5.out 3; have hr0 := blk_cell HR5.out 0; have hs0 := blk_frozen HR5.out 0; have hr1 := blk_cell HR5.out 1; have hs1 := blk_frozen HR5.out 1; have hr2 := blk_cell HR5.out 2; have hs2 := blk_frozen HR5.out 2; have hr3 := blk_cell HR5.out 3; have hs3 := blk_frozen HR5.out 3; have hr4 := blk_cell HR5.out 4; have hs4 := blk_frozen HR5.out 4) | (go_at_call 31; (with_reducible refine (inst_bits.calls a0 7 5 _ _ HD1.out).mono ?_); rintro e w6 ⟨rfl, hd⟩; have HI6 := Aside0.mk (blk_below (HI5.out) hd.below); have HR6 := Aside0.mk (blk_below (HR5.out) hd.below); have HB6 := Aside0.mk (below_then (HB5.out) (below_size (HB5.out)) hd.below); clear hd; clear hi0 hi1 hi2 hi3 hi4 hj1 hj2 hj3 hr0 hr1 hr2 hr3 hr4 hs0 hs1 hs2 hs3 hs4; have hi0 := blk_cell HI6.out 0; have hi1 := blk_cell HI6.out 1; have hi2 := blk_cell HI6.out 2; have hi3 := blk_cell HI6.out 3; have hi4 := blk_cell HI6.out 4; have hj1 := blk_frozen HI6.out 1; have hj2 := blk_frozen HI6.out 2; have hj3 := blk_frozen HI6.out 3; have hr0 := blk_cell HR6.out 0; have hs0 := blk_frozen HR6.out 0; have hr1 := blk_cell HR6.out 1; have hs1 := blk_frozen HR6.out 1; have hr2 := blk_cell HR6.out 2; have hs2 := blk_frozen HR6.out 2; have hr3 := blk_cell HR6.out 3; have hs3 := blk_frozen HR6.out 3; have hr4 := blk_cell HR6.out 4; have hs4 := blk_frozen HR6.out 4) | (go_at_call 31; (with_reducible refine (inst_bits.calls a0 15 5 _ _ HD2.out).mono ?_); rintro e w7 ⟨rfl, hd⟩; have HI7 := Aside0.mk (blk_below (blk_set HI6.out 1 (.int .i64 (wrap64 q1))) hd.below); have HR7 := Aside0.mk (blk_below (blk_far HR6.out (p := ⟨w4.heap.size, 1, none⟩) (Nat.ne_of_lt hlt4) (.int .i64 (wrap64 q1))) hd.below); have HB7 := Aside0.mk (below_then (below_set (j := 1) (v := .int .i64 (wrap64 q1)) HB6.out (Nat.le_of_lt hlt4)) (below_size (below_set (j := 1) (v := .int .i64 (wrap64 q1)) HB6.out (Nat.le_of_lt hlt4))) hd.below); clear hd; clear hi0 hi1 hi2 hi3 hi4 hj1 hj2 hj3 hr0 hr1 hr2 hr3 hr4 hs0 hs1 hs2 hs3 hs4; have hi0 := blk_cell HI7.out 0; have hi1 := blk_cell HI7.out 1; have hi2 := blk_cell HI7.out 2; have hi3 := blk_cell HI7.out 3; have hi4 := blk_cell HI7.out 4; have hj1 := blk_frozen HI7.out 1; have hj2 := blk_frozen HI7.out 2; have hj3 := blk_frozen HI7.out 3; have hr0 := blk_cell HR7.out 0; have hs0 := blk_frozen HR7.out 0; have hr1 := blk_cell HR7.out 1; have hs1 := blk_frozen HR7.out 1; have hr2 := blk_cell HR7.out 2; have hs2 := blk_frozen HR7.out 2; have hr3 := blk_cell HR7.out 3; have hs3 := blk_frozen HR7.out 3; have hr4 := blk_cell HR7.out 4; have hs4 := blk_frozen HR7.out 4) | (go_at_call 31; (with_reducible refine (inst_bits.calls a0 20 5 _ _ HD3.out).mono ?_); rintro e w8 ⟨rfl, hd⟩; have HI8 := Aside0.mk (blk_below (blk_set HI7.out 2 (.int .i64 (wrap64 q2))) hd.below); have HR8 := Aside0.mk (blk_below (blk_far HR7.out (p := ⟨w4.heap.size, 2, none⟩) (Nat.ne_of_lt hlt4) (.int .i64 (wrap64 q2))) hd.below); have HB8 := Aside0.mk (below_then (below_set (j := 2) (v := .int .i64 (wrap64 q2)) HB7.out (Nat.le_of_lt hlt4)) (below_size (below_set (j := 2) (v := .int .i64 (wrap64 q2)) HB7.out (Nat.le_of_lt hlt4))) hd.below); clear hd; clear hi0 hi1 hi2 hi3 hi4 hj1 hj2 hj3 hr0 hr1 hr2 hr3 hr4 hs0 hs1 hs2 hs3 hs4; have hi0 := blk_cell HI8.out 0; have hi1 := blk_cell HI8.out 1; have hi2 := blk_cell HI8.out 2; have hi3 := blk_cell HI8.out 3; have hi4 := blk_cell HI8.out 4; have hj1 := blk_frozen HI8.out 1; have hj2 := blk_frozen HI8.out 2; have hj3 := blk_frozen HI8.out 3; have hr0 := blk_cell HR8.out 0; have hs0 := blk_frozen HR8.out 0; have hr1 := blk_cell HR8.out 1; have hs1 := blk_frozen HR8.out 1; have hr2 := blk_cell HR8.out 2; have hs2 := blk_frozen HR8.out 2; have hr3 := blk_cell HR8.out 3; have hs3 := blk_frozen HR8.out 3; have hr4 := blk_cell HR8.out 4; have hs4 := blk_frozen HR8.out 4))
          have hz := blk_far HR8.out (p := ⟨w4.heap.size, 3, none⟩) (Nat.ne_of_lt hlt4) (.int .i64 (wrap64 q3))
          replace hz := blk_set hz 0 (.int .i64 ((n : Int)))
          replace hz := blk_set hz 1 (.int .i64 (wrap64 q1))
          replace hz := blk_set hz 2 (.int .i64 (wrap64 q2))
          replace hz := blk_set hz 3 (.int .i64 (wrap64 q3))
          replace hz := blk_set hz 4 (.int .i64 (m))
          have hw := below_set (j := 3) (v := .int .i64 (wrap64 q3)) HB8.out (Nat.le_of_lt hlt4)
          refine bodyPost_ret (results_ct rfl _ _ w.heap.size 23 _ (0, 0) _ rfl (by simpa using hz) Try.underlying23 rfl (by kernel_rfl)) rfl ⟨rfl, ?_⟩
          exact ((((hw.setCell (Nat.le_refl _) _).setCell (Nat.le_refl _) _).setCell (Nat.le_refl _) _).setCell (Nat.le_refl _) _).setCell (Nat.le_refl _) _
    · have h0 := H.out
      clear H
      simp only [inst_Decode.l0] at h0
      rw [if_neg (by omega)] at h0
      simp only [Option.some.injEq, Prod.mk.injEq] at h0
      obtain ⟨rfl, rfl, rfl, rfl, rfl, rfl⟩ := h0
      have hr0 := blk_cell HR.out 0
      have hs0 := blk_frozen HR.out 0
      have hr1 := blk_cell HR.out 1
      have hs1 := blk_frozen HR.out 1
      have hr2 := blk_cell HR.out 2
      have hs2 := blk_frozen HR.out 2
      have hr3 := blk_cell HR.out 3
      have hs3 := blk_frozen HR.out 3
      have hr4 := blk_cell HR.out 4
      have hs4 := blk_frozen HR.out 4
      go_wp2
      have hz := HR.out
      replace hz := blk_set hz 0 (.int .i64 0)
      replace hz := blk_set hz 1 (.int .i64 0)
      replace hz := blk_set hz 2 (.int .i64 0)
      replace hz := blk_set hz 3 (.int .i64 0)
      replace hz := blk_set hz 4 (.int .i64 0)
      refine bodyPost_ret (results_ct rfl _ _ w.heap.size 23 _ (0, 0) _ rfl (by simpa using hz) Try.underlying23 rfl (by kernel_rfl)) rfl ⟨rfl, ?_⟩
      exact ((((HB.out.setCell (Nat.le_refl _) _).setCell (Nat.le_refl _) _).setCell (Nat.le_refl _) _).setCell (Nat.le_refl _) _).setCell (Nat.le_refl _) _
def rushlightlaw02_awake.f (k : Nat)  : Option (Bool) := (inst_Encode.f k 19 1 0 0 5).bind fun bt197 => ((inst_Encode.f k 18 0 1 2 8).bind fun bt199 => ((inst_Decode.f k 5243027).bind fun bt201 => (if bt197.2 = 0 then (if bt199.2 = 0 then (if bt201.2.2.2.2.2 = 0 then (if bt197.1 = 5243027 then (if bt199.1 = 2139171 then (some (bt201.1 == 19 && (bt201.2.1 == 1 && (bt201.2.2.1 == 0 && (bt201.2.2.2.1 == 0 && (bt201.2.2.2.2.1 == 5)))))) else (some false)) else (some false)) else (some false)) else (some false)) else (some false))))
set_option maxHeartbeats 8000000 in
set_option maxRecDepth 100000 in
theorem rushlightlaw02_awake.calls (k : Nat)  (r : Bool) (w : World) (h : rushlightlaw02_awake.f k  = some r) :
    Calls Try.prog 10 #[] w fun e w' => e = .returned (.bool r) ∧ Below w.heap.size w w' := by
  have hu23 := Try.underlying23
  have HB := Aside0.mk (Below.refl w.heap.size w)
  have H : ((inst_Encode.f k 19 1 0 0 5).bind fun bt197 => ((inst_Encode.f k 18 0 1 2 8).bind fun bt199 => ((inst_Decode.f k 5243027).bind fun bt201 => (if bt197.2 = 0 then (if bt199.2 = 0 then (if bt201.2.2.2.2.2 = 0 then (if bt197.1 = 5243027 then (if bt199.1 = 2139171 then (some (bt201.1 == 19 && (bt201.2.1 == 1 && (bt201.2.2.1 == 0 && (bt201.2.2.2.1 == 0 && (bt201.2.2.2.2.1 == 5)))))) else (some false)) else (some false)) else (some false)) else (some false)) else (some false))))) = some r := h
  clear h
  replace H := Option.bind_eq_some_iff.mp H
  obtain ⟨⟨t197, t198⟩, A10, H⟩ := H
  replace H : ((inst_Encode.f k 18 0 1 2 8).bind fun bt199 => ((inst_Decode.f k 5243027).bind fun bt201 => (if t198 = 0 then (if bt199.2 = 0 then (if bt201.2.2.2.2.2 = 0 then (if t197 = 5243027 then (if bt199.1 = 2139171 then (some (bt201.1 == 19 && (bt201.2.1 == 1 && (bt201.2.2.1 == 0 && (bt201.2.2.2.1 == 0 && (bt201.2.2.2.2.1 == 5)))))) else (some false)) else (some false)) else (some false)) else (some false)) else (some false)))) = some r := H
  have A1 := Aside0.mk A10
  clear A10
  replace H := Option.bind_eq_some_iff.mp H
  obtain ⟨⟨t199, t200⟩, A20, H⟩ := H
  replace H : ((inst_Decode.f k 5243027).bind fun bt201 => (if t198 = 0 then (if t200 = 0 then (if bt201.2.2.2.2.2 = 0 then (if t197 = 5243027 then (if t199 = 2139171 then (some (bt201.1 == 19 && (bt201.2.1 == 1 && (bt201.2.2.1 == 0 && (bt201.2.2.2.1 == 0 && (bt201.2.2.2.2.1 == 5)))))) else (some false)) else (some false)) else (some false)) else (some false)) else (some false))) = some r := H
  have A2 := Aside0.mk A20
  clear A20
  replace H := Option.bind_eq_some_iff.mp H
  obtain ⟨⟨t201, t202, t203, t204, t205, t206⟩, A30, H⟩ := H
  replace H : (if t198 = 0 then (if t200 = 0 then (if t206 = 0 then (if t197 = 5243027 then (if t199 = 2139171 then (some (t201 == 19 && (t202 == 1 && (t203 == 0 && (t204 == 0 && (t205 == 5)))))) else (some false)) else (some false)) else (some false)) else (some false)) else (some false)) = some r := H
  have A3 := Aside0.mk A30
  clear A30
  by_cases c4 : t198 = 0
  · rw [if_pos c4] at H
    have c4b0 : (t198 == 0) = true := beq_iff_eq.mpr c4
    have c4b1 : (t198 != 0) = false := bne_eq_false_iff_eq.mpr c4
    clear c4
    by_cases c5 : t200 = 0
    · rw [if_pos c5] at H
      have c5b0 : (t200 == 0) = true := beq_iff_eq.mpr c5
      have c5b1 : (t200 != 0) = false := bne_eq_false_iff_eq.mpr c5
      clear c5
      by_cases c6 : t206 = 0
      · rw [if_pos c6] at H
        have c6b0 : (t206 == 0) = true := beq_iff_eq.mpr c6
        have c6b1 : (t206 != 0) = false := bne_eq_false_iff_eq.mpr c6
        clear c6
        by_cases c7 : t197 = 5243027
        · rw [if_pos c7] at H
          have c7b0 : (t197 == 5243027) = true := beq_iff_eq.mpr c7
          have c7b1 : (t197 != 5243027) = false := bne_eq_false_iff_eq.mpr c7
          clear c7
          by_cases c8 : t199 = 2139171
          · rw [if_pos c8] at H
            have c8b0 : (t199 == 2139171) = true := beq_iff_eq.mpr c8
            have c8b1 : (t199 != 2139171) = false := bne_eq_false_iff_eq.mpr c8
            clear c8
            obtain rfl := Option.some.inj H
            go_enter Try.func10, Try.ntmps10
            go_wp2_with (first | ((with_reducible refine gate_callee (f := 8) rfl ?_); refine goesL_ (some 9) rfl rfl Try.func8 (by kernel_rfl) rfl #[.agg #[.int .i64 19, .int .i64 1, .int .i64 0, .int .i64 0, .int .i64 5]] rfl (by (try simp only [List.map_toArray, List.map_cons, List.map_nil]); first | done | rfl | (simp only [List.length_drop, List.length_take]; rfl)) ?_; (with_reducible refine (inst_Encode.calls k 19 1 0 0 5 t197 t198 _ A1.out).mono ?_); rintro e w9 ⟨rfl, hb⟩; refine ⟨_, rfl, ?_⟩; have n0_ := Aside0.mk (below_step (by repeat (first | (with_reducible first | exact HB.out | apply below_alloc | apply pw_below_drewN | apply below_drew1) | exact HB.out)) hb); clear HB; have HB := n0_; clear n0_; (try clear hb); (try clear hb2); (try clear hk); (try clear hi)) | ((with_reducible refine gate_callee (f := 8) rfl ?_); refine goesL_ (some 14) rfl rfl Try.func8 (by kernel_rfl) rfl #[.agg #[.int .i64 18, .int .i64 0, .int .i64 1, .int .i64 2, .int .i64 8]] rfl (by (try simp only [List.map_toArray, List.map_cons, List.map_nil]); first | done | rfl | (simp only [List.length_drop, List.length_take]; rfl)) ?_; (with_reducible refine (inst_Encode.calls k 18 0 1 2 8 t199 t200 _ A2.out).mono ?_); rintro e w10 ⟨rfl, hb⟩; refine ⟨_, rfl, ?_⟩; have n0_ := Aside0.mk (below_step (by repeat (first | (with_reducible first | exact HB.out | apply below_alloc | apply pw_below_drewN | apply below_drew1) | exact HB.out)) hb); clear HB; have HB := n0_; clear n0_; (try clear hb); (try clear hb2); (try clear hk); (try clear hi)) | ((with_reducible refine gate_callee (f := 13) rfl ?_); refine goesL_ (some 18) rfl rfl Try.func13 (by kernel_rfl) rfl #[.int .u32 5243027] rfl (by (try simp only [List.map_toArray, List.map_cons, List.map_nil]); first | done | rfl | (simp only [List.length_drop, List.length_take]; rfl)) ?_; (with_reducible refine (inst_Decode.calls k 5243027 t201 t202 t203 t204 t205 t206 _ A3.out).mono ?_); rintro e w11 ⟨rfl, hb⟩; refine ⟨_, rfl, ?_⟩; have n0_ := Aside0.mk (below_step (by repeat (first | (with_reducible first | exact HB.out | apply below_alloc | apply pw_below_drewN | apply below_drew1) | exact HB.out)) hb); clear HB; have HB := n0_; clear n0_; (try clear hb); (try clear hb2); (try clear hk); (try clear hi)) | ((with_reducible refine gate_dst (N := 5) rfl ?_); refine box_event ?hg (N := 5) ?hd (cs := #[.int .i64 0, .int .i64 0, .int .i64 0, .int .i64 0, .int .i64 0]) (t := 23) ?hr ?_; (case hd => rfl); (case hg => rfl); (case hr => first | (go_simp; done) | (go_simp; rfl)); intro gb207 hg w12 hbox hb; have n0_ := Aside0.mk (below_step (by repeat (first | (with_reducible first | exact HB.out | apply below_alloc | apply pw_below_drewN | apply below_drew1) | exact HB.out)) hb); have n1_ := Aside0.mk (hbox); have n2_ := Aside0.mk ((by rw [hg]; exact (below_size (by repeat (first | (with_reducible first | exact HB.out | apply below_alloc | apply pw_below_drewN | apply below_drew1) | exact HB.out))) : w.heap.size ≤ gb207)); have n3_ := Aside0.mk ((by rw [hg]; exact (below_size (by repeat (first | (with_reducible first | exact HB.out | apply below_alloc | apply pw_below_drewN | apply below_drew1) | exact HB.out))) : w.heap.size ≤ gb207)); clear HB; have HB := n0_; have BK207 := n1_; have GW207 := n2_; have GE207 := n3_; clear n0_ n1_ n2_ n3_; clear hb hbox hg; have hcz13_0 : w12.cell? ⟨gb207, 0, none⟩ = some (.int .i64 0) := (blk_cell BK207.out 0).trans rfl; have hcz13_1 : w12.cell? ⟨gb207, 1, none⟩ = some (.int .i64 0) := (blk_cell BK207.out 1).trans rfl; have hcz13_2 : w12.cell? ⟨gb207, 2, none⟩ = some (.int .i64 0) := (blk_cell BK207.out 2).trans rfl; have hcz13_3 : w12.cell? ⟨gb207, 3, none⟩ = some (.int .i64 0) := (blk_cell BK207.out 3).trans rfl; have hcz13_4 : w12.cell? ⟨gb207, 4, none⟩ = some (.int .i64 0) := (blk_cell BK207.out 4).trans rfl; have hfz13_0 := blk_frozen BK207.out 0; have hfz13_1 := blk_frozen BK207.out 1; have hfz13_2 := blk_frozen BK207.out 2; have hfz13_3 := blk_frozen BK207.out 3; have hfz13_4 := blk_frozen BK207.out 4))
            go_ret
            exact ⟨by first | rfl | (simp [errW_none, errW_some] <;> rfl) | (simp [*, errW_none, errW_some] <;> rfl), by repeat (first | (with_reducible first | exact HB.out | apply below_alloc | apply pw_below_drewN | apply below_drew1 | refine below_set ?_ GE207.out) | exact HB.out)⟩
          · rw [if_neg c8] at H
            have c8b0 : (t199 == 2139171) = false := beq_eq_false_iff_ne.mpr c8
            have c8b1 : (t199 != 2139171) = true := bne_iff_ne.mpr c8
            obtain rfl := Option.some.inj H
            go_enter Try.func10, Try.ntmps10
            go_wp2_with (first | ((with_reducible refine gate_callee (f := 8) rfl ?_); refine goesL_ (some 9) rfl rfl Try.func8 (by kernel_rfl) rfl #[.agg #[.int .i64 19, .int .i64 1, .int .i64 0, .int .i64 0, .int .i64 5]] rfl (by (try simp only [List.map_toArray, List.map_cons, List.map_nil]); first | done | rfl | (simp only [List.length_drop, List.length_take]; rfl)) ?_; (with_reducible refine (inst_Encode.calls k 19 1 0 0 5 t197 t198 _ A1.out).mono ?_); rintro e w14 ⟨rfl, hb⟩; refine ⟨_, rfl, ?_⟩; have n0_ := Aside0.mk (below_step (by repeat (first | (with_reducible first | exact HB.out | apply below_alloc | apply pw_below_drewN | apply below_drew1) | exact HB.out)) hb); clear HB; have HB := n0_; clear n0_; (try clear hb); (try clear hb2); (try clear hk); (try clear hi)) | ((with_reducible refine gate_callee (f := 8) rfl ?_); refine goesL_ (some 14) rfl rfl Try.func8 (by kernel_rfl) rfl #[.agg #[.int .i64 18, .int .i64 0, .int .i64 1, .int .i64 2, .int .i64 8]] rfl (by (try simp only [List.map_toArray, List.map_cons, List.map_nil]); first | done | rfl | (simp only [List.length_drop, List.length_take]; rfl)) ?_; (with_reducible refine (inst_Encode.calls k 18 0 1 2 8 t199 t200 _ A2.out).mono ?_); rintro e w15 ⟨rfl, hb⟩; refine ⟨_, rfl, ?_⟩; have n0_ := Aside0.mk (below_step (by repeat (first | (with_reducible first | exact HB.out | apply below_alloc | apply pw_below_drewN | apply below_drew1) | exact HB.out)) hb); clear HB; have HB := n0_; clear n0_; (try clear hb); (try clear hb2); (try clear hk); (try clear hi)) | ((with_reducible refine gate_callee (f := 13) rfl ?_); refine goesL_ (some 18) rfl rfl Try.func13 (by kernel_rfl) rfl #[.int .u32 5243027] rfl (by (try simp only [List.map_toArray, List.map_cons, List.map_nil]); first | done | rfl | (simp only [List.length_drop, List.length_take]; rfl)) ?_; (with_reducible refine (inst_Decode.calls k 5243027 t201 t202 t203 t204 t205 t206 _ A3.out).mono ?_); rintro e w16 ⟨rfl, hb⟩; refine ⟨_, rfl, ?_⟩; have n0_ := Aside0.mk (below_step (by repeat (first | (with_reducible first | exact HB.out | apply below_alloc | apply pw_below_drewN | apply below_drew1) | exact HB.out)) hb); clear HB; have HB := n0_; clear n0_; (try clear hb); (try clear hb2); (try clear hk); (try clear hi)) | ((with_reducible refine gate_dst (N := 5) rfl ?_); refine box_event ?hg (N := 5) ?hd (cs := #[.int .i64 0, .int .i64 0, .int .i64 0, .int .i64 0, .int .i64 0]) (t := 23) ?hr ?_; (case hd => rfl); (case hg => rfl); (case hr => first | (go_simp; done) | (go_simp; rfl)); intro gb207 hg w17 hbox hb; have n0_ := Aside0.mk (below_step (by repeat (first | (with_reducible first | exact HB.out | apply below_alloc | apply pw_below_drewN | apply below_drew1) | exact HB.out)) hb); have n1_ := Aside0.mk (hbox); have n2_ := Aside0.mk ((by rw [hg]; exact (below_size (by repeat (first | (with_reducible first | exact HB.out | apply below_alloc | apply pw_below_drewN | apply below_drew1) | exact HB.out))) : w.heap.size ≤ gb207)); have n3_ := Aside0.mk ((by rw [hg]; exact (below_size (by repeat (first | (with_reducible first | exact HB.out | apply below_alloc | apply pw_below_drewN | apply below_drew1) | exact HB.out))) : w.heap.size ≤ gb207)); clear HB; have HB := n0_; have BK207 := n1_; have GW207 := n2_; have GE207 := n3_; clear n0_ n1_ n2_ n3_; clear hb hbox hg; have hcz18_0 : w17.cell? ⟨gb207, 0, none⟩ = some (.int .i64 0) := (blk_cell BK207.out 0).trans rfl; have hcz18_1 : w17.cell? ⟨gb207, 1, none⟩ = some (.int .i64 0) := (blk_cell BK207.out 1).trans rfl; have hcz18_2 : w17.cell? ⟨gb207, 2, none⟩ = some (.int .i64 0) := (blk_cell BK207.out 2).trans rfl; have hcz18_3 : w17.cell? ⟨gb207, 3, none⟩ = some (.int .i64 0) := (blk_cell BK207.out 3).trans rfl; have hcz18_4 : w17.cell? ⟨gb207, 4, none⟩ = some (.int .i64 0) := (blk_cell BK207.out 4).trans rfl; have hfz18_0 := blk_frozen BK207.out 0; have hfz18_1 := blk_frozen BK207.out 1; have hfz18_2 := blk_frozen BK207.out 2; have hfz18_3 := blk_frozen BK207.out 3; have hfz18_4 := blk_frozen BK207.out 4))
            go_ret
            exact ⟨by first | rfl | (simp [errW_none, errW_some] <;> rfl) | (simp [*, errW_none, errW_some] <;> rfl), by repeat (first | (with_reducible first | exact HB.out | apply below_alloc | apply pw_below_drewN | apply below_drew1 | refine below_set ?_ GE207.out) | exact HB.out)⟩
        · rw [if_neg c7] at H
          have c7b0 : (t197 == 5243027) = false := beq_eq_false_iff_ne.mpr c7
          have c7b1 : (t197 != 5243027) = true := bne_iff_ne.mpr c7
          obtain rfl := Option.some.inj H
          go_enter Try.func10, Try.ntmps10
          go_wp2_with (first | ((with_reducible refine gate_callee (f := 8) rfl ?_); refine goesL_ (some 9) rfl rfl Try.func8 (by kernel_rfl) rfl #[.agg #[.int .i64 19, .int .i64 1, .int .i64 0, .int .i64 0, .int .i64 5]] rfl (by (try simp only [List.map_toArray, List.map_cons, List.map_nil]); first | done | rfl | (simp only [List.length_drop, List.length_take]; rfl)) ?_; (with_reducible refine (inst_Encode.calls k 19 1 0 0 5 t197 t198 _ A1.out).mono ?_); rintro e w19 ⟨rfl, hb⟩; refine ⟨_, rfl, ?_⟩; have n0_ := Aside0.mk (below_step (by repeat (first | (with_reducible first | exact HB.out | apply below_alloc | apply pw_below_drewN | apply below_drew1) | exact HB.out)) hb); clear HB; have HB := n0_; clear n0_; (try clear hb); (try clear hb2); (try clear hk); (try clear hi)) | ((with_reducible refine gate_callee (f := 8) rfl ?_); refine goesL_ (some 14) rfl rfl Try.func8 (by kernel_rfl) rfl #[.agg #[.int .i64 18, .int .i64 0, .int .i64 1, .int .i64 2, .int .i64 8]] rfl (by (try simp only [List.map_toArray, List.map_cons, List.map_nil]); first | done | rfl | (simp only [List.length_drop, List.length_take]; rfl)) ?_; (with_reducible refine (inst_Encode.calls k 18 0 1 2 8 t199 t200 _ A2.out).mono ?_); rintro e w20 ⟨rfl, hb⟩; refine ⟨_, rfl, ?_⟩; have n0_ := Aside0.mk (below_step (by repeat (first | (with_reducible first | exact HB.out | apply below_alloc | apply pw_below_drewN | apply below_drew1) | exact HB.out)) hb); clear HB; have HB := n0_; clear n0_; (try clear hb); (try clear hb2); (try clear hk); (try clear hi)) | ((with_reducible refine gate_callee (f := 13) rfl ?_); refine goesL_ (some 18) rfl rfl Try.func13 (by kernel_rfl) rfl #[.int .u32 5243027] rfl (by (try simp only [List.map_toArray, List.map_cons, List.map_nil]); first | done | rfl | (simp only [List.length_drop, List.length_take]; rfl)) ?_; (with_reducible refine (inst_Decode.calls k 5243027 t201 t202 t203 t204 t205 t206 _ A3.out).mono ?_); rintro e w21 ⟨rfl, hb⟩; refine ⟨_, rfl, ?_⟩; have n0_ := Aside0.mk (below_step (by repeat (first | (with_reducible first | exact HB.out | apply below_alloc | apply pw_below_drewN | apply below_drew1) | exact HB.out)) hb); clear HB; have HB := n0_; clear n0_; (try clear hb); (try clear hb2); (try clear hk); (try clear hi)) | ((with_reducible refine gate_dst (N := 5) rfl ?_); refine box_event ?hg (N := 5) ?hd (cs := #[.int .i64 0, .int .i64 0, .int .i64 0, .int .i64 0, .int .i64 0]) (t := 23) ?hr ?_; (case hd => rfl); (case hg => rfl); (case hr => first | (go_simp; done) | (go_simp; rfl)); intro gb207 hg w22 hbox hb; have n0_ := Aside0.mk (below_step (by repeat (first | (with_reducible first | exact HB.out | apply below_alloc | apply pw_below_drewN | apply below_drew1) | exact HB.out)) hb); have n1_ := Aside0.mk (hbox); have n2_ := Aside0.mk ((by rw [hg]; exact (below_size (by repeat (first | (with_reducible first | exact HB.out | apply below_alloc | apply pw_below_drewN | apply below_drew1) | exact HB.out))) : w.heap.size ≤ gb207)); have n3_ := Aside0.mk ((by rw [hg]; exact (below_size (by repeat (first | (with_reducible first | exact HB.out | apply below_alloc | apply pw_below_drewN | apply below_drew1) | exact HB.out))) : w.heap.size ≤ gb207)); clear HB; have HB := n0_; have BK207 := n1_; have GW207 := n2_; have GE207 := n3_; clear n0_ n1_ n2_ n3_; clear hb hbox hg; have hcz23_0 : w22.cell? ⟨gb207, 0, none⟩ = some (.int .i64 0) := (blk_cell BK207.out 0).trans rfl; have hcz23_1 : w22.cell? ⟨gb207, 1, none⟩ = some (.int .i64 0) := (blk_cell BK207.out 1).trans rfl; have hcz23_2 : w22.cell? ⟨gb207, 2, none⟩ = some (.int .i64 0) := (blk_cell BK207.out 2).trans rfl; have hcz23_3 : w22.cell? ⟨gb207, 3, none⟩ = some (.int .i64 0) := (blk_cell BK207.out 3).trans rfl; have hcz23_4 : w22.cell? ⟨gb207, 4, none⟩ = some (.int .i64 0) := (blk_cell BK207.out 4).trans rfl; have hfz23_0 := blk_frozen BK207.out 0; have hfz23_1 := blk_frozen BK207.out 1; have hfz23_2 := blk_frozen BK207.out 2; have hfz23_3 := blk_frozen BK207.out 3; have hfz23_4 := blk_frozen BK207.out 4))
          go_ret
          exact ⟨by first | rfl | (simp [errW_none, errW_some] <;> rfl) | (simp [*, errW_none, errW_some] <;> rfl), by repeat (first | (with_reducible first | exact HB.out | apply below_alloc | apply pw_below_drewN | apply below_drew1 | refine below_set ?_ GE207.out) | exact HB.out)⟩
      · rw [if_neg c6] at H
        have c6b0 : (t206 == 0) = false := beq_eq_false_iff_ne.mpr c6
        have c6b1 : (t206 != 0) = true := bne_iff_ne.mpr c6
        obtain rfl := Option.some.inj H
        go_enter Try.func10, Try.ntmps10
        go_wp2_with (first | ((with_reducible refine gate_callee (f := 8) rfl ?_); refine goesL_ (some 9) rfl rfl Try.func8 (by kernel_rfl) rfl #[.agg #[.int .i64 19, .int .i64 1, .int .i64 0, .int .i64 0, .int .i64 5]] rfl (by (try simp only [List.map_toArray, List.map_cons, List.map_nil]); first | done | rfl | (simp only [List.length_drop, List.length_take]; rfl)) ?_; (with_reducible refine (inst_Encode.calls k 19 1 0 0 5 t197 t198 _ A1.out).mono ?_); rintro e w24 ⟨rfl, hb⟩; refine ⟨_, rfl, ?_⟩; have n0_ := Aside0.mk (below_step (by repeat (first | (with_reducible first | exact HB.out | apply below_alloc | apply pw_below_drewN | apply below_drew1) | exact HB.out)) hb); clear HB; have HB := n0_; clear n0_; (try clear hb); (try clear hb2); (try clear hk); (try clear hi)) | ((with_reducible refine gate_callee (f := 8) rfl ?_); refine goesL_ (some 14) rfl rfl Try.func8 (by kernel_rfl) rfl #[.agg #[.int .i64 18, .int .i64 0, .int .i64 1, .int .i64 2, .int .i64 8]] rfl (by (try simp only [List.map_toArray, List.map_cons, List.map_nil]); first | done | rfl | (simp only [List.length_drop, List.length_take]; rfl)) ?_; (with_reducible refine (inst_Encode.calls k 18 0 1 2 8 t199 t200 _ A2.out).mono ?_); rintro e w25 ⟨rfl, hb⟩; refine ⟨_, rfl, ?_⟩; have n0_ := Aside0.mk (below_step (by repeat (first | (with_reducible first | exact HB.out | apply below_alloc | apply pw_below_drewN | apply below_drew1) | exact HB.out)) hb); clear HB; have HB := n0_; clear n0_; (try clear hb); (try clear hb2); (try clear hk); (try clear hi)) | ((with_reducible refine gate_callee (f := 13) rfl ?_); refine goesL_ (some 18) rfl rfl Try.func13 (by kernel_rfl) rfl #[.int .u32 5243027] rfl (by (try simp only [List.map_toArray, List.map_cons, List.map_nil]); first | done | rfl | (simp only [List.length_drop, List.length_take]; rfl)) ?_; (with_reducible refine (inst_Decode.calls k 5243027 t201 t202 t203 t204 t205 t206 _ A3.out).mono ?_); rintro e w26 ⟨rfl, hb⟩; refine ⟨_, rfl, ?_⟩; have n0_ := Aside0.mk (below_step (by repeat (first | (with_reducible first | exact HB.out | apply below_alloc | apply pw_below_drewN | apply below_drew1) | exact HB.out)) hb); clear HB; have HB := n0_; clear n0_; (try clear hb); (try clear hb2); (try clear hk); (try clear hi)) | ((with_reducible refine gate_dst (N := 5) rfl ?_); refine box_event ?hg (N := 5) ?hd (cs := #[.int .i64 0, .int .i64 0, .int .i64 0, .int .i64 0, .int .i64 0]) (t := 23) ?hr ?_; (case hd => rfl); (case hg => rfl); (case hr => first | (go_simp; done) | (go_simp; rfl)); intro gb207 hg w27 hbox hb; have n0_ := Aside0.mk (below_step (by repeat (first | (with_reducible first | exact HB.out | apply below_alloc | apply pw_below_drewN | apply below_drew1) | exact HB.out)) hb); have n1_ := Aside0.mk (hbox); have n2_ := Aside0.mk ((by rw [hg]; exact (below_size (by repeat (first | (with_reducible first | exact HB.out | apply below_alloc | apply pw_below_drewN | apply below_drew1) | exact HB.out))) : w.heap.size ≤ gb207)); have n3_ := Aside0.mk ((by rw [hg]; exact (below_size (by repeat (first | (with_reducible first | exact HB.out | apply below_alloc | apply pw_below_drewN | apply below_drew1) | exact HB.out))) : w.heap.size ≤ gb207)); clear HB; have HB := n0_; have BK207 := n1_; have GW207 := n2_; have GE207 := n3_; clear n0_ n1_ n2_ n3_; clear hb hbox hg; have hcz28_0 : w27.cell? ⟨gb207, 0, none⟩ = some (.int .i64 0) := (blk_cell BK207.out 0).trans rfl; have hcz28_1 : w27.cell? ⟨gb207, 1, none⟩ = some (.int .i64 0) := (blk_cell BK207.out 1).trans rfl; have hcz28_2 : w27.cell? ⟨gb207, 2, none⟩ = some (.int .i64 0) := (blk_cell BK207.out 2).trans rfl; have hcz28_3 : w27.cell? ⟨gb207, 3, none⟩ = some (.int .i64 0) := (blk_cell BK207.out 3).trans rfl; have hcz28_4 : w27.cell? ⟨gb207, 4, none⟩ = some (.int .i64 0) := (blk_cell BK207.out 4).trans rfl; have hfz28_0 := blk_frozen BK207.out 0; have hfz28_1 := blk_frozen BK207.out 1; have hfz28_2 := blk_frozen BK207.out 2; have hfz28_3 := blk_frozen BK207.out 3; have hfz28_4 := blk_frozen BK207.out 4))
        go_ret
        exact ⟨by first | rfl | (simp [errW_none, errW_some] <;> rfl) | (simp [*, errW_none, errW_some] <;> rfl), by repeat (first | (with_reducible first | exact HB.out | apply below_alloc | apply pw_below_drewN | apply below_drew1 | refine below_set ?_ GE207.out) | exact HB.out)⟩
    · rw [if_neg c5] at H
      have c5b0 : (t200 == 0) = false := beq_eq_false_iff_ne.mpr c5
      have c5b1 : (t200 != 0) = true := bne_iff_ne.mpr c5
      obtain rfl := Option.some.inj H
      go_enter Try.func10, Try.ntmps10
      go_wp2_with (first | ((with_reducible refine gate_callee (f := 8) rfl ?_); refine goesL_ (some 9) rfl rfl Try.func8 (by kernel_rfl) rfl #[.agg #[.int .i64 19, .int .i64 1, .int .i64 0, .int .i64 0, .int .i64 5]] rfl (by (try simp only [List.map_toArray, List.map_cons, List.map_nil]); first | done | rfl | (simp only [List.length_drop, List.length_take]; rfl)) ?_; (with_reducible refine (inst_Encode.calls k 19 1 0 0 5 t197 t198 _ A1.out).mono ?_); rintro e w29 ⟨rfl, hb⟩; refine ⟨_, rfl, ?_⟩; have n0_ := Aside0.mk (below_step (by repeat (first | (with_reducible first | exact HB.out | apply below_alloc | apply pw_below_drewN | apply below_drew1) | exact HB.out)) hb); clear HB; have HB := n0_; clear n0_; (try clear hb); (try clear hb2); (try clear hk); (try clear hi)) | ((with_reducible refine gate_callee (f := 8) rfl ?_); refine goesL_ (some 14) rfl rfl Try.func8 (by kernel_rfl) rfl #[.agg #[.int .i64 18, .int .i64 0, .int .i64 1, .int .i64 2, .int .i64 8]] rfl (by (try simp only [List.map_toArray, List.map_cons, List.map_nil]); first | done | rfl | (simp only [List.length_drop, List.length_take]; rfl)) ?_; (with_reducible refine (inst_Encode.calls k 18 0 1 2 8 t199 t200 _ A2.out).mono ?_); rintro e w30 ⟨rfl, hb⟩; refine ⟨_, rfl, ?_⟩; have n0_ := Aside0.mk (below_step (by repeat (first | (with_reducible first | exact HB.out | apply below_alloc | apply pw_below_drewN | apply below_drew1) | exact HB.out)) hb); clear HB; have HB := n0_; clear n0_; (try clear hb); (try clear hb2); (try clear hk); (try clear hi)) | ((with_reducible refine gate_callee (f := 13) rfl ?_); refine goesL_ (some 18) rfl rfl Try.func13 (by kernel_rfl) rfl #[.int .u32 5243027] rfl (by (try simp only [List.map_toArray, List.map_cons, List.map_nil]); first | done | rfl | (simp only [List.length_drop, List.length_take]; rfl)) ?_; (with_reducible refine (inst_Decode.calls k 5243027 t201 t202 t203 t204 t205 t206 _ A3.out).mono ?_); rintro e w31 ⟨rfl, hb⟩; refine ⟨_, rfl, ?_⟩; have n0_ := Aside0.mk (below_step (by repeat (first | (with_reducible first | exact HB.out | apply below_alloc | apply pw_below_drewN | apply below_drew1) | exact HB.out)) hb); clear HB; have HB := n0_; clear n0_; (try clear hb); (try clear hb2); (try clear hk); (try clear hi)) | ((with_reducible refine gate_dst (N := 5) rfl ?_); refine box_event ?hg (N := 5) ?hd (cs := #[.int .i64 0, .int .i64 0, .int .i64 0, .int .i64 0, .int .i64 0]) (t := 23) ?hr ?_; (case hd => rfl); (case hg => rfl); (case hr => first | (go_simp; done) | (go_simp; rfl)); intro gb207 hg w32 hbox hb; have n0_ := Aside0.mk (below_step (by repeat (first | (with_reducible first | exact HB.out | apply below_alloc | apply pw_below_drewN | apply below_drew1) | exact HB.out)) hb); have n1_ := Aside0.mk (hbox); have n2_ := Aside0.mk ((by rw [hg]; exact (below_size (by repeat (first | (with_reducible first | exact HB.out | apply below_alloc | apply pw_below_drewN | apply below_drew1) | exact HB.out))) : w.heap.size ≤ gb207)); have n3_ := Aside0.mk ((by rw [hg]; exact (below_size (by repeat (first | (with_reducible first | exact HB.out | apply below_alloc | apply pw_below_drewN | apply below_drew1) | exact HB.out))) : w.heap.size ≤ gb207)); clear HB; have HB := n0_; have BK207 := n1_; have GW207 := n2_; have GE207 := n3_; clear n0_ n1_ n2_ n3_; clear hb hbox hg; have hcz33_0 : w32.cell? ⟨gb207, 0, none⟩ = some (.int .i64 0) := (blk_cell BK207.out 0).trans rfl; have hcz33_1 : w32.cell? ⟨gb207, 1, none⟩ = some (.int .i64 0) := (blk_cell BK207.out 1).trans rfl; have hcz33_2 : w32.cell? ⟨gb207, 2, none⟩ = some (.int .i64 0) := (blk_cell BK207.out 2).trans rfl; have hcz33_3 : w32.cell? ⟨gb207, 3, none⟩ = some (.int .i64 0) := (blk_cell BK207.out 3).trans rfl; have hcz33_4 : w32.cell? ⟨gb207, 4, none⟩ = some (.int .i64 0) := (blk_cell BK207.out 4).trans rfl; have hfz33_0 := blk_frozen BK207.out 0; have hfz33_1 := blk_frozen BK207.out 1; have hfz33_2 := blk_frozen BK207.out 2; have hfz33_3 := blk_frozen BK207.out 3; have hfz33_4 := blk_frozen BK207.out 4))
      go_ret
      exact ⟨by first | rfl | (simp [errW_none, errW_some] <;> rfl) | (simp [*, errW_none, errW_some] <;> rfl), by repeat (first | (with_reducible first | exact HB.out | apply below_alloc | apply pw_below_drewN | apply below_drew1 | refine below_set ?_ GE207.out) | exact HB.out)⟩
  · rw [if_neg c4] at H
    have c4b0 : (t198 == 0) = false := beq_eq_false_iff_ne.mpr c4
    have c4b1 : (t198 != 0) = true := bne_iff_ne.mpr c4
    obtain rfl := Option.some.inj H
    go_enter Try.func10, Try.ntmps10
    go_wp2_with (first | ((with_reducible refine gate_callee (f := 8) rfl ?_); refine goesL_ (some 9) rfl rfl Try.func8 (by kernel_rfl) rfl #[.agg #[.int .i64 19, .int .i64 1, .int .i64 0, .int .i64 0, .int .i64 5]] rfl (by (try simp only [List.map_toArray, List.map_cons, List.map_nil]); first | done | rfl | (simp only [List.length_drop, List.length_take]; rfl)) ?_; (with_reducible refine (inst_Encode.calls k 19 1 0 0 5 t197 t198 _ A1.out).mono ?_); rintro e w34 ⟨rfl, hb⟩; refine ⟨_, rfl, ?_⟩; have n0_ := Aside0.mk (below_step (by repeat (first | (with_reducible first | exact HB.out | apply below_alloc | apply pw_below_drewN | apply below_drew1) | exact HB.out)) hb); clear HB; have HB := n0_; clear n0_; (try clear hb); (try clear hb2); (try clear hk); (try clear hi)) | ((with_reducible refine gate_callee (f := 8) rfl ?_); refine goesL_ (some 14) rfl rfl Try.func8 (by kernel_rfl) rfl #[.agg #[.int .i64 18, .int .i64 0, .int .i64 1, .int .i64 2, .int .i64 8]] rfl (by (try simp only [List.map_toArray, List.map_cons, List.map_nil]); first | done | rfl | (simp only [List.length_drop, List.length_take]; rfl)) ?_; (with_reducible refine (inst_Encode.calls k 18 0 1 2 8 t199 t200 _ A2.out).mono ?_); rintro e w35 ⟨rfl, hb⟩; refine ⟨_, rfl, ?_⟩; have n0_ := Aside0.mk (below_step (by repeat (first | (with_reducible first | exact HB.out | apply below_alloc | apply pw_below_drewN | apply below_drew1) | exact HB.out)) hb); clear HB; have HB := n0_; clear n0_; (try clear hb); (try clear hb2); (try clear hk); (try clear hi)) | ((with_reducible refine gate_callee (f := 13) rfl ?_); refine goesL_ (some 18) rfl rfl Try.func13 (by kernel_rfl) rfl #[.int .u32 5243027] rfl (by (try simp only [List.map_toArray, List.map_cons, List.map_nil]); first | done | rfl | (simp only [List.length_drop, List.length_take]; rfl)) ?_; (with_reducible refine (inst_Decode.calls k 5243027 t201 t202 t203 t204 t205 t206 _ A3.out).mono ?_); rintro e w36 ⟨rfl, hb⟩; refine ⟨_, rfl, ?_⟩; have n0_ := Aside0.mk (below_step (by repeat (first | (with_reducible first | exact HB.out | apply below_alloc | apply pw_below_drewN | apply below_drew1) | exact HB.out)) hb); clear HB; have HB := n0_; clear n0_; (try clear hb); (try clear hb2); (try clear hk); (try clear hi)) | ((with_reducible refine gate_dst (N := 5) rfl ?_); refine box_event ?hg (N := 5) ?hd (cs := #[.int .i64 0, .int .i64 0, .int .i64 0, .int .i64 0, .int .i64 0]) (t := 23) ?hr ?_; (case hd => rfl); (case hg => rfl); (case hr => first | (go_simp; done) | (go_simp; rfl)); intro gb207 hg w37 hbox hb; have n0_ := Aside0.mk (below_step (by repeat (first | (with_reducible first | exact HB.out | apply below_alloc | apply pw_below_drewN | apply below_drew1) | exact HB.out)) hb); have n1_ := Aside0.mk (hbox); have n2_ := Aside0.mk ((by rw [hg]; exact (below_size (by repeat (first | (with_reducible first | exact HB.out | apply below_alloc | apply pw_below_drewN | apply below_drew1) | exact HB.out))) : w.heap.size ≤ gb207)); have n3_ := Aside0.mk ((by rw [hg]; exact (below_size (by repeat (first | (with_reducible first | exact HB.out | apply below_alloc | apply pw_below_drewN | apply below_drew1) | exact HB.out))) : w.heap.size ≤ gb207)); clear HB; have HB := n0_; have BK207 := n1_; have GW207 := n2_; have GE207 := n3_; clear n0_ n1_ n2_ n3_; clear hb hbox hg; have hcz38_0 : w37.cell? ⟨gb207, 0, none⟩ = some (.int .i64 0) := (blk_cell BK207.out 0).trans rfl; have hcz38_1 : w37.cell? ⟨gb207, 1, none⟩ = some (.int .i64 0) := (blk_cell BK207.out 1).trans rfl; have hcz38_2 : w37.cell? ⟨gb207, 2, none⟩ = some (.int .i64 0) := (blk_cell BK207.out 2).trans rfl; have hcz38_3 : w37.cell? ⟨gb207, 3, none⟩ = some (.int .i64 0) := (blk_cell BK207.out 3).trans rfl; have hcz38_4 : w37.cell? ⟨gb207, 4, none⟩ = some (.int .i64 0) := (blk_cell BK207.out 4).trans rfl; have hfz38_0 := blk_frozen BK207.out 0; have hfz38_1 := blk_frozen BK207.out 1; have hfz38_2 := blk_frozen BK207.out 2; have hfz38_3 := blk_frozen BK207.out 3; have hfz38_4 := blk_frozen BK207.out 4))
    go_ret
    exact ⟨by first | rfl | (simp [errW_none, errW_some] <;> rfl) | (simp [*, errW_none, errW_some] <;> rfl), by repeat (first | (with_reducible first | exact HB.out | apply below_alloc | apply pw_below_drewN | apply below_drew1 | refine below_set ?_ GE207.out) | exact HB.out)⟩
end Go.Proofs.Ytjanolcelfjgeaa.P
end
section
namespace Go.Proofs.Ytjanolcelfjgeaa.P
open Go.RowKit Go.Proofs.YtjanolcelfjgeaaW.PrintWords Go.Proofs.YtjanolcelfjgeaaW.PrintLast Go.Proofs.YtjanolcelfjgeaaW.PrintMore
attribute [local go_sem] max2_int min2_int max_two min_two max_three min_three max_four min_four   
set_option linter.unusedVariables false
set_option linter.unusedSimpArgs false
def rushlightref02_signed.f (k : Nat) (a0 : Int) (a1 : Int) : Option (Int) := (rushlightref02_two.f k (wrap64 (a1 - 1))).bind fun t216 => (if a0 ≥ t216 then ((rushlightref02_two.f k a1).bind fun t217 => (some (wrap64 (a0 - t217)))) else (some a0))
set_option maxHeartbeats 8000000 in
set_option maxRecDepth 100000 in
theorem rushlightref02_signed.calls (k : Nat) (a0 : Int) (a1 : Int) (r : Int) (w : World) (h : rushlightref02_signed.f k a0 a1 = some r) :
    Calls Try.prog 40 #[.int .i64 a0, .int .i64 a1] w fun e w' => e = .returned (.int .i64 r) ∧ Drawn0 w w' := by
  have H : ((rushlightref02_two.f k (wrap64 (a1 - 1))).bind fun t216 => (if a0 ≥ t216 then ((rushlightref02_two.f k a1).bind fun t217 => (some (wrap64 (a0 - t217)))) else (some a0))) = some r := h
  clear h
  replace H := Option.bind_eq_some_iff.mp H
  obtain ⟨t216, A30, H⟩ := H
  replace H : (if a0 ≥ t216 then ((rushlightref02_two.f k a1).bind fun t217 => (some (wrap64 (a0 - t217)))) else (some a0)) = some r := H
  have A3 := Aside0.mk A30
  clear A30
  by_cases c4 : a0 ≥ t216
  · rw [if_pos c4] at H
    have c4b0 : decide (t216 ≤ a0) = true := decide_eq_true c4
    clear c4
    replace H := Option.bind_eq_some_iff.mp H
    obtain ⟨t217, A50, H⟩ := H
    replace H : (some (wrap64 (a0 - t217))) = some r := H
    have A5 := Aside0.mk A50
    clear A50
    obtain rfl := Option.some.inj H
    go_enter Try.func40, Try.ntmps40
    go_wp2_with (first | ((with_reducible refine gate_callee (f := 35) rfl ?_); refine goesL_ (some 8) rfl rfl Try.func35 (by kernel_rfl) rfl #[.int .i64 (wrap64 (a1 - 1))] rfl (by (try simp only [List.map_toArray, List.map_cons, List.map_nil]); first | done | rfl | (simp only [List.length_drop, List.length_take]; rfl)) ?_; (with_reducible refine (rushlightref02_two.calls k (wrap64 (a1 - 1)) t216 _ A3.out).mono ?_); rintro e w' ⟨rfl, ⟨nd, rfl⟩⟩; refine ⟨_, rfl, ?_⟩) | ((with_reducible refine gate_callee (f := 35) rfl ?_); refine goesL_ (some 12) rfl rfl Try.func35 (by kernel_rfl) rfl #[.int .i64 a1] rfl (by (try simp only [List.map_toArray, List.map_cons, List.map_nil]); first | done | rfl | (simp only [List.length_drop, List.length_take]; rfl)) ?_; (with_reducible refine (rushlightref02_two.calls k a1 t217 _ A5.out).mono ?_); rintro e w' ⟨rfl, ⟨nd, rfl⟩⟩; refine ⟨_, rfl, ?_⟩))
    go_ret
    exact ⟨by first | rfl | (simp; done) | (simp [*]; done), by repeat (first | exact Drawn0.refl _ | apply Drawn0.step)⟩
  · rw [if_neg c4] at H
    have c4b0 : decide (t216 ≤ a0) = false := decide_eq_false c4
    clear c4
    obtain rfl := Option.some.inj H
    go_enter Try.func40, Try.ntmps40
    go_wp2_with (first | ((with_reducible refine gate_callee (f := 35) rfl ?_); refine goesL_ (some 8) rfl rfl Try.func35 (by kernel_rfl) rfl #[.int .i64 (wrap64 (a1 - 1))] rfl (by (try simp only [List.map_toArray, List.map_cons, List.map_nil]); first | done | rfl | (simp only [List.length_drop, List.length_take]; rfl)) ?_; (with_reducible refine (rushlightref02_two.calls k (wrap64 (a1 - 1)) t216 _ A3.out).mono ?_); rintro e w' ⟨rfl, ⟨nd, rfl⟩⟩; refine ⟨_, rfl, ?_⟩))
    go_ret
    exact ⟨by first | rfl | (simp; done) | (simp [*]; done), by repeat (first | exact Drawn0.refl _ | apply Drawn0.step)⟩
end Go.Proofs.Ytjanolcelfjgeaa.P
end
