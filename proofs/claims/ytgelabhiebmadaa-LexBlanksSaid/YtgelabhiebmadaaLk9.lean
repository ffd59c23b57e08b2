/- A claim's text, put together by a program of this session (wip/tools/shake.py): the declarations that the claim needs. -/
import Derived.Test.YtgelabhiebmadaaLk0
import Derived.Test.YtgelabhiebmadaaLk1
import Derived.Test.YtgelabhiebmadaaLk2
import Derived.Test.YtgelabhiebmadaaLk3
import Derived.Test.YtgelabhiebmadaaLk4
import Derived.Test.YtgelabhiebmadaaLk5
import Derived.Test.YtgelabhiebmadaaLk6
import Derived.Test.YtgelabhiebmadaaLk7
import Derived.Test.YtgelabhiebmadaaLk8
import Derived.Test.YtgelabhiebmadaaProg
import Derived.Below
import Derived.Deep.Draws
import Derived.Deep.AppendLies
import Derived.Maps.AppendAt
import Derived.OwnWalk
import Derived.Laws.BytesArg
import Derived.Laws.MakeOwn
import Derived.Laws.OwnMore
import Derived.Deep.OwnRows
import Derived.Tactics
import Derived.Lib.ConvBytes
import Derived.Laws.Slices
import Derived.WalkKit
import Derived.KernelRfl
import Derived.RowKit3
import Derived.Deep.LoopGhost
import Derived.Deep.QuietTactic
import Derived.BigQuiet
import Derived.WideLaws
import Derived.Deep.DeepCutAuto
import Derived.Deep.CutBlock
import Derived.Deep.RegionHeld3
import Derived.Laws.Rows
import Derived.Lib.AppendStr
import Derived.ArgAppend
import Derived.Laws.IdiomCopy
import Derived.OrdersHeld
import Derived.Laws.BitsLemmas
import Derived.RowKit
import Derived.Deep.WholeRow
import Derived.Outline
import Derived.WalkMore
import Derived.ScopeJumps
import Derived.Deep.DeepFit
import Derived.Carry
import Derived.WalkArith
import Derived.RegionTactic
import Derived.ChangeAlike
import Derived.Shelf.Strings.Builder1
import Derived.Shelf.Strings.Builder2
import Derived.Shelf.Strings.OnBuilder
import Derived.Shelf.Strings.Search1
import Derived.Shelf.Strings.Search2
import Derived.Shelf.Strings.Search3
import Derived.Shelf.LaysM
import Derived.Shelf.Strings.Shaped
import Derived.Laws.StructEq
set_option linter.unusedVariables false
set_option linter.unusedSimpArgs false
section
namespace Go.Proofs.Ytgelabhiebmadaa.P
open Go.RowKit Go.Proofs.YtgelabhiebmadaaW.PrintWords Go.Proofs.YtgelabhiebmadaaW.PrintLast Go.Proofs.YtgelabhiebmadaaW.PrintMore
attribute [local go_sem] max2_int min2_int max_two min_two max_three min_three max_four min_four   
set_option linter.unusedVariables false
set_option linter.unusedSimpArgs false
mutual
def rushlightlaw07_LexBlanks.j0 : Nat → ByteArray → List Int → Bool → Option (Bool)
  | 0, _, _, _ => none
  | k + 1, x0, x1, x23 => if x23 = true then ((rushlightlaw07_awake.f k).bind fun t186 => (some t186)) else ((lex_Lex.f k x0).bind fun bt187 => (if bt187.2.2.2 = 0 then (rushlightlaw07_LexBlanks.l0 k x1 bt187.1 (([(⟨#[32]⟩ : ByteArray), (⟨#[10]⟩ : ByteArray), (⟨#[9, 13]⟩ : ByteArray), (⟨#[32, 47, 42, 32, 42, 32, 47, 32, 39, 32, 42, 47]⟩ : ByteArray), (⟨#[32, 47, 47, 32, 47, 42, 10]⟩ : ByteArray), (⟨#[32, 47, 42, 42, 47, 32]⟩ : ByteArray)] : List ByteArray)) (⟨#[47, 42, 42, 42, 47]⟩ : ByteArray) 0) else ((rushlightlaw07_awake.f k).bind fun t194 => (some t194))))
def rushlightlaw07_LexBlanks.l0 : Nat → List Int → List (S33) → List ByteArray → ByteArray → Int → Option (Bool)
  | 0, _, _, _, _, _ => none
  | k + 1, x1, x5, x8, x9, x10 => if x10 < (x5.length : Int) then (if x10 < (x1.length : Int) then (if 0 ≤ x10 then (if (x8.length : Int) = 0 then (none) else (if x9.size + ((rd_T33 x5 x10).f1).size ≤ 9223372036854775807 then (if 0 ≤ (Int.tmod (wrap64 (rd x1 x10)) (x8.length : Int)) then (if (Int.tmod (wrap64 (rd x1 x10)) (x8.length : Int)) < (x8.length : Int) then (if (x9 ++ ((rd_T33 x5 x10).f1)).size + (rdOf ByteArray.empty x8 (Int.tmod (wrap64 (rd x1 x10)) (x8.length : Int))).size ≤ 9223372036854775807 then (rushlightlaw07_LexBlanks.l0 k x1 x5 x8 ((x9 ++ ((rd_T33 x5 x10).f1)) ++ (rdOf ByteArray.empty x8 (Int.tmod (wrap64 (rd x1 x10)) (x8.length : Int)))) (wrap64 (x10 + 1))) else (none)) else (none)) else (none)) else (none))) else (none)) else (if 0 ≤ x10 then (if x9.size + ((rd_T33 x5 x10).f1).size ≤ 9223372036854775807 then (if 0 < (x8.length : Int) then (if (x9 ++ ((rd_T33 x5 x10).f1)).size + (rdOf ByteArray.empty x8 0).size ≤ 9223372036854775807 then (rushlightlaw07_LexBlanks.l0 k x1 x5 x8 ((x9 ++ ((rd_T33 x5 x10).f1)) ++ (rdOf ByteArray.empty x8 0)) (wrap64 (x10 + 1))) else (none)) else (none)) else (none)) else (none))) else (if x9.size + 2 ≤ 9223372036854775807 then ((lex_Lex.f k (x9 ++ (⟨#[47, 47]⟩ : ByteArray))).bind fun bt203 => (if bt203.2.2.2 = 0 then (rushlightlaw07_LexBlanks.j2 k x5 bt203.1 ((bt203.1.length : Int) != (x5.length : Int))) else (rushlightlaw07_LexBlanks.j2 k x5 bt203.1 true))) else (none))
def rushlightlaw07_LexBlanks.j2 : Nat → List (S33) → List (S33) → Bool → Option (Bool)
  | 0, _, _, _ => none
  | k + 1, x5, x12, x80 => if x80 = true then (some false) else (rushlightlaw07_LexBlanks.l1 k x5 x12 0)
def rushlightlaw07_LexBlanks.l1 : Nat → List (S33) → List (S33) → Int → Option (Bool)
  | 0, _, _, _ => none
  | k + 1, x5, x12, x15 => if x15 < (x12.length : Int) then (if 0 ≤ x15 then (if x15 < (x5.length : Int) then (if ((rd_T33 x12 x15).f0) = ((rd_T33 x5 x15).f0) then (if ((rd_T33 x12 x15).f1).toList = ((rd_T33 x5 x15).f1).toList then (if ((rd_T33 x12 x15).f2) = ((rd_T33 x5 x15).f2) then (rushlightlaw07_LexBlanks.l1 k x5 x12 (wrap64 (x15 + 1))) else (some false)) else (some false)) else (some false)) else (none)) else (none)) else ((rushlightlaw07_awake.f k).bind fun t216 => (some t216))
end
def rushlightlaw07_LexBlanks.f (k : Nat) (a0 : ByteArray) (l1 : List Int) : Option (Bool) := if (a0.size : Int) > 1000 then (rushlightlaw07_LexBlanks.j0 k a0 l1 true) else (rushlightlaw07_LexBlanks.j0 k a0 l1 (decide ((l1.length : Int) > 400)))
set_option maxHeartbeats 8000000 in
set_option maxRecDepth 100000 in
theorem rushlightlaw07_LexBlanks.calls (k : Nat) (a0 : ByteArray) (A1 : Option Addr) (c1 : Nat) (l1 : List Int) (r : Bool) (w : World) (hG : G0 w) (hr1 : Kd.C (Kd.int .u8) w A1 l1.length l1) (hc1 : l1.length ≤ c1) (h : rushlightlaw07_LexBlanks.f k a0 l1 = some r) :
    Calls Try.prog 3 #[.string a0, .slice A1 l1.length c1] w fun e w' => e = .returned (.bool r) ∧ Below w.heap.size w w' := by
  have HG0 := Aside0.mk hG
  clear hG
  have hu26 := Try.underlying26
  have HR1 := Aside0.mk hr1
  have HC1 := Aside0.mk hc1
  clear hr1 hc1
  have HB := Aside0.mk (Below.refl w.heap.size w)
  have H : (if (a0.size : Int) > 1000 then (rushlightlaw07_LexBlanks.j0 k a0 l1 true) else (rushlightlaw07_LexBlanks.j0 k a0 l1 (decide ((l1.length : Int) > 400)))) = some r := h
  clear h
  have HC3 := Aside0.mk H
  clear H
  go_enter Try.func3, Try.ntmps3
  go_upto_region 1 with (fail)
  repeat (go_quiet (fail); go_upto_region 1 with (fail))
  go_cut [23] (fun v23 wc => ∃ (kq : Nat) (x23_2 : Bool), v23 = .bool x23_2 ∧ Aside0 (rushlightlaw07_LexBlanks.j0 kq a0 l1 x23_2 = some r) ∧ Aside0 (kq ≤ k) ∧ Aside0 (Below w.heap.size w wc))
  case first =>
    have H := HC3.out
    clear HC3
    by_cases c4 : (a0.size : Int) > 1000
    · rw [if_pos c4] at H
      have c4b0 : decide (1000 < (a0.size : Int)) = true := decide_eq_true c4
      have c4b1 : decide (1000 < a0.size) = true := decide_eq_true (by omega)
      clear c4
      (first | rw [c4b0] | (simp only [i64_w, i32_w]; rw [c4b0]) | skip)
      have H' := Aside0.mk H
      clear H
      go_wp2
      repeat (go_quiet (fail); try go_wp2)
      go_meet
      case rel => exact ⟨_, (true), (by first | rfl | (simp; done) | (simp [*]; done)), H', ⟨by first | omega | exact Nat.le_refl _⟩, ⟨by repeat (first | (with_reducible first | exact HB.out | apply below_alloc | apply pw_below_drewN | apply below_drew1) | exact HB.out)⟩⟩
    · rw [if_neg c4] at H
      have c4b0 : decide (1000 < (a0.size : Int)) = false := decide_eq_false c4
      have c4b1 : decide (1000 < a0.size) = false := decide_eq_false (by omega)
      clear c4
      (first | rw [c4b0] | (simp only [i64_w, i32_w]; rw [c4b0]) | skip)
      have H' := Aside0.mk H
      clear H
      go_wp2
      repeat (go_quiet (fail); try go_wp2)
      go_meet
      case rel => exact ⟨_, (decide ((l1.length : Int) > 400)), (by first | rfl | (simp; done) | (simp [*]; done)), H', ⟨by first | omega | exact Nat.le_refl _⟩, ⟨by repeat (first | (with_reducible first | exact HB.out | apply below_alloc | apply pw_below_drewN | apply below_drew1) | exact HB.out)⟩⟩
  case rest =>
    clear HC3
    try clear c1
    try clear p2
    try clear c3
    try clear c4
    try clear c4b0
    try clear c4b1
    obtain ⟨kq, x23_2, rfl, HA, HJ2, HB⟩ := hcut
    cases kq with
    | zero => exact absurd HA.out (by simp [rushlightlaw07_LexBlanks.j0])
    | succ kj2 =>
      have H := HA.out
      clear HA
      simp only [rushlightlaw07_LexBlanks.j0] at H
      by_cases c5 : x23_2 = true
      · subst c5
        have H1 : ((rushlightlaw07_awake.f kj2).bind fun t186 => (some t186)) = some r := by rw [if_pos rfl] at H; exact H
        clear H
        have H := H1
        clear H1
        replace H := Option.bind_eq_some_iff.mp H
        obtain ⟨t186, A60, H⟩ := H
        replace H : (some t186) = some r := H
        have A6 := Aside0.mk A60
        clear A60
        obtain rfl := Option.some.inj H
        go_wp2_with (first | (go_at_call 7; (with_reducible refine (rushlightlaw07_awake.calls kj2  t186 _ ?sG A6.out).mono ?_); (case sG => exact G0.at_ HG0.out (by repeat (first | (with_reducible first | exact HB.out | exact Below.refl _ _ | apply below_alloc | apply pw_below_drewN | apply below_drew1 | apply below_drew | exact Drawn0.below (by assumption)) | exact HB.out | (refine below_set ?_ (Aside0.out (by assumption)))))); rintro e w7 ⟨rfl, hb⟩; have n0_ := Aside0.mk (below_step (by repeat (first | (with_reducible first | exact HB.out | apply below_alloc | apply pw_below_drewN | apply below_drew1) | exact HB.out)) hb); clear HB; have HB := n0_; clear n0_; (try clear hb); (try clear hb2); (try clear hk); (try clear hi)))
        repeat (go_quiet (first | (go_at_call 7; (with_reducible refine (rushlightlaw07_awake.calls kj2  t186 _ ?sG A6.out).mono ?_); (case sG => exact G0.at_ HG0.out (by repeat (first | (with_reducible first | exact HB.out | exact Below.refl _ _ | apply below_alloc | apply pw_below_drewN | apply below_drew1 | apply below_drew | exact Drawn0.below (by assumption)) | exact HB.out | (refine below_set ?_ (Aside0.out (by assumption)))))); rintro e w7 ⟨rfl, hb⟩; have n0_ := Aside0.mk (below_step (by repeat (first | (with_reducible first | exact HB.out | apply below_alloc | apply pw_below_drewN | apply below_drew1) | exact HB.out)) hb); clear HB; have HB := n0_; clear n0_; (try clear hb); (try clear hb2); (try clear hk); (try clear hi))); try go_wp2_with (first | (go_at_call 7; (with_reducible refine (rushlightlaw07_awake.calls kj2  t186 _ ?sG A6.out).mono ?_); (case sG => exact G0.at_ HG0.out (by repeat (first | (with_reducible first | exact HB.out | exact Below.refl _ _ | apply below_alloc | apply pw_below_drewN | apply below_drew1 | apply below_drew | exact Drawn0.below (by assumption)) | exact HB.out | (refine below_set ?_ (Aside0.out (by assumption)))))); rintro e w7 ⟨rfl, hb⟩; have n0_ := Aside0.mk (below_step (by repeat (first | (with_reducible first | exact HB.out | apply below_alloc | apply pw_below_drewN | apply below_drew1) | exact HB.out)) hb); clear HB; have HB := n0_; clear n0_; (try clear hb); (try clear hb2); (try clear hk); (try clear hi))))
        go_ret
        exact ⟨by first | rfl | (simp [errW_none, errW_some] <;> rfl) | (simp [*, errW_none, errW_some] <;> rfl), by repeat (first | (with_reducible first | exact HB.out | apply below_alloc | apply pw_below_drewN | apply below_drew1) | exact HB.out)⟩
      · replace c5 := Bool.eq_false_iff.mpr c5
        subst c5
        have H1 : ((lex_Lex.f kj2 a0).bind fun bt187 => (if bt187.2.2.2 = 0 then (rushlightlaw07_LexBlanks.l0 kj2 l1 bt187.1 (([(⟨#[32]⟩ : ByteArray), (⟨#[10]⟩ : ByteArray), (⟨#[9, 13]⟩ : ByteArray), (⟨#[32, 47, 42, 32, 42, 32, 47, 32, 39, 32, 42, 47]⟩ : ByteArray), (⟨#[32, 47, 47, 32, 47, 42, 10]⟩ : ByteArray), (⟨#[32, 47, 42, 42, 47, 32]⟩ : ByteArray)] : List ByteArray)) (⟨#[47, 42, 42, 42, 47]⟩ : ByteArray) 0) else ((rushlightlaw07_awake.f kj2).bind fun t194 => (some t194)))) = some r := by rw [if_neg (show ¬ (false = true) by decide)] at H; exact H
        clear H
        have H := H1
        clear H1
        replace H := Option.bind_eq_some_iff.mp H
        obtain ⟨⟨t187, t190, t191, t192⟩, A80, H⟩ := H
        replace H : (if t192 = 0 then (rushlightlaw07_LexBlanks.l0 kj2 l1 t187 (([(⟨#[32]⟩ : ByteArray), (⟨#[10]⟩ : ByteArray), (⟨#[9, 13]⟩ : ByteArray), (⟨#[32, 47, 42, 32, 42, 32, 47, 32, 39, 32, 42, 47]⟩ : ByteArray), (⟨#[32, 47, 47, 32, 47, 42, 10]⟩ : ByteArray), (⟨#[32, 47, 42, 42, 47, 32]⟩ : ByteArray)] : List ByteArray)) (⟨#[47, 42, 42, 42, 47]⟩ : ByteArray) 0) else ((rushlightlaw07_awake.f kj2).bind fun t194 => (some t194))) = some r := H
        have A8 := Aside0.mk A80
        clear A80
        by_cases c9 : t192 = 0
        · rw [if_pos c9] at H
          have c9b0 : (t192 == 0) = true := beq_iff_eq.mpr c9
          have c9b1 : (t192 != 0) = false := bne_eq_false_iff_eq.mpr c9
          clear c9
          obtain ⟨y195, hy195⟩ : ∃ y_ : List ByteArray, y_ = (([(⟨#[32]⟩ : ByteArray), (⟨#[10]⟩ : ByteArray), (⟨#[9, 13]⟩ : ByteArray), (⟨#[32, 47, 42, 32, 42, 32, 47, 32, 39, 32, 42, 47]⟩ : ByteArray), (⟨#[32, 47, 47, 32, 47, 42, 10]⟩ : ByteArray), (⟨#[32, 47, 42, 42, 47, 32]⟩ : ByteArray)] : List ByteArray)) := ⟨_, rfl⟩
          replace H : (rushlightlaw07_LexBlanks.l0 kj2 l1 t187 y195 (⟨#[47, 42, 42, 42, 47]⟩ : ByteArray) 0) = some r := by first | (rw [hy195]; with_reducible exact H) | (have H2_ := (Option.bind_some _ _).symm.trans H; rw [hy195]; with_reducible exact H2_) | (have H2_ := (Option.bind_some _ _).symm.trans H; with_reducible exact H2_) | with_reducible exact H | (rw [hy195]; exact H) | exact H
          have Ny195 := Aside0.mk hy195
          clear hy195
          have H' := Aside0.mk H
          clear H
          go_wp2_with (first | (go_at_call 8; (with_reducible refine (lex_Lex.calls kj2 a0 t187 t190 t191 t192 _ ?sG A8.out).mono ?_); (case sG => exact G0.at_ HG0.out (by repeat (first | (with_reducible first | exact HB.out | exact Below.refl _ _ | apply below_alloc | apply pw_below_drewN | apply below_drew1 | apply below_drew | exact Drawn0.below (by assumption)) | exact HB.out | (refine below_set ?_ (Aside0.out (by assumption)))))); rintro e w10 ⟨v188, rfl, ho0, hb⟩; have n0_ := Aside0.mk (Kd.R_lower ho0 (below_size (by repeat (first | (with_reducible first | exact HB.out | apply below_alloc | apply pw_below_drewN | apply below_drew1) | exact HB.out)))); have n1_ := Aside0.mk (below_step (by repeat (first | (with_reducible first | exact HB.out | apply below_alloc | apply pw_below_drewN | apply below_drew1) | exact HB.out)) hb); clear HB; have HO189 := n0_; have HB := n1_; clear n0_ n1_; (try clear hb); (try clear hb2); (try clear hk); (try clear hi); (try clear ho0)) | ((with_reducible refine gate_dst (N := 6) rfl ?_); (try (refine gate_guard (by rfl) ?_; dsimp only)); refine box_event ?hg (N := 6) ?hd (cs := #[.int .i64 0, .int .i64 0]) (t := 26) ?hr ?_; (case hd => rfl); (case hg => rfl); (case hr => first | (go_simp; done) | (go_simp; rfl)); intro gb193 hg w11 hbox hb; have n0_ := Aside0.mk (Kd.R_below (by (with_reducible repeat (first | apply Kd.R_alloc | apply Kd.R_drewN | apply Kd.R_drew)); exact HO189.out) hb); have n1_ := Aside0.mk (below_step (by repeat (first | (with_reducible first | exact HB.out | apply below_alloc | apply pw_below_drewN | apply below_drew1) | exact HB.out)) hb); have n2_ := Aside0.mk (hbox); have n3_ := Aside0.mk ((by rw [hg]; exact (below_size (by repeat (first | (with_reducible first | exact HB.out | apply below_alloc | apply pw_below_drewN | apply below_drew1) | exact HB.out))) : w.heap.size ≤ gb193)); have n4_ := Aside0.mk ((by rw [hg]; exact (below_size (by repeat (first | (with_reducible first | exact HB.out | apply below_alloc | apply pw_below_drewN | apply below_drew1) | exact HB.out))) : w.heap.size ≤ gb193)); clear HO189; clear HB; have HO189 := n0_; have HB := n1_; have BK193 := n2_; have GW193 := n3_; have GE193 := n4_; clear n0_ n1_ n2_ n3_ n4_; clear hb hbox hg; have hcz12_0 : w11.cell? ⟨gb193, 0, none⟩ = some (.int .i64 0) := (blk_cell BK193.out 0).trans rfl; have hcz12_1 : w11.cell? ⟨gb193, 1, none⟩ = some (.int .i64 0) := (blk_cell BK193.out 1).trans rfl; have hfz12_0 := blk_frozen BK193.out 0; have hfz12_1 := blk_frozen BK193.out 1) | ((with_reducible refine gate_dst (N := 34) rfl ?_); (try (refine gate_guard (by rfl) ?_; dsimp only)); refine Kd.R_lit Kd.string _ 9 ?hg (N := 34) ?hd (xs := ([(⟨#[32]⟩ : ByteArray), (⟨#[10]⟩ : ByteArray), (⟨#[9, 13]⟩ : ByteArray), (⟨#[32, 47, 42, 32, 42, 32, 47, 32, 39, 32, 42, 47]⟩ : ByteArray), (⟨#[32, 47, 47, 32, 47, 42, 10]⟩ : ByteArray), (⟨#[32, 47, 42, 42, 47, 32]⟩ : ByteArray)] : List ByteArray)) (inner := [.string (⟨#[32]⟩ : ByteArray), .string (⟨#[10]⟩ : ByteArray), .string (⟨#[9, 13]⟩ : ByteArray), .string (⟨#[32, 47, 42, 32, 42, 32, 47, 32, 39, 32, 42, 47]⟩ : ByteArray), .string (⟨#[32, 47, 47, 32, 47, 42, 10]⟩ : ByteArray), .string (⟨#[32, 47, 42, 42, 47, 32]⟩ : ByteArray)]) (ok := fun _ => True) (okp := fun _ => True) ?hr ?hp (fun _ hk => hk) trivial (Below.refl _ _) (Nat.le_refl _) (by simp) ?_; (case hd => rfl); (case hg => rfl); (case hr => first | (go_simp; done) | (go_simp; rfl)); (case hp => exact (Reps.one (show Kd.M Kd.string _ _ _ (⟨#[32]⟩ : ByteArray) [.string (⟨#[32]⟩ : ByteArray)] from rfl) (Reps.one (show Kd.M Kd.string _ _ _ (⟨#[10]⟩ : ByteArray) [.string (⟨#[10]⟩ : ByteArray)] from rfl) (Reps.one (show Kd.M Kd.string _ _ _ (⟨#[9, 13]⟩ : ByteArray) [.string (⟨#[9, 13]⟩ : ByteArray)] from rfl) (Reps.one (show Kd.M Kd.string _ _ _ (⟨#[32, 47, 42, 32, 42, 32, 47, 32, 39, 32, 42, 47]⟩ : ByteArray) [.string (⟨#[32, 47, 42, 32, 42, 32, 47, 32, 39, 32, 42, 47]⟩ : ByteArray)] from rfl) (Reps.one (show Kd.M Kd.string _ _ _ (⟨#[32, 47, 47, 32, 47, 42, 10]⟩ : ByteArray) [.string (⟨#[32, 47, 47, 32, 47, 42, 10]⟩ : ByteArray)] from rfl) (Reps.one (show Kd.M Kd.string _ _ _ (⟨#[32, 47, 42, 42, 47, 32]⟩ : ByteArray) [.string (⟨#[32, 47, 42, 42, 47, 32]⟩ : ByteArray)] from rfl) (Reps.none _ _)))))))); intro v196 w13 ho14 hb hg_ hnew_; clear hg_ hnew_; (first | rw [← Ny195.out] at ho14 | (simp only [Int.reduceToNat] at ho14; rw [← Ny195.out] at ho14)); have n0_ := Aside0.mk (Kd.R_below (by (with_reducible repeat (first | apply Kd.R_alloc | apply Kd.R_drewN | apply Kd.R_drew)); exact (Kd.R_mono (Kd.R_far (p := ⟨gb193, 1, none⟩) (Kd.R_far (p := ⟨gb193, 0, none⟩) (Kd.R_types HO189.out BK193.out (by decide)) (fun _ hk => hk.2) (.int .i64 t190)) (fun _ hk => hk.2) (.int .i64 t191)) (fun _ h_ => h_.1))) hb); have n1_ := Aside0.mk (Kd.R_lower ho14 (below_size (by repeat (first | (with_reducible first | exact HB.out | apply below_alloc | apply pw_below_drewN | apply below_drew1 | refine below_set ?_ GE193.out) | exact HB.out)))); have n2_ := Aside0.mk (blk_below (g := gb193) (o := .cells #[.int .i64 t190, .int .i64 t191] 26 (0, 0)) (by (with_reducible repeat (first | refine blk_drewN ?_ _ | refine blk_drew ?_ | refine blk_alloc ?_ _)); refine blk_put (cs := #[.int .i64 t190, .int .i64 0]) ?_ 1 _ rfl; (with_reducible repeat (first | refine blk_drewN ?_ _ | refine blk_drew ?_ | refine blk_alloc ?_ _)); refine blk_put (cs := #[.int .i64 0, .int .i64 0]) ?_ 0 _ rfl; (with_reducible repeat (first | refine blk_drewN ?_ _ | refine blk_drew ?_ | refine blk_alloc ?_ _)); exact BK193.out) hb); have n3_ := Aside0.mk (below_step (by repeat (first | (with_reducible first | exact HB.out | apply below_alloc | apply pw_below_drewN | apply below_drew1 | refine below_set ?_ GE193.out) | exact HB.out)) hb); clear HO189; clear BK193; clear HB; have HO189 := n0_; have HO197 := n1_; have BK193 := n2_; have HB := n3_; clear n0_ n1_ n2_ n3_; clear hb ho14))
          repeat (go_quiet (first | (go_at_call 8; (with_reducible refine (lex_Lex.calls kj2 a0 t187 t190 t191 t192 _ ?sG A8.out).mono ?_); (case sG => exact G0.at_ HG0.out (by repeat (first | (with_reducible first | exact HB.out | exact Below.refl _ _ | apply below_alloc | apply pw_below_drewN | apply below_drew1 | apply below_drew | exact Drawn0.below (by assumption)) | exact HB.out | (refine below_set ?_ (Aside0.out (by assumption)))))); rintro e w10 ⟨v188, rfl, ho0, hb⟩; have n0_ := Aside0.mk (Kd.R_lower ho0 (below_size (by repeat (first | (with_reducible first | exact HB.out | apply below_alloc | apply pw_below_drewN | apply below_drew1) | exact HB.out)))); have n1_ := Aside0.mk (below_step (by repeat (first | (with_reducible first | exact HB.out | apply below_alloc | apply pw_below_drewN | apply below_drew1) | exact HB.out)) hb); clear HB; have HO189 := n0_; have HB := n1_; clear n0_ n1_; (try clear hb); (try clear hb2); (try clear hk); (try clear hi); (try clear ho0)) | ((with_reducible refine gate_dst (N := 6) rfl ?_); (try (refine gate_guard (by rfl) ?_; dsimp only)); refine box_event ?hg (N := 6) ?hd (cs := #[.int .i64 0, .int .i64 0]) (t := 26) ?hr ?_; (case hd => rfl); (case hg => rfl); (case hr => first | (go_simp; done) | (go_simp; rfl)); intro gb193 hg w11 hbox hb; have n0_ := Aside0.mk (Kd.R_below (by (with_reducible repeat (first | apply Kd.R_alloc | apply Kd.R_drewN | apply Kd.R_drew)); exact HO189.out) hb); have n1_ := Aside0.mk (below_step (by repeat (first | (with_reducible first | exact HB.out | apply below_alloc | apply pw_below_drewN | apply below_drew1) | exact HB.out)) hb); have n2_ := Aside0.mk (hbox); have n3_ := Aside0.mk ((by rw [hg]; exact (below_size (by repeat (first | (with_reducible first | exact HB.out | apply below_alloc | apply pw_below_drewN | apply below_drew1) | exact HB.out))) : w.heap.size ≤ gb193)); have n4_ := Aside0.mk ((by rw [hg]; exact (below_size (by repeat (first | (with_reducible first | exact HB.out | apply below_alloc | apply pw_below_drewN | apply below_drew1) | exact HB.out))) : w.heap.size ≤ gb193)); clear HO189; clear HB; have HO189 := n0_; have HB := n1_; have BK193 := n2_; have GW193 := n3_; have GE193 := n4_; clear n0_ n1_ n2_ n3_ n4_; clear hb hbox hg; have hcz12_0 : w11.cell? ⟨gb193, 0, none⟩ = some (.int .i64 0) := (blk_cell BK193.out 0).trans rfl; have hcz12_1 : w11.cell? ⟨gb193, 1, none⟩ = some (.int .i64 0) := (blk_cell BK193.out 1).trans rfl; have hfz12_0 := blk_frozen BK193.out 0; have hfz12_1 := blk_frozen BK193.out 1) | ((with_reducible refine gate_dst (N := 34) rfl ?_); (try (refine gate_guard (by rfl) ?_; dsimp only)); refine Kd.R_lit Kd.string _ 9 ?hg (N := 34) ?hd (xs := ([(⟨#[32]⟩ : ByteArray), (⟨#[10]⟩ : ByteArray), (⟨#[9, 13]⟩ : ByteArray), (⟨#[32, 47, 42, 32, 42, 32, 47, 32, 39, 32, 42, 47]⟩ : ByteArray), (⟨#[32, 47, 47, 32, 47, 42, 10]⟩ : ByteArray), (⟨#[32, 47, 42, 42, 47, 32]⟩ : ByteArray)] : List ByteArray)) (inner := [.string (⟨#[32]⟩ : ByteArray), .string (⟨#[10]⟩ : ByteArray), .string (⟨#[9, 13]⟩ : ByteArray), .string (⟨#[32, 47, 42, 32, 42, 32, 47, 32, 39, 32, 42, 47]⟩ : ByteArray), .string (⟨#[32, 47, 47, 32, 47, 42, 10]⟩ : ByteArray), .string (⟨#[32, 47, 42, 42, 47, 32]⟩ : ByteArray)]) (ok := fun _ => True) (okp := fun _ => True) ?hr ?hp (fun _ hk => hk) trivial (Below.refl _ _) (Nat.le_refl _) (by simp) ?_; (case hd => rfl); (case hg => rfl); (case hr => first | (go_simp; done) | (go_simp; rfl)); (case hp => exact (Reps.one (show Kd.M Kd.string _ _ _ (⟨#[32]⟩ : ByteArray) [.string (⟨#[32]⟩ : ByteArray)] from rfl) (Reps.one (show Kd.M Kd.string _ _ _ (⟨#[10]⟩ : ByteArray) [.string (⟨#[10]⟩ : ByteArray)] from rfl) (Reps.one (show Kd.M Kd.string _ _ _ (⟨#[9, 13]⟩ : ByteArray) [.string (⟨#[9, 13]⟩ : ByteArray)] from rfl) (Reps.one (show Kd.M Kd.string _ _ _ (⟨#[32, 47, 42, 32, 42, 32, 47, 32, 39, 32, 42, 47]⟩ : ByteArray) [.string (⟨#[32, 47, 42, 32, 42, 32, 47, 32, 39, 32, 42, 47]⟩ : ByteArray)] from rfl) (Reps.one (show Kd.M Kd.string _ _ _ (⟨#[32, 47, 47, 32, 47, 42, 10]⟩ : ByteArray) [.string (⟨#[32, 47, 47, 32, 47, 42, 10]⟩ : ByteArray)] from rfl) (Reps.one (show Kd.M Kd.string _ _ _ (⟨#[32, 47, 42, 42, 47, 32]⟩ : ByteArray) [.string (⟨#[32, 47, 42, 42, 47, 32]⟩ : ByteArray)] from rfl) (Reps.none _ _)))))))); intro v196 w13 ho14 hb hg_ hnew_; clear hg_ hnew_; (first | rw [← Ny195.out] at ho14 | (simp only [Int.reduceToNat] at ho14; rw [← Ny195.out] at ho14)); have n0_ := Aside0.mk (Kd.R_below (by (with_reducible repeat (first | apply Kd.R_alloc | apply Kd.R_drewN | apply Kd.R_drew)); exact (Kd.R_mono (Kd.R_far (p := ⟨gb193, 1, none⟩) (Kd.R_far (p := ⟨gb193, 0, none⟩) (Kd.R_types HO189.out BK193.out (by decide)) (fun _ hk => hk.2) (.int .i64 t190)) (fun _ hk => hk.2) (.int .i64 t191)) (fun _ h_ => h_.1))) hb); have n1_ := Aside0.mk (Kd.R_lower ho14 (below_size (by repeat (first | (with_reducible first | exact HB.out | apply below_alloc | apply pw_below_drewN | apply below_drew1 | refine below_set ?_ GE193.out) | exact HB.out)))); have n2_ := Aside0.mk (blk_below (g := gb193) (o := .cells #[.int .i64 t190, .int .i64 t191] 26 (0, 0)) (by (with_reducible repeat (first | refine blk_drewN ?_ _ | refine blk_drew ?_ | refine blk_alloc ?_ _)); refine blk_put (cs := #[.int .i64 t190, .int .i64 0]) ?_ 1 _ rfl; (with_reducible repeat (first | refine blk_drewN ?_ _ | refine blk_drew ?_ | refine blk_alloc ?_ _)); refine blk_put (cs := #[.int .i64 0, .int .i64 0]) ?_ 0 _ rfl; (with_reducible repeat (first | refine blk_drewN ?_ _ | refine blk_drew ?_ | refine blk_alloc ?_ _)); exact BK193.out) hb); have n3_ := Aside0.mk (below_step (by repeat (first | (with_reducible first | exact HB.out | apply below_alloc | apply pw_below_drewN | apply below_drew1 | refine below_set ?_ GE193.out) | exact HB.out)) hb); clear HO189; clear BK193; clear HB; have HO189 := n0_; have HO197 := n1_; have BK193 := n2_; have HB := n3_; clear n0_ n1_ n2_ n3_; clear hb ho14)); try go_wp2_with (first | (go_at_call 8; (with_reducible refine (lex_Lex.calls kj2 a0 t187 t190 t191 t192 _ ?sG A8.out).mono ?_); (case sG => exact G0.at_ HG0.out (by repeat (first | (with_reducible first | exact HB.out | exact Below.refl _ _ | apply below_alloc | apply pw_below_drewN | apply below_drew1 | apply below_drew | exact Drawn0.below (by assumption)) | exact HB.out | (refine below_set ?_ (Aside0.out (by assumption)))))); rintro e w10 ⟨v188, rfl, ho0, hb⟩; have n0_ := Aside0.mk (Kd.R_lower ho0 (below_size (by repeat (first | (with_reducible first | exact HB.out | apply below_alloc | apply pw_below_drewN | apply below_drew1) | exact HB.out)))); have n1_ := Aside0.mk (below_step (by repeat (first | (with_reducible first | exact HB.out | apply below_alloc | apply pw_below_drewN | apply below_drew1) | exact HB.out)) hb); clear HB; have HO189 := n0_; have HB := n1_; clear n0_ n1_; (try clear hb); (try clear hb2); (try clear hk); (try clear hi); (try clear ho0)) | ((with_reducible refine gate_dst (N := 6) rfl ?_); (try (refine gate_guard (by rfl) ?_; dsimp only)); refine box_event ?hg (N := 6) ?hd (cs := #[.int .i64 0, .int .i64 0]) (t := 26) ?hr ?_; (case hd => rfl); (case hg => rfl); (case hr => first | (go_simp; done) | (go_simp; rfl)); intro gb193 hg w11 hbox hb; have n0_ := Aside0.mk (Kd.R_below (by (with_reducible repeat (first | apply Kd.R_alloc | apply Kd.R_drewN | apply Kd.R_drew)); exact HO189.out) hb); have n1_ := Aside0.mk (below_step (by repeat (first | (with_reducible first | exact HB.out | apply below_alloc | apply pw_below_drewN | apply below_drew1) | exact HB.out)) hb); have n2_ := Aside0.mk (hbox); have n3_ := Aside0.mk ((by rw [hg]; exact (below_size (by repeat (first | (with_reducible first | exact HB.out | apply below_alloc | apply pw_below_drewN | apply below_drew1) | exact HB.out))) : w.heap.size ≤ gb193)); have n4_ := Aside0.mk ((by rw [hg]; exact (below_size (by repeat (first | (with_reducible first | exact HB.out | apply below_alloc | apply pw_below_drewN | apply below_drew1) | exact HB.out))) : w.heap.size ≤ gb193)); clear HO189; clear HB; have HO189 := n0_; have HB := n1_; have BK193 := n2_; have GW193 := n3_; have GE193 := n4_; clear n0_ n1_ n2_ n3_ n4_; clear hb hbox hg; have hcz12_0 : w11.cell? ⟨gb193, 0, none⟩ = some (.int .i64 0) := (blk_cell BK193.out 0).trans rfl; have hcz12_1 : w11.cell? ⟨gb193, 1, none⟩ = some (.int .i64 0) := (blk_cell BK193.out 1).trans rfl; have hfz12_0 := blk_frozen BK193.out 0; have hfz12_1 := blk_frozen BK193.out 1) | ((with_reducible refine gate_dst (N := 34) rfl ?_); (try (refine gate_guard (by rfl) ?_; dsimp only)); refine Kd.R_lit Kd.string _ 9 ?hg (N := 34) ?hd (xs := ([(⟨#[32]⟩ : ByteArray), (⟨#[10]⟩ : ByteArray), (⟨#[9, 13]⟩ : ByteArray), (⟨#[32, 47, 42, 32, 42, 32, 47, 32, 39, 32, 42, 47]⟩ : ByteArray), (⟨#[32, 47, 47, 32, 47, 42, 10]⟩ : ByteArray), (⟨#[32, 47, 42, 42, 47, 32]⟩ : ByteArray)] : List ByteArray)) (inner := [.string (⟨#[32]⟩ : ByteArray), .string (⟨#[10]⟩ : ByteArray), .string (⟨#[9, 13]⟩ : ByteArray), .string (⟨#[32, 47, 42, 32, 42, 32, 47, 32, 39, 32, 42, 47]⟩ : ByteArray), .string (⟨#[32, 47, 47, 32, 47, 42, 10]⟩ : ByteArray), .string (⟨#[32, 47, 42, 42, 47, 32]⟩ : ByteArray)]) (ok := fun _ => True) (okp := fun _ => True) ?hr ?hp (fun _ hk => hk) trivial (Below.refl _ _) (Nat.le_refl _) (by simp) ?_; (case hd => rfl); (case hg => rfl); (case hr => first | (go_simp; done) | (go_simp; rfl)); (case hp => exact (Reps.one (show Kd.M Kd.string _ _ _ (⟨#[32]⟩ : ByteArray) [.string (⟨#[32]⟩ : ByteArray)] from rfl) (Reps.one (show Kd.M Kd.string _ _ _ (⟨#[10]⟩ : ByteArray) [.string (⟨#[10]⟩ : ByteArray)] from rfl) (Reps.one (show Kd.M Kd.string _ _ _ (⟨#[9, 13]⟩ : ByteArray) [.string (⟨#[9, 13]⟩ : ByteArray)] from rfl) (Reps.one (show Kd.M Kd.string _ _ _ (⟨#[32, 47, 42, 32, 42, 32, 47, 32, 39, 32, 42, 47]⟩ : ByteArray) [.string (⟨#[32, 47, 42, 32, 42, 32, 47, 32, 39, 32, 42, 47]⟩ : ByteArray)] from rfl) (Reps.one (show Kd.M Kd.string _ _ _ (⟨#[32, 47, 47, 32, 47, 42, 10]⟩ : ByteArray) [.string (⟨#[32, 47, 47, 32, 47, 42, 10]⟩ : ByteArray)] from rfl) (Reps.one (show Kd.M Kd.string _ _ _ (⟨#[32, 47, 42, 42, 47, 32]⟩ : ByteArray) [.string (⟨#[32, 47, 42, 42, 47, 32]⟩ : ByteArray)] from rfl) (Reps.none _ _)))))))); intro v196 w13 ho14 hb hg_ hnew_; clear hg_ hnew_; (first | rw [← Ny195.out] at ho14 | (simp only [Int.reduceToNat] at ho14; rw [← Ny195.out] at ho14)); have n0_ := Aside0.mk (Kd.R_below (by (with_reducible repeat (first | apply Kd.R_alloc | apply Kd.R_drewN | apply Kd.R_drew)); exact (Kd.R_mono (Kd.R_far (p := ⟨gb193, 1, none⟩) (Kd.R_far (p := ⟨gb193, 0, none⟩) (Kd.R_types HO189.out BK193.out (by decide)) (fun _ hk => hk.2) (.int .i64 t190)) (fun _ hk => hk.2) (.int .i64 t191)) (fun _ h_ => h_.1))) hb); have n1_ := Aside0.mk (Kd.R_lower ho14 (below_size (by repeat (first | (with_reducible first | exact HB.out | apply below_alloc | apply pw_below_drewN | apply below_drew1 | refine below_set ?_ GE193.out) | exact HB.out)))); have n2_ := Aside0.mk (blk_below (g := gb193) (o := .cells #[.int .i64 t190, .int .i64 t191] 26 (0, 0)) (by (with_reducible repeat (first | refine blk_drewN ?_ _ | refine blk_drew ?_ | refine blk_alloc ?_ _)); refine blk_put (cs := #[.int .i64 t190, .int .i64 0]) ?_ 1 _ rfl; (with_reducible repeat (first | refine blk_drewN ?_ _ | refine blk_drew ?_ | refine blk_alloc ?_ _)); refine blk_put (cs := #[.int .i64 0, .int .i64 0]) ?_ 0 _ rfl; (with_reducible repeat (first | refine blk_drewN ?_ _ | refine blk_drew ?_ | refine blk_alloc ?_ _)); exact BK193.out) hb); have n3_ := Aside0.mk (below_step (by repeat (first | (with_reducible first | exact HB.out | apply below_alloc | apply pw_below_drewN | apply below_drew1 | refine below_set ?_ GE193.out) | exact HB.out)) hb); clear HO189; clear BK193; clear HB; have HO189 := n0_; have HO197 := n1_; have BK193 := n2_; have HB := n3_; clear n0_ n1_ n2_ n3_; clear hb ho14)))
          go_loopg [9, 10] kj2 (fun kq v9 v10 w' => ∃ (x9_2 : ByteArray) (x10_2 : Int), v9 = .string x9_2 ∧ v10 = .int .i64 x10_2 ∧ Aside0 (rushlightlaw07_LexBlanks.l0 kq l1 t187 y195 x9_2 x10_2 = some r) ∧ Aside0 (kq ≤ kj2) ∧ Aside0 (Kd.R k33 33 w' w.heap.size (fun _ => True) v188 t187) ∧ Aside0 (Kd.R Kd.string 9 w' w.heap.size (fun _ => True) v196 y195) ∧ Aside0 (w'.heap[gb193]? = some (.cells #[.int .i64 t190, .int .i64 t191] 26 (0, 0))) ∧ Aside0 (Below w.heap.size w w'))
          case atStart => exact ⟨((⟨#[47, 42, 42, 42, 47]⟩ : ByteArray)), (0), (by first | rfl | (simp; done) | (simp [*]; done)), (by first | rfl | (simp; done) | (simp [*]; done)), H', ⟨Nat.le_refl _⟩, ⟨by (with_reducible repeat (first | apply Kd.R_alloc | apply Kd.R_drewN | apply Kd.R_drew)); exact HO189.out⟩, ⟨by (with_reducible repeat (first | apply Kd.R_alloc | apply Kd.R_drewN | apply Kd.R_drew)); exact HO197.out⟩, ⟨by (with_reducible repeat (first | refine blk_drewN ?_ _ | refine blk_drew ?_ | refine blk_alloc ?_ _)); exact BK193.out⟩, ⟨by repeat (first | (with_reducible first | exact HB.out | apply below_alloc | apply pw_below_drewN | apply below_drew1 | refine below_set ?_ GE193.out) | exact HB.out)⟩⟩
          case round =>
            clear H'
            try clear c1
            try clear p2
            try clear c3
            try clear c4
            try clear c4b0
            try clear c4b1
            try clear c5
            try clear c9
            try clear c9b0
            try clear c9b1
            try clear hcz12_0
            try clear hcz12_1
            try clear hfz12_0
            try clear hfz12_1
            try clear p2
            obtain ⟨x9_2, x10_2, rfl, rfl, HA, HK2, HO_5, HO_8, BK193, HB⟩ := hrel
            cases gk with
            | zero => exact absurd HA.out (by simp [rushlightlaw07_LexBlanks.l0])
            | succ k2 =>
              have H := HA.out
              clear HA
              simp only [rushlightlaw07_LexBlanks.l0] at H
              by_cases c15 : x10_2 < (t187.length : Int)
              · rw [if_pos c15] at H
                have c15b0 : decide (x10_2 < (t187.length : Int)) = true := decide_eq_true c15
                clear c15
                by_cases c16 : x10_2 < (l1.length : Int)
                · rw [if_pos c16] at H
                  have c16b0 : decide (x10_2 < (l1.length : Int)) = true := decide_eq_true c16
                  clear c16
                  by_cases c17 : 0 ≤ x10_2
                  · rw [if_pos c17] at H
                    have c17b0 : decide (0 ≤ x10_2) = true := decide_eq_true c17
                    clear c17
                    by_cases c18 : (y195.length : Int) = 0
                    · rw [if_pos c18] at H
                      exact absurd H (by simp)
                    · rw [if_neg c18] at H
                      have c18b0 : ((y195.length : Int) == 0) = false := beq_eq_false_iff_ne.mpr c18
                      have c18b1 : ((y195.length : Int) != 0) = true := bne_iff_ne.mpr c18
                      have c18b2 : ¬ (y195 = []) := fun h_ => c18 (by rw [h_]; rfl)
                      by_cases c19 : x9_2.size + ((rd_T33 t187 x10_2).f1).size ≤ 9223372036854775807
                      · rw [if_pos c19] at H
                        have c19b0 := eq_true c19
                        have c19b1 : decide (x9_2.size + ((rd_T33 t187 x10_2).f1).size ≤ 9223372036854775807) = true := decide_eq_true c19
                        try have c19b2 : (9223372036854775807 < x9_2.size + ((rd_T33 t187 x10_2).f1).size) = False := eq_false (Nat.not_lt.2 c19)
                        obtain ⟨ji20, hji20⟩ : ∃ j_ : Int, (Int.tmod (wrap64 (rd l1 x10_2)) (y195.length : Int)) = j_ := ⟨_, rfl⟩
                        replace H : (if 0 ≤ (ji20) then (if (ji20) < (y195.length : Int) then (if (x9_2 ++ ((rd_T33 t187 x10_2).f1)).size + (rdOf ByteArray.empty y195 (ji20)).size ≤ 9223372036854775807 then (rushlightlaw07_LexBlanks.l0 k2 l1 t187 y195 ((x9_2 ++ ((rd_T33 t187 x10_2).f1)) ++ (rdOf ByteArray.empty y195 (ji20))) (wrap64 (x10_2 + 1))) else (none)) else (none)) else (none)) = some r := by first | (rw [hji20] at H; exact H) | (simp only [hji20] at H ⊢; exact H)
                        by_cases c21 : 0 ≤ (ji20)
                        · rw [if_pos c21] at H
                          have c21b0 : decide (0 ≤ (ji20)) = true := decide_eq_true c21
                          clear c21
                          by_cases c22 : (ji20) < (y195.length : Int)
                          · rw [if_pos c22] at H
                            have c22b0 : decide ((ji20) < (y195.length : Int)) = true := decide_eq_true c22
                            clear c22
                            by_cases c23 : (x9_2 ++ ((rd_T33 t187 x10_2).f1)).size + (rdOf ByteArray.empty y195 (ji20)).size ≤ 9223372036854775807
                            · rw [if_pos c23] at H
                              have c23b0 := eq_true c23
                              have c23b1 : decide ((x9_2 ++ ((rd_T33 t187 x10_2).f1)).size + (rdOf ByteArray.empty y195 (ji20)).size ≤ 9223372036854775807) = true := decide_eq_true c23
                              try have c23b2 : (9223372036854775807 < (x9_2 ++ ((rd_T33 t187 x10_2).f1)).size + (rdOf ByteArray.empty y195 (ji20)).size) = False := eq_false (Nat.not_lt.2 c23)
                              have H' := Aside0.mk H
                              clear H
                              obtain ⟨Ao24, co24, eo24⟩ := Kd.R_slice HO_5.out
                              subst eo24
                              have p198 : 0 ≤ (x10_2 : Int) := of_decide_eq_true (by first | (with_reducible assumption) | assumption)
                              have q198 : x10_2 < (l1.length : Int) := of_decide_eq_true (by first | (with_reducible assumption) | assumption)
                              obtain ⟨ad198, e198, hx198_0⟩ := Kd.at_int HR1.out x10_2 p198 q198
                              cases e198
                              replace hx198_0 := (HB.out.cell (World.block_lt_of_cell? w _ hx198_0)).trans hx198_0
                              replace p198 := eq_true p198
                              replace q198 := eq_true q198
                              obtain ⟨Ao25, co25, eo25⟩ := Kd.R_slice HO_8.out
                              subst eo25
                              have p199 : 0 ≤ (x10_2 : Int) := of_decide_eq_true (by first | (with_reducible assumption) | assumption)
                              have q199 : x10_2 < (t187.length : Int) := of_decide_eq_true (by first | (with_reducible assumption) | assumption)
                              obtain ⟨ad199, e199, hx199_0, hx199_1, hx199_2, hx199_3, hx199_4⟩ := at_T33 (Kd.R_reads' HO_5.out).2.2 x10_2 p199 q199
                              cases e199
                              replace p199 := eq_true p199
                              replace q199 := eq_true q199
                              have p200 : 0 ≤ ((ji20) : Int) := of_decide_eq_true (by first | (with_reducible assumption) | assumption)
                              have q200 : (ji20) < (y195.length : Int) := of_decide_eq_true (by first | (with_reducible assumption) | assumption)
                              obtain ⟨ad200, e200, hx200_0⟩ := Kd.at_string (Kd.R_reads' HO_8.out).2.2 (ji20) p200 q200
                              cases e200
                              replace p200 := eq_true p200
                              replace q200 := eq_true q200
                              go_wp2
                              repeat (go_quiet (fail); try go_wp2)
                              go_roundg k2
                              case measure => have := HJ2.out; have := HK2.out; omega
                              case rel => exact ⟨((x9_2 ++ ((rd_T33 t187 x10_2).f1)) ++ (rdOf ByteArray.empty y195 (ji20))), (wrap64 (x10_2 + 1)), (by first | rfl | (simp; done) | (simp only [← hji20] <;> (first | rfl | simp)) | (simp [*]; done)), (by first | rfl | (simp; done) | (simp [*]; done)), H', ⟨by have := HJ2.out; have := HK2.out; omega⟩, ⟨by (with_reducible repeat (first | apply Kd.R_alloc | apply Kd.R_drewN | apply Kd.R_drew)); exact HO_5.out⟩, ⟨by (with_reducible repeat (first | apply Kd.R_alloc | apply Kd.R_drewN | apply Kd.R_drew)); exact HO_8.out⟩, ⟨by (with_reducible repeat (first | refine blk_drewN ?_ _ | refine blk_drew ?_ | refine blk_alloc ?_ _)); exact BK193.out⟩, ⟨by repeat (first | (with_reducible first | exact HB.out | apply below_alloc | apply pw_below_drewN | apply below_drew1 | refine below_set ?_ GE193.out) | exact HB.out)⟩⟩
                            · rw [if_neg c23] at H
                              exact absurd H (by simp)
                          · rw [if_neg c22] at H
                            exact absurd H (by simp)
                        · rw [if_neg c21] at H
                          exact absurd H (by simp)
                      · rw [if_neg c19] at H
                        exact absurd H (by simp)
                  · rw [if_neg c17] at H
                    exact absurd H (by simp)
                · rw [if_neg c16] at H
                  have c16b0 : decide (x10_2 < (l1.length : Int)) = false := decide_eq_false c16
                  clear c16
                  by_cases c26 : 0 ≤ x10_2
                  · rw [if_pos c26] at H
                    have c26b0 : decide (0 ≤ x10_2) = true := decide_eq_true c26
                    clear c26
                    by_cases c27 : x9_2.size + ((rd_T33 t187 x10_2).f1).size ≤ 9223372036854775807
                    · rw [if_pos c27] at H
                      have c27b0 := eq_true c27
                      have c27b1 : decide (x9_2.size + ((rd_T33 t187 x10_2).f1).size ≤ 9223372036854775807) = true := decide_eq_true c27
                      try have c27b2 : (9223372036854775807 < x9_2.size + ((rd_T33 t187 x10_2).f1).size) = False := eq_false (Nat.not_lt.2 c27)
                      by_cases c28 : 0 < (y195.length : Int)
                      · rw [if_pos c28] at H
                        have c28b0 : decide (0 < (y195.length : Int)) = true := decide_eq_true c28
                        have c28b1 : decide (0 < y195.length) = true := decide_eq_true (by omega)
                        clear c28
                        by_cases c29 : (x9_2 ++ ((rd_T33 t187 x10_2).f1)).size + (rdOf ByteArray.empty y195 0).size ≤ 9223372036854775807
                        · rw [if_pos c29] at H
                          have c29b0 := eq_true c29
                          have c29b1 : decide ((x9_2 ++ ((rd_T33 t187 x10_2).f1)).size + (rdOf ByteArray.empty y195 0).size ≤ 9223372036854775807) = true := decide_eq_true c29
                          try have c29b2 : (9223372036854775807 < (x9_2 ++ ((rd_T33 t187 x10_2).f1)).size + (rdOf ByteArray.empty y195 0).size) = False := eq_false (Nat.not_lt.2 c29)
                          have H' := Aside0.mk H
                          clear H
                          obtain ⟨Ao30, co30, eo30⟩ := Kd.R_slice HO_5.out
                          subst eo30
                          have p201 : 0 ≤ (x10_2 : Int) := of_decide_eq_true (by first | (with_reducible assumption) | assumption)
                          have q201 : x10_2 < (t187.length : Int) := of_decide_eq_true (by first | (with_reducible assumption) | assumption)
                          obtain ⟨ad201, e201, hx201_0, hx201_1, hx201_2, hx201_3, hx201_4⟩ := at_T33 (Kd.R_reads' HO_5.out).2.2 x10_2 p201 q201
                          cases e201
                          replace p201 := eq_true p201
                          replace q201 := eq_true q201
                          obtain ⟨Ao31, co31, eo31⟩ := Kd.R_slice HO_8.out
                          subst eo31
                          have p202 : 0 ≤ (0 : Int) := (by omega)
                          have q202 : 0 < (y195.length : Int) := of_decide_eq_true (by first | (with_reducible assumption) | assumption)
                          obtain ⟨ad202, e202, hx202_0⟩ := Kd.at_string (Kd.R_reads' HO_8.out).2.2 0 p202 q202
                          cases e202
                          have qi202 : (0 < y195.length) = True := eq_true (by omega)
                          (try rw [show ((0 : Int)).toNat = 0 from rfl] at hx202_0)
                          (try rw [Addr.add_zero'] at hx202_0)
                          replace p202 := eq_true p202
                          replace q202 := eq_true q202
                          go_wp2
                          repeat (go_quiet (fail); try go_wp2)
                          go_roundg k2
                          case measure => have := HJ2.out; have := HK2.out; omega
                          case rel => exact ⟨((x9_2 ++ ((rd_T33 t187 x10_2).f1)) ++ (rdOf ByteArray.empty y195 0)), (wrap64 (x10_2 + 1)), (by first | rfl | (simp; done) | (simp [*]; done)), (by first | rfl | (simp; done) | (simp [*]; done)), H', ⟨by have := HJ2.out; have := HK2.out; omega⟩, ⟨by (with_reducible repeat (first | apply Kd.R_alloc | apply Kd.R_drewN | apply Kd.R_drew)); exact HO_5.out⟩, ⟨by (with_reducible repeat (first | apply Kd.R_alloc | apply Kd.R_drewN | apply Kd.R_drew)); exact HO_8.out⟩, ⟨by (with_reducible repeat (first | refine blk_drewN ?_ _ | refine blk_drew ?_ | refine blk_alloc ?_ _)); exact BK193.out⟩, ⟨by repeat (first | (with_reducible first | exact HB.out | apply below_alloc | apply pw_below_drewN | apply below_drew1 | refine below_set ?_ GE193.out) | exact HB.out)⟩⟩
                        · rw [if_neg c29] at H
                          exact absurd H (by simp)
                      · rw [if_neg c28] at H
                        exact absurd H (by simp)
                    · rw [if_neg c27] at H
                      exact absurd H (by simp)
                  · rw [if_neg c26] at H
                    exact absurd H (by simp)
              · rw [if_neg c15] at H
                have c15b0 : decide (x10_2 < (t187.length : Int)) = false := decide_eq_false c15
                clear c15
                by_cases c32 : x9_2.size + 2 ≤ 9223372036854775807
                · rw [if_pos c32] at H
                  have c32b0 := eq_true c32
                  have c32b1 : decide (x9_2.size + 2 ≤ 9223372036854775807) = true := decide_eq_true c32
                  try have c32b2 : (9223372036854775807 < x9_2.size + 2) = False := eq_false (Nat.not_lt.2 c32)
                  replace H := Option.bind_eq_some_iff.mp H
                  obtain ⟨⟨t203, t206, t207, t208⟩, A330, H⟩ := H
                  replace H : (if t208 = 0 then (rushlightlaw07_LexBlanks.j2 k2 t187 t203 ((t203.length : Int) != (t187.length : Int))) else (rushlightlaw07_LexBlanks.j2 k2 t187 t203 true)) = some r := H
                  have A33 := Aside0.mk A330
                  clear A330
                  have HC34 := Aside0.mk H
                  clear H
                  obtain ⟨Ao35, co35, eo35⟩ := Kd.R_slice HO_5.out
                  subst eo35
                  go_upto_region 16 with (first | (go_at_call 8; (with_reducible refine (lex_Lex.calls k2 (x9_2 ++ (⟨#[47, 47]⟩ : ByteArray)) t203 t206 t207 t208 _ ?sG A33.out).mono ?_); (case sG => exact G0.at_ HG0.out (by repeat (first | (with_reducible first | exact HB.out | exact Below.refl _ _ | apply below_alloc | apply pw_below_drewN | apply below_drew1 | apply below_drew | exact Drawn0.below (by assumption)) | exact HB.out | (refine below_set ?_ (Aside0.out (by assumption)))))); rintro e w36 ⟨v204, rfl, ho0, hb⟩; have n0_ := Aside0.mk (Kd.R_elder' (by (with_reducible repeat (first | apply Kd.R_alloc | apply Kd.R_drewN | apply Kd.R_drew)); exact HO_5.out) (Kd.R_base ho0) hb); have n1_ := Aside0.mk (Kd.R_below (by (with_reducible repeat (first | apply Kd.R_alloc | apply Kd.R_drewN | apply Kd.R_drew)); exact HO_8.out) hb); have n2_ := Aside0.mk (Kd.R_lower (Kd.R_new' ho0 (Kd.R_lt (by (with_reducible repeat (first | apply Kd.R_alloc | apply Kd.R_drewN | apply Kd.R_drew)); exact HO_5.out))) (below_size (by repeat (first | (with_reducible first | exact HB.out | apply below_alloc | apply pw_below_drewN | apply below_drew1 | refine below_set ?_ GE193.out) | exact HB.out)))); have n3_ := Aside0.mk (blk_below (g := gb193) (o := .cells #[.int .i64 t190, .int .i64 t191] 26 (0, 0)) (by (with_reducible repeat (first | refine blk_drewN ?_ _ | refine blk_drew ?_ | refine blk_alloc ?_ _)); exact BK193.out) hb); have n4_ := Aside0.mk (below_step (by repeat (first | (with_reducible first | exact HB.out | apply below_alloc | apply pw_below_drewN | apply below_drew1 | refine below_set ?_ GE193.out) | exact HB.out)) hb); clear HO_5; clear HO_8; clear BK193; clear HB; have HO_5 := n0_; have HO_8 := n1_; have HO205 := n2_; have BK193 := n3_; have HB := n4_; clear n0_ n1_ n2_ n3_ n4_; (try clear hb); (try clear hb2); (try clear hk); (try clear hi); (try clear ho0)) | ((with_reducible refine gate_dst (N := 13) rfl ?_); (try (refine gate_guard (by rfl) ?_; dsimp only)); refine box_event ?hg (N := 13) ?hd (cs := #[.int .i64 0, .int .i64 0]) (t := 26) ?hr ?_; (case hd => rfl); (case hg => rfl); (case hr => first | (go_simp; done) | (go_simp; rfl)); intro gb209 hg w37 hbox hb; have n0_ := Aside0.mk (Kd.R_below (by (with_reducible repeat (first | apply Kd.R_alloc | apply Kd.R_drewN | apply Kd.R_drew)); exact HO_5.out) hb); have n1_ := Aside0.mk (Kd.R_below (by (with_reducible repeat (first | apply Kd.R_alloc | apply Kd.R_drewN | apply Kd.R_drew)); exact HO_8.out) hb); have n2_ := Aside0.mk (Kd.R_below (by (with_reducible repeat (first | apply Kd.R_alloc | apply Kd.R_drewN | apply Kd.R_drew)); exact HO205.out) hb); have n3_ := Aside0.mk (blk_below (g := gb193) (o := .cells #[.int .i64 t190, .int .i64 t191] 26 (0, 0)) (by (with_reducible repeat (first | refine blk_drewN ?_ _ | refine blk_drew ?_ | refine blk_alloc ?_ _)); exact BK193.out) hb); have n4_ := Aside0.mk (below_step (by repeat (first | (with_reducible first | exact HB.out | apply below_alloc | apply pw_below_drewN | apply below_drew1 | refine below_set ?_ GE193.out) | exact HB.out)) hb); have n5_ := Aside0.mk (hbox); have n6_ := Aside0.mk ((by rw [hg]; exact (below_size (by repeat (first | (with_reducible first | exact HB.out | apply below_alloc | apply pw_below_drewN | apply below_drew1 | refine below_set ?_ GE193.out) | exact HB.out))) : w.heap.size ≤ gb209)); have n7_ := Aside0.mk ((by rw [hg]; exact (below_size (by repeat (first | (with_reducible first | exact HB.out | apply below_alloc | apply pw_below_drewN | apply below_drew1 | refine below_set ?_ GE193.out) | exact HB.out))) : w.heap.size ≤ gb209)); have n8_ := Aside0.mk ((by rw [hg]; exact Nat.ne_of_lt (blk_lt (g := gb193) (o := .cells #[.int .i64 t190, .int .i64 t191] 26 (0, 0)) (by (with_reducible repeat (first | refine blk_drewN ?_ _ | refine blk_drew ?_ | refine blk_alloc ?_ _)); exact BK193.out)) : gb193 ≠ gb209)); have n9_ := Aside0.mk ((by rw [hg]; exact Nat.ne_of_gt (blk_lt (g := gb193) (o := .cells #[.int .i64 t190, .int .i64 t191] 26 (0, 0)) (by (with_reducible repeat (first | refine blk_drewN ?_ _ | refine blk_drew ?_ | refine blk_alloc ?_ _)); exact BK193.out)) : gb209 ≠ gb193)); clear HO_5; clear HO_8; clear HO205; clear BK193; clear HB; have HO_5 := n0_; have HO_8 := n1_; have HO205 := n2_; have BK193 := n3_; have HB := n4_; have BK209 := n5_; have GW209 := n6_; have GE209 := n7_; have NB193_209 := n8_; have NB209_193 := n9_; clear n0_ n1_ n2_ n3_ n4_ n5_ n6_ n7_ n8_ n9_; clear hb hbox hg; have hnb38 := NB209_193.out; have hnc38 := NB193_209.out; have hcz39_0 : w37.cell? ⟨gb209, 0, none⟩ = some (.int .i64 0) := (blk_cell BK209.out 0).trans rfl; have hcz39_1 : w37.cell? ⟨gb209, 1, none⟩ = some (.int .i64 0) := (blk_cell BK209.out 1).trans rfl; have hfz39_0 := blk_frozen BK209.out 0; have hfz39_1 := blk_frozen BK209.out 1))
                  repeat (go_quiet (first | (go_at_call 8; (with_reducible refine (lex_Lex.calls k2 (x9_2 ++ (⟨#[47, 47]⟩ : ByteArray)) t203 t206 t207 t208 _ ?sG A33.out).mono ?_); (case sG => exact G0.at_ HG0.out (by repeat (first | (with_reducible first | exact HB.out | exact Below.refl _ _ | apply below_alloc | apply pw_below_drewN | apply below_drew1 | apply below_drew | exact Drawn0.below (by assumption)) | exact HB.out | (refine below_set ?_ (Aside0.out (by assumption)))))); rintro e w36 ⟨v204, rfl, ho0, hb⟩; have n0_ := Aside0.mk (Kd.R_elder' (by (with_reducible repeat (first | apply Kd.R_alloc | apply Kd.R_drewN | apply Kd.R_drew)); exact HO_5.out) (Kd.R_base ho0) hb); have n1_ := Aside0.mk (Kd.R_below (by (with_reducible repeat (first | apply Kd.R_alloc | apply Kd.R_drewN | apply Kd.R_drew)); exact HO_8.out) hb); have n2_ := Aside0.mk (Kd.R_lower (Kd.R_new' ho0 (Kd.R_lt (by (with_reducible repeat (first | apply Kd.R_alloc | apply Kd.R_drewN | apply Kd.R_drew)); exact HO_5.out))) (below_size (by repeat (first | (with_reducible first | exact HB.out | apply below_alloc | apply pw_below_drewN | apply below_drew1 | refine below_set ?_ GE193.out) | exact HB.out)))); have n3_ := Aside0.mk (blk_below (g := gb193) (o := .cells #[.int .i64 t190, .int .i64 t191] 26 (0, 0)) (by (with_reducible repeat (first | refine blk_drewN ?_ _ | refine blk_drew ?_ | refine blk_alloc ?_ _)); exact BK193.out) hb); have n4_ := Aside0.mk (below_step (by repeat (first | (with_reducible first | exact HB.out | apply below_alloc | apply pw_below_drewN | apply below_drew1 | refine below_set ?_ GE193.out) | exact HB.out)) hb); clear HO_5; clear HO_8; clear BK193; clear HB; have HO_5 := n0_; have HO_8 := n1_; have HO205 := n2_; have BK193 := n3_; have HB := n4_; clear n0_ n1_ n2_ n3_ n4_; (try clear hb); (try clear hb2); (try clear hk); (try clear hi); (try clear ho0)) | ((with_reducible refine gate_dst (N := 13) rfl ?_); (try (refine gate_guard (by rfl) ?_; dsimp only)); refine box_event ?hg (N := 13) ?hd (cs := #[.int .i64 0, .int .i64 0]) (t := 26) ?hr ?_; (case hd => rfl); (case hg => rfl); (case hr => first | (go_simp; done) | (go_simp; rfl)); intro gb209 hg w37 hbox hb; have n0_ := Aside0.mk (Kd.R_below (by (with_reducible repeat (first | apply Kd.R_alloc | apply Kd.R_drewN | apply Kd.R_drew)); exact HO_5.out) hb); have n1_ := Aside0.mk (Kd.R_below (by (with_reducible repeat (first | apply Kd.R_alloc | apply Kd.R_drewN | apply Kd.R_drew)); exact HO_8.out) hb); have n2_ := Aside0.mk (Kd.R_below (by (with_reducible repeat (first | apply Kd.R_alloc | apply Kd.R_drewN | apply Kd.R_drew)); exact HO205.out) hb); have n3_ := Aside0.mk (blk_below (g := gb193) (o := .cells #[.int .i64 t190, .int .i64 t191] 26 (0, 0)) (by (with_reducible repeat (first | refine blk_drewN ?_ _ | refine blk_drew ?_ | refine blk_alloc ?_ _)); exact BK193.out) hb); have n4_ := Aside0.mk (below_step (by repeat (first | (with_reducible first | exact HB.out | apply below_alloc | apply pw_below_drewN | apply below_drew1 | refine below_set ?_ GE193.out) | exact HB.out)) hb); have n5_ := Aside0.mk (hbox); have n6_ := Aside0.mk ((by rw [hg]; exact (below_size (by repeat (first | (with_reducible first | exact HB.out | apply below_alloc | apply pw_below_drewN | apply below_drew1 | refine below_set ?_ GE193.out) | exact HB.out))) : w.heap.size ≤ gb209)); have n7_ := Aside0.mk ((by rw [hg]; exact (below_size (by repeat (first | (with_reducible first | exact HB.out | apply below_alloc | apply pw_below_drewN | apply below_drew1 | refine below_set ?_ GE193.out) | exact HB.out))) : w.heap.size ≤ gb209)); have n8_ := Aside0.mk ((by rw [hg]; exact Nat.ne_of_lt (blk_lt (g := gb193) (o := .cells #[.int .i64 t190, .int .i64 t191] 26 (0, 0)) (by (with_reducible repeat (first | refine blk_drewN ?_ _ | refine blk_drew ?_ | refine blk_alloc ?_ _)); exact BK193.out)) : gb193 ≠ gb209)); have n9_ := Aside0.mk ((by rw [hg]; exact Nat.ne_of_gt (blk_lt (g := gb193) (o := .cells #[.int .i64 t190, .int .i64 t191] 26 (0, 0)) (by (with_reducible repeat (first | refine blk_drewN ?_ _ | refine blk_drew ?_ | refine blk_alloc ?_ _)); exact BK193.out)) : gb209 ≠ gb193)); clear HO_5; clear HO_8; clear HO205; clear BK193; clear HB; have HO_5 := n0_; have HO_8 := n1_; have HO205 := n2_; have BK193 := n3_; have HB := n4_; have BK209 := n5_; have GW209 := n6_; have GE209 := n7_; have NB193_209 := n8_; have NB209_193 := n9_; clear n0_ n1_ n2_ n3_ n4_ n5_ n6_ n7_ n8_ n9_; clear hb hbox hg; have hnb38 := NB209_193.out; have hnc38 := NB193_209.out; have hcz39_0 : w37.cell? ⟨gb209, 0, none⟩ = some (.int .i64 0) := (blk_cell BK209.out 0).trans rfl; have hcz39_1 : w37.cell? ⟨gb209, 1, none⟩ = some (.int .i64 0) := (blk_cell BK209.out 1).trans rfl; have hfz39_0 := blk_frozen BK209.out 0; have hfz39_1 := blk_frozen BK209.out 1)); go_upto_region 16 with (first | (go_at_call 8; (with_reducible refine (lex_Lex.calls k2 (x9_2 ++ (⟨#[47, 47]⟩ : ByteArray)) t203 t206 t207 t208 _ ?sG A33.out).mono ?_); (case sG => exact G0.at_ HG0.out (by repeat (first | (with_reducible first | exact HB.out | exact Below.refl _ _ | apply below_alloc | apply pw_below_drewN | apply below_drew1 | apply below_drew | exact Drawn0.below (by assumption)) | exact HB.out | (refine below_set ?_ (Aside0.out (by assumption)))))); rintro e w36 ⟨v204, rfl, ho0, hb⟩; have n0_ := Aside0.mk (Kd.R_elder' (by (with_reducible repeat (first | apply Kd.R_alloc | apply Kd.R_drewN | apply Kd.R_drew)); exact HO_5.out) (Kd.R_base ho0) hb); have n1_ := Aside0.mk (Kd.R_below (by (with_reducible repeat (first | apply Kd.R_alloc | apply Kd.R_drewN | apply Kd.R_drew)); exact HO_8.out) hb); have n2_ := Aside0.mk (Kd.R_lower (Kd.R_new' ho0 (Kd.R_lt (by (with_reducible repeat (first | apply Kd.R_alloc | apply Kd.R_drewN | apply Kd.R_drew)); exact HO_5.out))) (below_size (by repeat (first | (with_reducible first | exact HB.out | apply below_alloc | apply pw_below_drewN | apply below_drew1 | refine below_set ?_ GE193.out) | exact HB.out)))); have n3_ := Aside0.mk (blk_below (g := gb193) (o := .cells #[.int .i64 t190, .int .i64 t191] 26 (0, 0)) (by (with_reducible repeat (first | refine blk_drewN ?_ _ | refine blk_drew ?_ | refine blk_alloc ?_ _)); exact BK193.out) hb); have n4_ := Aside0.mk (below_step (by repeat (first | (with_reducible first | exact HB.out | apply below_alloc | apply pw_below_drewN | apply below_drew1 | refine below_set ?_ GE193.out) | exact HB.out)) hb); clear HO_5; clear HO_8; clear BK193; clear HB; have HO_5 := n0_; have HO_8 := n1_; have HO205 := n2_; have BK193 := n3_; have HB := n4_; clear n0_ n1_ n2_ n3_ n4_; (try clear hb); (try clear hb2); (try clear hk); (try clear hi); (try clear ho0)) | ((with_reducible refine gate_dst (N := 13) rfl ?_); (try (refine gate_guard (by rfl) ?_; dsimp only)); refine box_event ?hg (N := 13) ?hd (cs := #[.int .i64 0, .int .i64 0]) (t := 26) ?hr ?_; (case hd => rfl); (case hg => rfl); (case hr => first | (go_simp; done) | (go_simp; rfl)); intro gb209 hg w37 hbox hb; have n0_ := Aside0.mk (Kd.R_below (by (with_reducible repeat (first | apply Kd.R_alloc | apply Kd.R_drewN | apply Kd.R_drew)); exact HO_5.out) hb); have n1_ := Aside0.mk (Kd.R_below (by (with_reducible repeat (first | apply Kd.R_alloc | apply Kd.R_drewN | apply Kd.R_drew)); exact HO_8.out) hb); have n2_ := Aside0.mk (Kd.R_below (by (with_reducible repeat (first | apply Kd.R_alloc | apply Kd.R_drewN | apply Kd.R_drew)); exact HO205.out) hb); have n3_ := Aside0.mk (blk_below (g := gb193) (o := .cells #[.int .i64 t190, .int .i64 t191] 26 (0, 0)) (by (with_reducible repeat (first | refine blk_drewN ?_ _ | refine blk_drew ?_ | refine blk_alloc ?_ _)); exact BK193.out) hb); have n4_ := Aside0.mk (below_step (by repeat (first | (with_reducible first | exact HB.out | apply below_alloc | apply pw_below_drewN | apply below_drew1 | refine below_set ?_ GE193.out) | exact HB.out)) hb); have n5_ := Aside0.mk (hbox); have n6_ := Aside0.mk ((by rw [hg]; exact (below_size (by repeat (first | (with_reducible first | exact HB.out | apply below_alloc | apply pw_below_drewN | apply below_drew1 | refine below_set ?_ GE193.out) | exact HB.out))) : w.heap.size ≤ gb209)); have n7_ := Aside0.mk ((by rw [hg]; exact (below_size (by repeat (first | (with_reducible first | exact HB.out | apply below_alloc | apply pw_below_drewN | apply below_drew1 | refine below_set ?_ GE193.out) | exact HB.out))) : w.heap.size ≤ gb209)); have n8_ := Aside0.mk ((by rw [hg]; exact Nat.ne_of_lt (blk_lt (g := gb193) (o := .cells #[.int .i64 t190, .int .i64 t191] 26 (0, 0)) (by (with_reducible repeat (first | refine blk_drewN ?_ _ | refine blk_drew ?_ | refine blk_alloc ?_ _)); exact BK193.out)) : gb193 ≠ gb209)); have n9_ := Aside0.mk ((by rw [hg]; exact Nat.ne_of_gt (blk_lt (g := gb193) (o := .cells #[.int .i64 t190, .int .i64 t191] 26 (0, 0)) (by (with_reducible repeat (first | refine blk_drewN ?_ _ | refine blk_drew ?_ | refine blk_alloc ?_ _)); exact BK193.out)) : gb209 ≠ gb193)); clear HO_5; clear HO_8; clear HO205; clear BK193; clear HB; have HO_5 := n0_; have HO_8 := n1_; have HO205 := n2_; have BK193 := n3_; have HB := n4_; have BK209 := n5_; have GW209 := n6_; have GE209 := n7_; have NB193_209 := n8_; have NB209_193 := n9_; clear n0_ n1_ n2_ n3_ n4_ n5_ n6_ n7_ n8_ n9_; clear hb hbox hg; have hnb38 := NB209_193.out; have hnc38 := NB193_209.out; have hcz39_0 : w37.cell? ⟨gb209, 0, none⟩ = some (.int .i64 0) := (blk_cell BK209.out 0).trans rfl; have hcz39_1 : w37.cell? ⟨gb209, 1, none⟩ = some (.int .i64 0) := (blk_cell BK209.out 1).trans rfl; have hfz39_0 := blk_frozen BK209.out 0; have hfz39_1 := blk_frozen BK209.out 1)))
                  (try simp only [Act.put, List.setIfInBounds_toArray, List.set_cons_zero, List.set_cons_succ])
                  go_cut [80] (fun v80 wc => ∃ (kq : Nat) (x80_33 : Bool), v80 = .bool x80_33 ∧ Aside0 (rushlightlaw07_LexBlanks.j2 kq t187 t203 x80_33 = some r) ∧ Aside0 (kq ≤ k2) ∧ Aside0 (Kd.R k33 33 wc w.heap.size (fun k_ => some k_ ≠ (v204 : Value).ownBlock) (.slice Ao35 t187.length co35) t187) ∧ Aside0 (Kd.R k33 33 wc w.heap.size (fun k_ => some k_ ≠ ((.slice Ao35 t187.length co35) : Value).ownBlock) v204 t203) ∧ Aside0 (wc.heap[gb193]? = some (.cells #[.int .i64 t190, .int .i64 t191] 26 (0, 0))) ∧ Aside0 (wc.heap[gb209]? = some (.cells #[.int .i64 t206, .int .i64 t207] 26 (0, 0))) ∧ Aside0 (Below w.heap.size w wc))
                  case first =>
                    have H := HC34.out
                    clear HC34
                    by_cases c40 : t208 = 0
                    · rw [if_pos c40] at H
                      have c40b0 : (t208 == 0) = true := beq_iff_eq.mpr c40
                      have c40b1 : (t208 != 0) = false := bne_eq_false_iff_eq.mpr c40
                      clear c40
                      (first | rw [c40b0] | (simp only [i64_w, i32_w]; rw [c40b0]) | skip)
                      have H' := Aside0.mk H
                      clear H
                      obtain ⟨Ao41, co41, eo41⟩ := Kd.R_slice HO205.out
                      subst eo41
                      go_wp2
                      repeat (go_quiet (fail); try go_wp2)
                      go_meet
                      case rel => exact ⟨_, (((t203.length : Int) != (t187.length : Int))), (by first | rfl | (simp; done) | (simp [*]; done)), H', ⟨by have := HJ2.out; have := HK2.out; first | omega | exact Nat.le_refl _⟩, ⟨by (with_reducible repeat (first | apply Kd.R_alloc | apply Kd.R_drewN | apply Kd.R_drew)); exact Kd.R_mono (Kd.R_far (p := ⟨gb209, 1, none⟩) (Kd.R_far (p := ⟨gb209, 0, none⟩) (Kd.R_types HO_5.out BK209.out (by decide)) (fun _ hk => hk.2) (.int .i64 t206)) (fun _ hk => hk.2) (.int .i64 t207)) (fun _ hk => hk.1.2)⟩, ⟨by (with_reducible repeat (first | apply Kd.R_alloc | apply Kd.R_drewN | apply Kd.R_drew)); exact Kd.R_mono (Kd.R_far (p := ⟨gb209, 1, none⟩) (Kd.R_far (p := ⟨gb209, 0, none⟩) (Kd.R_types HO205.out BK209.out (by decide)) (fun _ hk => hk.2) (.int .i64 t206)) (fun _ hk => hk.2) (.int .i64 t207)) (fun _ hk => hk.1.2)⟩, ⟨by (with_reducible repeat (first | refine blk_drewN ?_ _ | refine blk_drew ?_ | refine blk_alloc ?_ _)); refine blk_far ?_ NB193_209.out _; (with_reducible repeat (first | refine blk_drewN ?_ _ | refine blk_drew ?_ | refine blk_alloc ?_ _)); refine blk_far ?_ NB193_209.out _; (with_reducible repeat (first | refine blk_drewN ?_ _ | refine blk_drew ?_ | refine blk_alloc ?_ _)); exact BK193.out⟩, ⟨by (with_reducible repeat (first | refine blk_drewN ?_ _ | refine blk_drew ?_ | refine blk_alloc ?_ _)); refine blk_put (cs := #[.int .i64 t206, .int .i64 0]) ?_ 1 _ rfl; (with_reducible repeat (first | refine blk_drewN ?_ _ | refine blk_drew ?_ | refine blk_alloc ?_ _)); refine blk_put (cs := #[.int .i64 0, .int .i64 0]) ?_ 0 _ rfl; (with_reducible repeat (first | refine blk_drewN ?_ _ | refine blk_drew ?_ | refine blk_alloc ?_ _)); exact BK209.out⟩, ⟨by repeat (first | (with_reducible first | exact HB.out | apply below_alloc | apply pw_below_drewN | apply below_drew1 | refine below_set ?_ GE193.out | refine below_set ?_ GE209.out) | exact HB.out)⟩⟩
                    · rw [if_neg c40] at H
                      have c40b0 : (t208 == 0) = false := beq_eq_false_iff_ne.mpr c40
                      have c40b1 : (t208 != 0) = true := bne_iff_ne.mpr c40
                      (first | rw [c40b0] | (simp only [i64_w, i32_w]; rw [c40b0]) | skip)
                      have H' := Aside0.mk H
                      clear H
                      go_wp2
                      repeat (go_quiet (fail); try go_wp2)
                      go_meet
                      case rel => exact ⟨_, (true), (by first | rfl | (simp; done) | (simp [*]; done)), H', ⟨by have := HJ2.out; have := HK2.out; first | omega | exact Nat.le_refl _⟩, ⟨by (with_reducible repeat (first | apply Kd.R_alloc | apply Kd.R_drewN | apply Kd.R_drew)); exact Kd.R_mono (Kd.R_far (p := ⟨gb209, 1, none⟩) (Kd.R_far (p := ⟨gb209, 0, none⟩) (Kd.R_types HO_5.out BK209.out (by decide)) (fun _ hk => hk.2) (.int .i64 t206)) (fun _ hk => hk.2) (.int .i64 t207)) (fun _ hk => hk.1.2)⟩, ⟨by (with_reducible repeat (first | apply Kd.R_alloc | apply Kd.R_drewN | apply Kd.R_drew)); exact Kd.R_mono (Kd.R_far (p := ⟨gb209, 1, none⟩) (Kd.R_far (p := ⟨gb209, 0, none⟩) (Kd.R_types HO205.out BK209.out (by decide)) (fun _ hk => hk.2) (.int .i64 t206)) (fun _ hk => hk.2) (.int .i64 t207)) (fun _ hk => hk.1.2)⟩, ⟨by (with_reducible repeat (first | refine blk_drewN ?_ _ | refine blk_drew ?_ | refine blk_alloc ?_ _)); refine blk_far ?_ NB193_209.out _; (with_reducible repeat (first | refine blk_drewN ?_ _ | refine blk_drew ?_ | refine blk_alloc ?_ _)); refine blk_far ?_ NB193_209.out _; (with_reducible repeat (first | refine blk_drewN ?_ _ | refine blk_drew ?_ | refine blk_alloc ?_ _)); exact BK193.out⟩, ⟨by (with_reducible repeat (first | refine blk_drewN ?_ _ | refine blk_drew ?_ | refine blk_alloc ?_ _)); refine blk_put (cs := #[.int .i64 t206, .int .i64 0]) ?_ 1 _ rfl; (with_reducible repeat (first | refine blk_drewN ?_ _ | refine blk_drew ?_ | refine blk_alloc ?_ _)); refine blk_put (cs := #[.int .i64 0, .int .i64 0]) ?_ 0 _ rfl; (with_reducible repeat (first | refine blk_drewN ?_ _ | refine blk_drew ?_ | refine blk_alloc ?_ _)); exact BK209.out⟩, ⟨by repeat (first | (with_reducible first | exact HB.out | apply below_alloc | apply pw_below_drewN | apply below_drew1 | refine below_set ?_ GE193.out | refine below_set ?_ GE209.out) | exact HB.out)⟩⟩
                  case rest =>
                    clear HC34
                    try clear c1
                    try clear p1
                    try clear q1
                    try clear hx1
                    try clear c2
                    try clear p2
                    try clear q2
                    try clear hx2
                    try clear qi2
                    try clear c3
                    try clear c4
                    try clear c4b0
                    try clear c4b1
                    try clear c5
                    try clear p6
                    try clear c9
                    try clear c9b0
                    try clear c9b1
                    try clear c15
                    try clear c15b0
                    try clear c16
                    try clear c16b0
                    try clear c17
                    try clear c17b0
                    try clear c18
                    try clear c18b0
                    try clear c18b1
                    try clear c18b2
                    try clear c19
                    try clear c19b0
                    try clear c19b1
                    try clear c19b2
                    try clear p19
                    try clear q19
                    try clear hx19
                    try clear p20
                    try clear q20
                    try clear hx20
                    try clear qi20
                    try clear c21
                    try clear c21b0
                    try clear c22
                    try clear c22b0
                    try clear c23
                    try clear c23b0
                    try clear c23b1
                    try clear c23b2
                    try clear c26
                    try clear c26b0
                    try clear c27
                    try clear c27b0
                    try clear c27b1
                    try clear c27b2
                    try clear c28
                    try clear c28b0
                    try clear c28b1
                    try clear c29
                    try clear c29b0
                    try clear c29b1
                    try clear c29b2
                    try clear c32
                    try clear c32b0
                    try clear c32b1
                    try clear c32b2
                    try clear c38
                    try clear c40
                    try clear c40b0
                    try clear c40b1
                    try clear hcz12_0
                    try clear hcz12_1
                    try clear hcz39_0
                    try clear hcz39_1
                    try clear hfz12_0
                    try clear hfz12_1
                    try clear hfz39_0
                    try clear hfz39_1
                    try clear hx198_0
                    try clear hx199_0
                    try clear hx199_1
                    try clear hx199_2
                    try clear hx199_3
                    try clear hx199_4
                    try clear hx200_0
                    try clear hx201_0
                    try clear hx201_1
                    try clear hx201_2
                    try clear hx201_3
                    try clear hx201_4
                    try clear hx202_0
                    try clear p198
                    try clear p199
                    try clear p2
                    try clear p200
                    try clear p201
                    try clear p202
                    try clear q198
                    try clear q199
                    try clear q200
                    try clear q201
                    try clear q202
                    obtain ⟨kq, x80_33, rfl, HA, HJ33, HO_5, HO_12, BK193, BK209, HB⟩ := hcut
                    cases kq with
                    | zero => exact absurd HA.out (by simp [rushlightlaw07_LexBlanks.j2])
                    | succ kj33 =>
                      have H := HA.out
                      clear HA
                      simp only [rushlightlaw07_LexBlanks.j2] at H
                      by_cases c42 : x80_33 = true
                      · subst c42
                        have H1 : (some false) = some r := by rw [if_pos rfl] at H; exact H
                        clear H
                        have H := H1
                        clear H1
                        obtain rfl := Option.some.inj H
                        go_wp2
                        repeat (go_quiet (fail); try go_wp2)
                        go_ret
                        exact ⟨by first | rfl | (simp [errW_none, errW_some] <;> rfl) | (simp [*, errW_none, errW_some] <;> rfl), by repeat (first | (with_reducible first | exact HB.out | apply below_alloc | apply pw_below_drewN | apply below_drew1 | refine below_set ?_ GE193.out | refine below_set ?_ GE209.out) | exact HB.out)⟩
                      · replace c42 := Bool.eq_false_iff.mpr c42
                        subst c42
                        have H1 : (rushlightlaw07_LexBlanks.l1 kj33 t187 t203 0) = some r := by rw [if_neg (show ¬ (false = true) by decide)] at H; exact H
                        clear H
                        have H := H1
                        clear H1
                        have H' := Aside0.mk H
                        clear H
                        go_wp2
                        repeat (go_quiet (fail); try go_wp2)
                        go_loopg [15] kj33 (fun kq v15 w' => ∃ (x15_4 : Int), v15 = .int .i64 x15_4 ∧ Aside0 (rushlightlaw07_LexBlanks.l1 kq t187 t203 x15_4 = some r) ∧ Aside0 (kq ≤ kj33) ∧ Aside0 (Kd.R k33 33 w' w.heap.size (fun k_ => some k_ ≠ (v204 : Value).ownBlock) (.slice Ao35 t187.length co35) t187) ∧ Aside0 (Kd.R k33 33 w' w.heap.size (fun k_ => some k_ ≠ ((.slice Ao35 t187.length co35) : Value).ownBlock) v204 t203) ∧ Aside0 (w'.heap[gb193]? = some (.cells #[.int .i64 t190, .int .i64 t191] 26 (0, 0))) ∧ Aside0 (w'.heap[gb209]? = some (.cells #[.int .i64 t206, .int .i64 t207] 26 (0, 0))) ∧ Aside0 (Below w.heap.size w w'))
                        case atStart => exact ⟨(0), (by first | rfl | (simp; done) | (simp [*]; done)), H', ⟨Nat.le_refl _⟩, ⟨by (with_reducible repeat (first | apply Kd.R_alloc | apply Kd.R_drewN | apply Kd.R_drew)); exact HO_5.out⟩, ⟨by (with_reducible repeat (first | apply Kd.R_alloc | apply Kd.R_drewN | apply Kd.R_drew)); exact HO_12.out⟩, ⟨by (with_reducible repeat (first | refine blk_drewN ?_ _ | refine blk_drew ?_ | refine blk_alloc ?_ _)); exact BK193.out⟩, ⟨by (with_reducible repeat (first | refine blk_drewN ?_ _ | refine blk_drew ?_ | refine blk_alloc ?_ _)); exact BK209.out⟩, ⟨by repeat (first | (with_reducible first | exact HB.out | apply below_alloc | apply pw_below_drewN | apply below_drew1 | refine below_set ?_ GE193.out | refine below_set ?_ GE209.out) | exact HB.out)⟩⟩
                        case round =>
                          clear H'
                          try clear c1
                          try clear p1
                          try clear q1
                          try clear hx1
                          try clear c2
                          try clear p2
                          try clear q2
                          try clear hx2
                          try clear qi2
                          try clear c3
                          try clear c4
                          try clear c4b0
                          try clear c4b1
                          try clear c5
                          try clear p6
                          try clear c9
                          try clear c9b0
                          try clear c9b1
                          try clear c15
                          try clear c15b0
                          try clear c16
                          try clear c16b0
                          try clear c17
                          try clear c17b0
                          try clear c18
                          try clear c18b0
                          try clear c18b1
                          try clear c18b2
                          try clear c19
                          try clear c19b0
                          try clear c19b1
                          try clear c19b2
                          try clear p19
                          try clear q19
                          try clear hx19
                          try clear p20
                          try clear q20
                          try clear hx20
                          try clear qi20
                          try clear c21
                          try clear c21b0
                          try clear c22
                          try clear c22b0
                          try clear c23
                          try clear c23b0
                          try clear c23b1
                          try clear c23b2
                          try clear c26
                          try clear c26b0
                          try clear c27
                          try clear c27b0
                          try clear c27b1
                          try clear c27b2
                          try clear c28
                          try clear c28b0
                          try clear c28b1
                          try clear c29
                          try clear c29b0
                          try clear c29b1
                          try clear c29b2
                          try clear c32
                          try clear c32b0
                          try clear c32b1
                          try clear c32b2
                          try clear c38
                          try clear c40
                          try clear c40b0
                          try clear c40b1
                          try clear c42
                          try clear hcz12_0
                          try clear hcz12_1
                          try clear hcz39_0
                          try clear hcz39_1
                          try clear hfz12_0
                          try clear hfz12_1
                          try clear hfz39_0
                          try clear hfz39_1
                          try clear hx198_0
                          try clear hx199_0
                          try clear hx199_1
                          try clear hx199_2
                          try clear hx199_3
                          try clear hx199_4
                          try clear hx200_0
                          try clear hx201_0
                          try clear hx201_1
                          try clear hx201_2
                          try clear hx201_3
                          try clear hx201_4
                          try clear hx202_0
                          try clear p1
                          try clear p19
                          try clear p198
                          try clear p199
                          try clear p2
                          try clear p20
                          try clear p200
                          try clear p201
                          try clear p202
                          try clear p6
                          try clear q1
                          try clear q19
                          try clear q198
                          try clear q199
                          try clear q2
                          try clear q20
                          try clear q200
                          try clear q201
                          try clear q202
                          obtain ⟨x15_4, rfl, HA, HK4, HO_5, HO_12, BK193, BK209, HB⟩ := hrel
                          cases gk with
                          | zero => exact absurd HA.out (by simp [rushlightlaw07_LexBlanks.l1])
                          | succ k4 =>
                            have H := HA.out
                            clear HA
                            simp only [rushlightlaw07_LexBlanks.l1] at H
                            by_cases c43 : x15_4 < (t203.length : Int)
                            · rw [if_pos c43] at H
                              have c43b0 : decide (x15_4 < (t203.length : Int)) = true := decide_eq_true c43
                              clear c43
                              by_cases c44 : 0 ≤ x15_4
                              · rw [if_pos c44] at H
                                have c44b0 : decide (0 ≤ x15_4) = true := decide_eq_true c44
                                clear c44
                                by_cases c45 : x15_4 < (t187.length : Int)
                                · rw [if_pos c45] at H
                                  have c45b0 : decide (x15_4 < (t187.length : Int)) = true := decide_eq_true c45
                                  clear c45
                                  by_cases c46 : ((rd_T33 t203 x15_4).f0) = ((rd_T33 t187 x15_4).f0)
                                  · rw [if_pos c46] at H
                                    have c46b0 : (((rd_T33 t203 x15_4).f0) == ((rd_T33 t187 x15_4).f0)) = true := beq_iff_eq.mpr c46
                                    have c46b1 : (((rd_T33 t203 x15_4).f0) != ((rd_T33 t187 x15_4).f0)) = false := bne_eq_false_iff_eq.mpr c46
                                    clear c46
                                    by_cases c47 : ((rd_T33 t203 x15_4).f1).toList = ((rd_T33 t187 x15_4).f1).toList
                                    · rw [if_pos c47] at H
                                      have c47b0 : (((rd_T33 t203 x15_4).f1).toList == ((rd_T33 t187 x15_4).f1).toList) = true := beq_iff_eq.mpr c47
                                      have c47b1 : (((rd_T33 t203 x15_4).f1).toList != ((rd_T33 t187 x15_4).f1).toList) = false := bne_eq_false_iff_eq.mpr c47
                                      clear c47
                                      by_cases c48 : ((rd_T33 t203 x15_4).f2) = ((rd_T33 t187 x15_4).f2)
                                      · rw [if_pos c48] at H
                                        have c48b0 : (((rd_T33 t203 x15_4).f2) == ((rd_T33 t187 x15_4).f2)) = true := beq_iff_eq.mpr c48
                                        have c48b1 : (((rd_T33 t203 x15_4).f2) != ((rd_T33 t187 x15_4).f2)) = false := bne_eq_false_iff_eq.mpr c48
                                        clear c48
                                        have H' := Aside0.mk H
                                        clear H
                                        obtain ⟨Ao49, co49, eo49⟩ := Kd.R_slice HO_12.out
                                        subst eo49
                                        have p210 : 0 ≤ (x15_4 : Int) := of_decide_eq_true (by first | (with_reducible assumption) | assumption)
                                        have q210 : x15_4 < (t203.length : Int) := of_decide_eq_true (by first | (with_reducible assumption) | assumption)
                                        obtain ⟨ad210, e210, hx210_0, hx210_1, hx210_2, hx210_3, hx210_4⟩ := at_T33 (Kd.R_reads' HO_12.out).2.2 x15_4 p210 q210
                                        cases e210
                                        replace p210 := eq_true p210
                                        replace q210 := eq_true q210
                                        have p211 : 0 ≤ (x15_4 : Int) := of_decide_eq_true (by first | (with_reducible assumption) | assumption)
                                        have q211 : x15_4 < (t187.length : Int) := of_decide_eq_true (by first | (with_reducible assumption) | assumption)
                                        obtain ⟨ad211, e211, hx211_0, hx211_1, hx211_2, hx211_3, hx211_4⟩ := at_T33 (Kd.R_reads' HO_5.out).2.2 x15_4 p211 q211
                                        cases e211
                                        replace p211 := eq_true p211
                                        replace q211 := eq_true q211
                                        have p212 : 0 ≤ (x15_4 : Int) := of_decide_eq_true (by first | (with_reducible assumption) | assumption)
                                        have q212 : x15_4 < (t203.length : Int) := of_decide_eq_true (by first | (with_reducible assumption) | assumption)
                                        obtain ⟨ad212, e212, hx212_0, hx212_1, hx212_2, hx212_3, hx212_4⟩ := at_T33 (Kd.R_reads' HO_12.out).2.2 x15_4 p212 q212
                                        obtain rfl : ad210 = ad212 := (by injection e212)
                                        replace p212 := eq_true p212
                                        replace q212 := eq_true q212
                                        have p213 : 0 ≤ (x15_4 : Int) := of_decide_eq_true (by first | (with_reducible assumption) | assumption)
                                        have q213 : x15_4 < (t187.length : Int) := of_decide_eq_true (by first | (with_reducible assumption) | assumption)
                                        obtain ⟨ad213, e213, hx213_0, hx213_1, hx213_2, hx213_3, hx213_4⟩ := at_T33 (Kd.R_reads' HO_5.out).2.2 x15_4 p213 q213
                                        obtain rfl : ad211 = ad213 := (by injection e213)
                                        replace p213 := eq_true p213
                                        replace q213 := eq_true q213
                                        have p214 : 0 ≤ (x15_4 : Int) := of_decide_eq_true (by first | (with_reducible assumption) | assumption)
                                        have q214 : x15_4 < (t203.length : Int) := of_decide_eq_true (by first | (with_reducible assumption) | assumption)
                                        obtain ⟨ad214, e214, hx214_0, hx214_1, hx214_2, hx214_3, hx214_4⟩ := at_T33 (Kd.R_reads' HO_12.out).2.2 x15_4 p214 q214
                                        obtain rfl : ad210 = ad214 := (by injection e214)
                                        replace p214 := eq_true p214
                                        replace q214 := eq_true q214
                                        have p215 : 0 ≤ (x15_4 : Int) := of_decide_eq_true (by first | (with_reducible assumption) | assumption)
                                        have q215 : x15_4 < (t187.length : Int) := of_decide_eq_true (by first | (with_reducible assumption) | assumption)
                                        obtain ⟨ad215, e215, hx215_0, hx215_1, hx215_2, hx215_3, hx215_4⟩ := at_T33 (Kd.R_reads' HO_5.out).2.2 x15_4 p215 q215
                                        obtain rfl : ad211 = ad215 := (by injection e215)
                                        replace p215 := eq_true p215
                                        replace q215 := eq_true q215
                                        go_wp2
                                        repeat (go_quiet (fail); try go_wp2)
                                        go_roundg k4
                                        case measure => have := HJ2.out; have := HK2.out; have := HJ33.out; have := HK4.out; omega
                                        case rel => exact ⟨(wrap64 (x15_4 + 1)), (by first | rfl | (simp; done) | (simp [*]; done)), H', ⟨by have := HJ2.out; have := HK2.out; have := HJ33.out; have := HK4.out; omega⟩, ⟨by (with_reducible repeat (first | apply Kd.R_alloc | apply Kd.R_drewN | apply Kd.R_drew)); exact HO_5.out⟩, ⟨by (with_reducible repeat (first | apply Kd.R_alloc | apply Kd.R_drewN | apply Kd.R_drew)); exact HO_12.out⟩, ⟨by (with_reducible repeat (first | refine blk_drewN ?_ _ | refine blk_drew ?_ | refine blk_alloc ?_ _)); exact BK193.out⟩, ⟨by (with_reducible repeat (first | refine blk_drewN ?_ _ | refine blk_drew ?_ | refine blk_alloc ?_ _)); exact BK209.out⟩, ⟨by repeat (first | (with_reducible first | exact HB.out | apply below_alloc | apply pw_below_drewN | apply below_drew1 | refine below_set ?_ GE193.out | refine below_set ?_ GE209.out) | exact HB.out)⟩⟩
                                      · rw [if_neg c48] at H
                                        have c48b0 : (((rd_T33 t203 x15_4).f2) == ((rd_T33 t187 x15_4).f2)) = false := beq_eq_false_iff_ne.mpr c48
                                        have c48b1 : (((rd_T33 t203 x15_4).f2) != ((rd_T33 t187 x15_4).f2)) = true := bne_iff_ne.mpr c48
                                        obtain rfl := Option.some.inj H
                                        obtain ⟨Ao50, co50, eo50⟩ := Kd.R_slice HO_12.out
                                        subst eo50
                                        have p210 : 0 ≤ (x15_4 : Int) := of_decide_eq_true (by first | (with_reducible assumption) | assumption)
                                        have q210 : x15_4 < (t203.length : Int) := of_decide_eq_true (by first | (with_reducible assumption) | assumption)
                                        obtain ⟨ad210, e210, hx210_0, hx210_1, hx210_2, hx210_3, hx210_4⟩ := at_T33 (Kd.R_reads' HO_12.out).2.2 x15_4 p210 q210
                                        cases e210
                                        replace p210 := eq_true p210
                                        replace q210 := eq_true q210
                                        have p211 : 0 ≤ (x15_4 : Int) := of_decide_eq_true (by first | (with_reducible assumption) | assumption)
                                        have q211 : x15_4 < (t187.length : Int) := of_decide_eq_true (by first | (with_reducible assumption) | assumption)
                                        obtain ⟨ad211, e211, hx211_0, hx211_1, hx211_2, hx211_3, hx211_4⟩ := at_T33 (Kd.R_reads' HO_5.out).2.2 x15_4 p211 q211
                                        cases e211
                                        replace p211 := eq_true p211
                                        replace q211 := eq_true q211
                                        have p212 : 0 ≤ (x15_4 : Int) := of_decide_eq_true (by first | (with_reducible assumption) | assumption)
                                        have q212 : x15_4 < (t203.length : Int) := of_decide_eq_true (by first | (with_reducible assumption) | assumption)
                                        obtain ⟨ad212, e212, hx212_0, hx212_1, hx212_2, hx212_3, hx212_4⟩ := at_T33 (Kd.R_reads' HO_12.out).2.2 x15_4 p212 q212
                                        obtain rfl : ad210 = ad212 := (by injection e212)
                                        replace p212 := eq_true p212
                                        replace q212 := eq_true q212
                                        have p213 : 0 ≤ (x15_4 : Int) := of_decide_eq_true (by first | (with_reducible assumption) | assumption)
                                        have q213 : x15_4 < (t187.length : Int) := of_decide_eq_true (by first | (with_reducible assumption) | assumption)
                                        obtain ⟨ad213, e213, hx213_0, hx213_1, hx213_2, hx213_3, hx213_4⟩ := at_T33 (Kd.R_reads' HO_5.out).2.2 x15_4 p213 q213
                                        obtain rfl : ad211 = ad213 := (by injection e213)
                                        replace p213 := eq_true p213
                                        replace q213 := eq_true q213
                                        have p214 : 0 ≤ (x15_4 : Int) := of_decide_eq_true (by first | (with_reducible assumption) | assumption)
                                        have q214 : x15_4 < (t203.length : Int) := of_decide_eq_true (by first | (with_reducible assumption) | assumption)
                                        obtain ⟨ad214, e214, hx214_0, hx214_1, hx214_2, hx214_3, hx214_4⟩ := at_T33 (Kd.R_reads' HO_12.out).2.2 x15_4 p214 q214
                                        obtain rfl : ad210 = ad214 := (by injection e214)
                                        replace p214 := eq_true p214
                                        replace q214 := eq_true q214
                                        have p215 : 0 ≤ (x15_4 : Int) := of_decide_eq_true (by first | (with_reducible assumption) | assumption)
                                        have q215 : x15_4 < (t187.length : Int) := of_decide_eq_true (by first | (with_reducible assumption) | assumption)
                                        obtain ⟨ad215, e215, hx215_0, hx215_1, hx215_2, hx215_3, hx215_4⟩ := at_T33 (Kd.R_reads' HO_5.out).2.2 x15_4 p215 q215
                                        obtain rfl : ad211 = ad215 := (by injection e215)
                                        replace p215 := eq_true p215
                                        replace q215 := eq_true q215
                                        go_wp2
                                        repeat (go_quiet (fail); try go_wp2)
                                        go_ret
                                        exact ⟨by first | rfl | (simp [errW_none, errW_some] <;> rfl) | (simp [*, errW_none, errW_some] <;> rfl), by repeat (first | (with_reducible first | exact HB.out | apply below_alloc | apply pw_below_drewN | apply below_drew1 | refine below_set ?_ GE193.out | refine below_set ?_ GE209.out) | exact HB.out)⟩
                                    · rw [if_neg c47] at H
                                      have c47b0 : (((rd_T33 t203 x15_4).f1).toList == ((rd_T33 t187 x15_4).f1).toList) = false := beq_eq_false_iff_ne.mpr c47
                                      have c47b1 : (((rd_T33 t203 x15_4).f1).toList != ((rd_T33 t187 x15_4).f1).toList) = true := bne_iff_ne.mpr c47
                                      obtain rfl := Option.some.inj H
                                      obtain ⟨Ao51, co51, eo51⟩ := Kd.R_slice HO_12.out
                                      subst eo51
                                      have p210 : 0 ≤ (x15_4 : Int) := of_decide_eq_true (by first | (with_reducible assumption) | assumption)
                                      have q210 : x15_4 < (t203.length : Int) := of_decide_eq_true (by first | (with_reducible assumption) | assumption)
                                      obtain ⟨ad210, e210, hx210_0, hx210_1, hx210_2, hx210_3, hx210_4⟩ := at_T33 (Kd.R_reads' HO_12.out).2.2 x15_4 p210 q210
                                      cases e210
                                      replace p210 := eq_true p210
                                      replace q210 := eq_true q210
                                      have p211 : 0 ≤ (x15_4 : Int) := of_decide_eq_true (by first | (with_reducible assumption) | assumption)
                                      have q211 : x15_4 < (t187.length : Int) := of_decide_eq_true (by first | (with_reducible assumption) | assumption)
                                      obtain ⟨ad211, e211, hx211_0, hx211_1, hx211_2, hx211_3, hx211_4⟩ := at_T33 (Kd.R_reads' HO_5.out).2.2 x15_4 p211 q211
                                      cases e211
                                      replace p211 := eq_true p211
                                      replace q211 := eq_true q211
                                      have p212 : 0 ≤ (x15_4 : Int) := of_decide_eq_true (by first | (with_reducible assumption) | assumption)
                                      have q212 : x15_4 < (t203.length : Int) := of_decide_eq_true (by first | (with_reducible assumption) | assumption)
                                      obtain ⟨ad212, e212, hx212_0, hx212_1, hx212_2, hx212_3, hx212_4⟩ := at_T33 (Kd.R_reads' HO_12.out).2.2 x15_4 p212 q212
                                      obtain rfl : ad210 = ad212 := (by injection e212)
                                      replace p212 := eq_true p212
                                      replace q212 := eq_true q212
                                      have p213 : 0 ≤ (x15_4 : Int) := of_decide_eq_true (by first | (with_reducible assumption) | assumption)
                                      have q213 : x15_4 < (t187.length : Int) := of_decide_eq_true (by first | (with_reducible assumption) | assumption)
                                      obtain ⟨ad213, e213, hx213_0, hx213_1, hx213_2, hx213_3, hx213_4⟩ := at_T33 (Kd.R_reads' HO_5.out).2.2 x15_4 p213 q213
                                      obtain rfl : ad211 = ad213 := (by injection e213)
                                      replace p213 := eq_true p213
                                      replace q213 := eq_true q213
                                      go_wp2
                                      repeat (go_quiet (fail); try go_wp2)
                                      go_ret
                                      exact ⟨by first | rfl | (simp [errW_none, errW_some] <;> rfl) | (simp [*, errW_none, errW_some] <;> rfl), by repeat (first | (with_reducible first | exact HB.out | apply below_alloc | apply pw_below_drewN | apply below_drew1 | refine below_set ?_ GE193.out | refine below_set ?_ GE209.out) | exact HB.out)⟩
                                  · rw [if_neg c46] at H
                                    have c46b0 : (((rd_T33 t203 x15_4).f0) == ((rd_T33 t187 x15_4).f0)) = false := beq_eq_false_iff_ne.mpr c46
                                    have c46b1 : (((rd_T33 t203 x15_4).f0) != ((rd_T33 t187 x15_4).f0)) = true := bne_iff_ne.mpr c46
                                    obtain rfl := Option.some.inj H
                                    obtain ⟨Ao52, co52, eo52⟩ := Kd.R_slice HO_12.out
                                    subst eo52
                                    have p210 : 0 ≤ (x15_4 : Int) := of_decide_eq_true (by first | (with_reducible assumption) | assumption)
                                    have q210 : x15_4 < (t203.length : Int) := of_decide_eq_true (by first | (with_reducible assumption) | assumption)
                                    obtain ⟨ad210, e210, hx210_0, hx210_1, hx210_2, hx210_3, hx210_4⟩ := at_T33 (Kd.R_reads' HO_12.out).2.2 x15_4 p210 q210
                                    cases e210
                                    replace p210 := eq_true p210
                                    replace q210 := eq_true q210
                                    have p211 : 0 ≤ (x15_4 : Int) := of_decide_eq_true (by first | (with_reducible assumption) | assumption)
                                    have q211 : x15_4 < (t187.length : Int) := of_decide_eq_true (by first | (with_reducible assumption) | assumption)
                                    obtain ⟨ad211, e211, hx211_0, hx211_1, hx211_2, hx211_3, hx211_4⟩ := at_T33 (Kd.R_reads' HO_5.out).2.2 x15_4 p211 q211
                                    cases e211
                                    replace p211 := eq_true p211
                                    replace q211 := eq_true q211
                                    go_wp2
                                    repeat (go_quiet (fail); try go_wp2)
                                    go_ret
                                    exact ⟨by first | rfl | (simp [errW_none, errW_some] <;> rfl) | (simp [*, errW_none, errW_some] <;> rfl), by repeat (first | (with_reducible first | exact HB.out | apply below_alloc | apply pw_below_drewN | apply below_drew1 | refine below_set ?_ GE193.out | refine below_set ?_ GE209.out) | exact HB.out)⟩
                                · rw [if_neg c45] at H
                                  exact absurd H (by simp)
                              · rw [if_neg c44] at H
                                exact absurd H (by simp)
                            · rw [if_neg c43] at H
                              have c43b0 : decide (x15_4 < (t203.length : Int)) = false := decide_eq_false c43
                              clear c43
                              replace H := Option.bind_eq_some_iff.mp H
                              obtain ⟨t216, A530, H⟩ := H
                              replace H : (some t216) = some r := H
                              have A53 := Aside0.mk A530
                              clear A530
                              obtain rfl := Option.some.inj H
                              obtain ⟨Ao54, co54, eo54⟩ := Kd.R_slice HO_12.out
                              subst eo54
                              go_wp2_with (first | (go_at_call 7; (with_reducible refine (rushlightlaw07_awake.calls k4  t216 _ ?sG A53.out).mono ?_); (case sG => exact G0.at_ HG0.out (by repeat (first | (with_reducible first | exact HB.out | exact Below.refl _ _ | apply below_alloc | apply pw_below_drewN | apply below_drew1 | apply below_drew | exact Drawn0.below (by assumption)) | exact HB.out | (refine below_set ?_ (Aside0.out (by assumption)))))); rintro e w55 ⟨rfl, hb⟩; have n0_ := Aside0.mk (Kd.R_below (by (with_reducible repeat (first | apply Kd.R_alloc | apply Kd.R_drewN | apply Kd.R_drew)); exact HO_5.out) hb); have n1_ := Aside0.mk (Kd.R_below (by (with_reducible repeat (first | apply Kd.R_alloc | apply Kd.R_drewN | apply Kd.R_drew)); exact HO_12.out) hb); have n2_ := Aside0.mk (blk_below (g := gb193) (o := .cells #[.int .i64 t190, .int .i64 t191] 26 (0, 0)) (by (with_reducible repeat (first | refine blk_drewN ?_ _ | refine blk_drew ?_ | refine blk_alloc ?_ _)); exact BK193.out) hb); have n3_ := Aside0.mk (blk_below (g := gb209) (o := .cells #[.int .i64 t206, .int .i64 t207] 26 (0, 0)) (by (with_reducible repeat (first | refine blk_drewN ?_ _ | refine blk_drew ?_ | refine blk_alloc ?_ _)); exact BK209.out) hb); have n4_ := Aside0.mk (below_step (by repeat (first | (with_reducible first | exact HB.out | apply below_alloc | apply pw_below_drewN | apply below_drew1 | refine below_set ?_ GE193.out | refine below_set ?_ GE209.out) | exact HB.out)) hb); clear HO_5; clear HO_12; clear BK193; clear BK209; clear HB; have HO_5 := n0_; have HO_12 := n1_; have BK193 := n2_; have BK209 := n3_; have HB := n4_; clear n0_ n1_ n2_ n3_ n4_; (try clear hb); (try clear hb2); (try clear hk); (try clear hi)))
                              repeat (go_quiet (first | (go_at_call 7; (with_reducible refine (rushlightlaw07_awake.calls k4  t216 _ ?sG A53.out).mono ?_); (case sG => exact G0.at_ HG0.out (by repeat (first | (with_reducible first | exact HB.out | exact Below.refl _ _ | apply below_alloc | apply pw_below_drewN | apply below_drew1 | apply below_drew | exact Drawn0.below (by assumption)) | exact HB.out | (refine below_set ?_ (Aside0.out (by assumption)))))); rintro e w55 ⟨rfl, hb⟩; have n0_ := Aside0.mk (Kd.R_below (by (with_reducible repeat (first | apply Kd.R_alloc | apply Kd.R_drewN | apply Kd.R_drew)); exact HO_5.out) hb); have n1_ := Aside0.mk (Kd.R_below (by (with_reducible repeat (first | apply Kd.R_alloc | apply Kd.R_drewN | apply Kd.R_drew)); exact HO_12.out) hb); have n2_ := Aside0.mk (blk_below (g := gb193) (o := .cells #[.int .i64 t190, .int .i64 t191] 26 (0, 0)) (by (with_reducible repeat (first | refine blk_drewN ?_ _ | refine blk_drew ?_ | refine blk_alloc ?_ _)); exact BK193.out) hb); have n3_ := Aside0.mk (blk_below (g := gb209) (o := .cells #[.int .i64 t206, .int .i64 t207] 26 (0, 0)) (by (with_reducible repeat (first | refine blk_drewN ?_ _ | refine blk_drew ?_ | refine blk_alloc ?_ _)); exact BK209.out) hb); have n4_ := Aside0.mk (below_step (by repeat (first | (with_reducible first | exact HB.out | apply below_alloc | apply pw_below_drewN | apply below_drew1 | refine below_set ?_ GE193.out | refine below_set ?_ GE209.out) | exact HB.out)) hb); clear HO_5; clear HO_12; clear BK193; clear BK209; clear HB; have HO_5 := n0_; have HO_12 := n1_; have BK193 := n2_; have BK209 := n3_; have HB := n4_; clear n0_ n1_ n2_ n3_ n4_; (try clear hb); (try clear hb2); (try clear hk); (try clear hi))); try go_wp2_with (first | (go_at_call 7; (with_reducible refine (rushlightlaw07_awake.calls k4  t216 _ ?sG A53.out).mono ?_); (case sG => exact G0.at_ HG0.out (by repeat (first | (with_reducible first | exact HB.out | exact Below.refl _ _ | apply below_alloc | apply pw_below_drewN | apply below_drew1 | apply below_drew | exact Drawn0.below (by assumption)) | exact HB.out | (refine below_set ?_ (Aside0.out (by assumption)))))); rintro e w55 ⟨rfl, hb⟩; have n0_ := Aside0.mk (Kd.R_below (by (with_reducible repeat (first | apply Kd.R_alloc | apply Kd.R_drewN | apply Kd.R_drew)); exact HO_5.out) hb); have n1_ := Aside0.mk (Kd.R_below (by (with_reducible repeat (first | apply Kd.R_alloc | apply Kd.R_drewN | apply Kd.R_drew)); exact HO_12.out) hb); have n2_ := Aside0.mk (blk_below (g := gb193) (o := .cells #[.int .i64 t190, .int .i64 t191] 26 (0, 0)) (by (with_reducible repeat (first | refine blk_drewN ?_ _ | refine blk_drew ?_ | refine blk_alloc ?_ _)); exact BK193.out) hb); have n3_ := Aside0.mk (blk_below (g := gb209) (o := .cells #[.int .i64 t206, .int .i64 t207] 26 (0, 0)) (by (with_reducible repeat (first | refine blk_drewN ?_ _ | refine blk_drew ?_ | refine blk_alloc ?_ _)); exact BK209.out) hb); have n4_ := Aside0.mk (below_step (by repeat (first | (with_reducible first | exact HB.out | apply below_alloc | apply pw_below_drewN | apply below_drew1 | refine below_set ?_ GE193.out | refine below_set ?_ GE209.out) | exact HB.out)) hb); clear HO_5; clear HO_12; clear BK193; clear BK209; clear HB; have HO_5 := n0_; have HO_12 := n1_; have BK193 := n2_; have BK209 := n3_; have HB := n4_; clear n0_ n1_ n2_ n3_ n4_; (try clear hb); (try clear hb2); (try clear hk); (try clear hi))))
                              go_ret
                              exact ⟨by first | rfl | (simp [errW_none, errW_some] <;> rfl) | (simp [*, errW_none, errW_some] <;> rfl), by repeat (first | (with_reducible first | exact HB.out | apply below_alloc | apply pw_below_drewN | apply below_drew1 | refine below_set ?_ GE193.out | refine below_set ?_ GE209.out) | exact HB.out)⟩
                · rw [if_neg c32] at H
                  exact absurd H (by simp)
        · rw [if_neg c9] at H
          have c9b0 : (t192 == 0) = false := beq_eq_false_iff_ne.mpr c9
          have c9b1 : (t192 != 0) = true := bne_iff_ne.mpr c9
          replace H := Option.bind_eq_some_iff.mp H
          obtain ⟨t194, A560, H⟩ := H
          replace H : (some t194) = some r := H
          have A56 := Aside0.mk A560
          clear A560
          obtain rfl := Option.some.inj H
          go_wp2_with (first | (go_at_call 8; (with_reducible refine (lex_Lex.calls kj2 a0 t187 t190 t191 t192 _ ?sG A8.out).mono ?_); (case sG => exact G0.at_ HG0.out (by repeat (first | (with_reducible first | exact HB.out | exact Below.refl _ _ | apply below_alloc | apply pw_below_drewN | apply below_drew1 | apply below_drew | exact Drawn0.below (by assumption)) | exact HB.out | (refine below_set ?_ (Aside0.out (by assumption)))))); rintro e w57 ⟨v188, rfl, ho0, hb⟩; have n0_ := Aside0.mk (Kd.R_lower ho0 (below_size (by repeat (first | (with_reducible first | exact HB.out | apply below_alloc | apply pw_below_drewN | apply below_drew1) | exact HB.out)))); have n1_ := Aside0.mk (below_step (by repeat (first | (with_reducible first | exact HB.out | apply below_alloc | apply pw_below_drewN | apply below_drew1) | exact HB.out)) hb); clear HB; have HO189 := n0_; have HB := n1_; clear n0_ n1_; (try clear hb); (try clear hb2); (try clear hk); (try clear hi); (try clear ho0)) | ((with_reducible refine gate_dst (N := 6) rfl ?_); (try (refine gate_guard (by rfl) ?_; dsimp only)); refine box_event ?hg (N := 6) ?hd (cs := #[.int .i64 0, .int .i64 0]) (t := 26) ?hr ?_; (case hd => rfl); (case hg => rfl); (case hr => first | (go_simp; done) | (go_simp; rfl)); intro gb193 hg w58 hbox hb; have n0_ := Aside0.mk (Kd.R_below (by (with_reducible repeat (first | apply Kd.R_alloc | apply Kd.R_drewN | apply Kd.R_drew)); exact HO189.out) hb); have n1_ := Aside0.mk (below_step (by repeat (first | (with_reducible first | exact HB.out | apply below_alloc | apply pw_below_drewN | apply below_drew1) | exact HB.out)) hb); have n2_ := Aside0.mk (hbox); have n3_ := Aside0.mk ((by rw [hg]; exact (below_size (by repeat (first | (with_reducible first | exact HB.out | apply below_alloc | apply pw_below_drewN | apply below_drew1) | exact HB.out))) : w.heap.size ≤ gb193)); have n4_ := Aside0.mk ((by rw [hg]; exact (below_size (by repeat (first | (with_reducible first | exact HB.out | apply below_alloc | apply pw_below_drewN | apply below_drew1) | exact HB.out))) : w.heap.size ≤ gb193)); clear HO189; clear HB; have HO189 := n0_; have HB := n1_; have BK193 := n2_; have GW193 := n3_; have GE193 := n4_; clear n0_ n1_ n2_ n3_ n4_; clear hb hbox hg; have hcz59_0 : w58.cell? ⟨gb193, 0, none⟩ = some (.int .i64 0) := (blk_cell BK193.out 0).trans rfl; have hcz59_1 : w58.cell? ⟨gb193, 1, none⟩ = some (.int .i64 0) := (blk_cell BK193.out 1).trans rfl; have hfz59_0 := blk_frozen BK193.out 0; have hfz59_1 := blk_frozen BK193.out 1) | (go_at_call 7; (with_reducible refine (rushlightlaw07_awake.calls kj2  t194 _ ?sG A56.out).mono ?_); (case sG => exact G0.at_ HG0.out (by repeat (first | (with_reducible first | exact HB.out | exact Below.refl _ _ | apply below_alloc | apply pw_below_drewN | apply below_drew1 | apply below_drew | exact Drawn0.below (by assumption)) | exact HB.out | (refine below_set ?_ (Aside0.out (by assumption)))))); rintro e w60 ⟨rfl, hb⟩; have n0_ := Aside0.mk (Kd.R_below (by (with_reducible repeat (first | apply Kd.R_alloc | apply Kd.R_drewN | apply Kd.R_drew)); exact (Kd.R_mono (Kd.R_far (p := ⟨gb193, 1, none⟩) (Kd.R_far (p := ⟨gb193, 0, none⟩) (Kd.R_types HO189.out BK193.out (by decide)) (fun _ hk => hk.2) (.int .i64 t190)) (fun _ hk => hk.2) (.int .i64 t191)) (fun _ h_ => h_.1))) hb); have n1_ := Aside0.mk (blk_below (g := gb193) (o := .cells #[.int .i64 t190, .int .i64 t191] 26 (0, 0)) (by (with_reducible repeat (first | refine blk_drewN ?_ _ | refine blk_drew ?_ | refine blk_alloc ?_ _)); refine blk_put (cs := #[.int .i64 t190, .int .i64 0]) ?_ 1 _ rfl; (with_reducible repeat (first | refine blk_drewN ?_ _ | refine blk_drew ?_ | refine blk_alloc ?_ _)); refine blk_put (cs := #[.int .i64 0, .int .i64 0]) ?_ 0 _ rfl; (with_reducible repeat (first | refine blk_drewN ?_ _ | refine blk_drew ?_ | refine blk_alloc ?_ _)); exact BK193.out) hb); have n2_ := Aside0.mk (below_step (by repeat (first | (with_reducible first | exact HB.out | apply below_alloc | apply pw_below_drewN | apply below_drew1 | refine below_set ?_ GE193.out) | exact HB.out)) hb); clear HO189; clear BK193; clear HB; have HO189 := n0_; have BK193 := n1_; have HB := n2_; clear n0_ n1_ n2_; (try clear hb); (try clear hb2); (try clear hk); (try clear hi)))
          repeat (go_quiet (first | (go_at_call 8; (with_reducible refine (lex_Lex.calls kj2 a0 t187 t190 t191 t192 _ ?sG A8.out).mono ?_); (case sG => exact G0.at_ HG0.out (by repeat (first | (with_reducible first | exact HB.out | exact Below.refl _ _ | apply below_alloc | apply pw_below_drewN | apply below_drew1 | apply below_drew | exact Drawn0.below (by assumption)) | exact HB.out | (refine below_set ?_ (Aside0.out (by assumption)))))); rintro e w57 ⟨v188, rfl, ho0, hb⟩; have n0_ := Aside0.mk (Kd.R_lower ho0 (below_size (by repeat (first | (with_reducible first | exact HB.out | apply below_alloc | apply pw_below_drewN | apply below_drew1) | exact HB.out)))); have n1_ := Aside0.mk (below_step (by repeat (first | (with_reducible first | exact HB.out | apply below_alloc | apply pw_below_drewN | apply below_drew1) | exact HB.out)) hb); clear HB; have HO189 := n0_; have HB := n1_; clear n0_ n1_; (try clear hb); (try clear hb2); (try clear hk); (try clear hi); (try clear ho0)) | ((with_reducible refine gate_dst (N := 6) rfl ?_); (try (refine gate_guard (by rfl) ?_; dsimp only)); refine box_event ?hg (N := 6) ?hd (cs := #[.int .i64 0, .int .i64 0]) (t := 26) ?hr ?_; (case hd => rfl); (case hg => rfl); (case hr => first | (go_simp; done) | (go_simp; rfl)); intro gb193 hg w58 hbox hb; have n0_ := Aside0.mk (Kd.R_below (by (with_reducible repeat (first | apply Kd.R_alloc | apply Kd.R_drewN | apply Kd.R_drew)); exact HO189.out) hb); have n1_ := Aside0.mk (below_step (by repeat (first | (with_reducible first | exact HB.out | apply below_alloc | apply pw_below_drewN | apply below_drew1) | exact HB.out)) hb); have n2_ := Aside0.mk (hbox); have n3_ := Aside0.mk ((by rw [hg]; exact (below_size (by repeat (first | (with_reducible first | exact HB.out | apply below_alloc | apply pw_below_drewN | apply below_drew1) | exact HB.out))) : w.heap.size ≤ gb193)); have n4_ := Aside0.mk ((by rw [hg]; exact (below_size (by repeat (first | (with_reducible first | exact HB.out | apply below_alloc | apply pw_below_drewN | apply below_drew1) | exact HB.out))) : w.heap.size ≤ gb193)); clear HO189; clear HB; have HO189 := n0_; have HB := n1_; have BK193 := n2_; have GW193 := n3_; have GE193 := n4_; clear n0_ n1_ n2_ n3_ n4_; clear hb hbox hg; have hcz59_0 : w58.cell? ⟨gb193, 0, none⟩ = some (.int .i64 0) := (blk_cell BK193.out 0).trans rfl; have hcz59_1 : w58.cell? ⟨gb193, 1, none⟩ = some (.int .i64 0) := (blk_cell BK193.out 1).trans rfl; have hfz59_0 := blk_frozen BK193.out 0; have hfz59_1 := blk_frozen BK193.out 1) | (go_at_call 7; (with_reducible refine (rushlightlaw07_awake.calls kj2  t194 _ ?sG A56.out).mono ?_); (case sG => exact G0.at_ HG0.out (by repeat (first | (with_reducible first | exact HB.out | exact Below.refl _ _ | apply below_alloc | apply pw_below_drewN | apply below_drew1 | apply below_drew | exact Drawn0.below (by assumption)) | exact HB.out | (refine below_set ?_ (Aside0.out (by assumption)))))); rintro e w60 ⟨rfl, hb⟩; have n0_ := Aside0.mk (Kd.R_below (by (with_reducible repeat (first | apply Kd.R_alloc | apply Kd.R_drewN | apply Kd.R_drew)); exact (Kd.R_mono (Kd.R_far (p := ⟨gb193, 1, none⟩) (Kd.R_far (p := ⟨gb193, 0, none⟩) (Kd.R_types HO189.out BK193.out (by decide)) (fun _ hk => hk.2) (.int .i64 t190)) (fun _ hk => hk.2) (.int .i64 t191)) (fun _ h_ => h_.1))) hb); have n1_ := Aside0.mk (blk_below (g := gb193) (o := .cells #[.int .i64 t190, .int .i64 t191] 26 (0, 0)) (by (with_reducible repeat (first | refine blk_drewN ?_ _ | refine blk_drew ?_ | refine blk_alloc ?_ _)); refine blk_put (cs := #[.int .i64 t190, .int .i64 0]) ?_ 1 _ rfl; (with_reducible repeat (first | refine blk_drewN ?_ _ | refine blk_drew ?_ | refine blk_alloc ?_ _)); refine blk_put (cs := #[.int .i64 0, .int .i64 0]) ?_ 0 _ rfl; (with_reducible repeat (first | refine blk_drewN ?_ _ | refine blk_drew ?_ | refine blk_alloc ?_ _)); exact BK193.out) hb); have n2_ := Aside0.mk (below_step (by repeat (first | (with_reducible first | exact HB.out | apply below_alloc | apply pw_below_drewN | apply below_drew1 | refine below_set ?_ GE193.out) | exact HB.out)) hb); clear HO189; clear BK193; clear HB; have HO189 := n0_; have BK193 := n1_; have HB := n2_; clear n0_ n1_ n2_; (try clear hb); (try clear hb2); (try clear hk); (try clear hi))); try go_wp2_with (first | (go_at_call 8; (with_reducible refine (lex_Lex.calls kj2 a0 t187 t190 t191 t192 _ ?sG A8.out).mono ?_); (case sG => exact G0.at_ HG0.out (by repeat (first | (with_reducible first | exact HB.out | exact Below.refl _ _ | apply below_alloc | apply pw_below_drewN | apply below_drew1 | apply below_drew | exact Drawn0.below (by assumption)) | exact HB.out | (refine below_set ?_ (Aside0.out (by assumption)))))); rintro e w57 ⟨v188, rfl, ho0, hb⟩; have n0_ := Aside0.mk (Kd.R_lower ho0 (below_size (by repeat (first | (with_reducible first | exact HB.out | apply below_alloc | apply pw_below_drewN | apply below_drew1) | exact HB.out)))); have n1_ := Aside0.mk (below_step (by repeat (first | (with_reducible first | exact HB.out | apply below_alloc | apply pw_below_drewN | apply below_drew1) | exact HB.out)) hb); clear HB; have HO189 := n0_; have HB := n1_; clear n0_ n1_; (try clear hb); (try clear hb2); (try clear hk); (try clear hi); (try clear ho0)) | ((with_reducible refine gate_dst (N := 6) rfl ?_); (try (refine gate_guard (by rfl) ?_; dsimp only)); refine box_event ?hg (N := 6) ?hd (cs := #[.int .i64 0, .int .i64 0]) (t := 26) ?hr ?_; (case hd => rfl); (case hg => rfl); (case hr => first | (go_simp; done) | (go_simp; rfl)); intro gb193 hg w58 hbox hb; have n0_ := Aside0.mk (Kd.R_below (by (with_reducible repeat (first | apply Kd.R_alloc | apply Kd.R_drewN | apply Kd.R_drew)); exact HO189.out) hb); have n1_ := Aside0.mk (below_step (by repeat (first | (with_reducible first | exact HB.out | apply below_alloc | apply pw_below_drewN | apply below_drew1) | exact HB.out)) hb); have n2_ := Aside0.mk (hbox); have n3_ := Aside0.mk ((by rw [hg]; exact (below_size (by repeat (first | (with_reducible first | exact HB.out | apply below_alloc | apply pw_below_drewN | apply below_drew1) | exact HB.out))) : w.heap.size ≤ gb193)); have n4_ := Aside0.mk ((by rw [hg]; exact (below_size (by repeat (first | (with_reducible first | exact HB.out | apply below_alloc | apply pw_below_drewN | apply below_drew1) | exact HB.out))) : w.heap.size ≤ gb193)); clear HO189; clear HB; have HO189 := n0_; have HB := n1_; have BK193 := n2_; have GW193 := n3_; have GE193 := n4_; clear n0_ n1_ n2_ n3_ n4_; clear hb hbox hg; have hcz59_0 : w58.cell? ⟨gb193, 0, none⟩ = some (.int .i64 0) := (blk_cell BK193.out 0).trans rfl; have hcz59_1 : w58.cell? ⟨gb193, 1, none⟩ = some (.int .i64 0) := (blk_cell BK193.out 1).trans rfl; have hfz59_0 := blk_frozen BK193.out 0; have hfz59_1 := blk_frozen BK193.out 1) | (go_at_call 7; (with_reducible refine (rushlightlaw07_awake.calls kj2  t194 _ ?sG A56.out).mono ?_); (case sG => exact G0.at_ HG0.out (by repeat (first | (with_reducible first | exact HB.out | exact Below.refl _ _ | apply below_alloc | apply pw_below_drewN | apply below_drew1 | apply below_drew | exact Drawn0.below (by assumption)) | exact HB.out | (refine below_set ?_ (Aside0.out (by assumption)))))); rintro e w60 ⟨rfl, hb⟩; have n0_ := Aside0.mk (Kd.R_below (by (with_reducible repeat (first | apply Kd.R_alloc | apply Kd.R_drewN | apply Kd.R_drew)); exact (Kd.R_mono (Kd.R_far (p := ⟨gb193, 1, none⟩) (Kd.R_far (p := ⟨gb193, 0, none⟩) (Kd.R_types HO189.out BK193.out (by decide)) (fun _ hk => hk.2) (.int .i64 t190)) (fun _ hk => hk.2) (.int .i64 t191)) (fun _ h_ => h_.1))) hb); have n1_ := Aside0.mk (blk_below (g := gb193) (o := .cells #[.int .i64 t190, .int .i64 t191] 26 (0, 0)) (by (with_reducible repeat (first | refine blk_drewN ?_ _ | refine blk_drew ?_ | refine blk_alloc ?_ _)); refine blk_put (cs := #[.int .i64 t190, .int .i64 0]) ?_ 1 _ rfl; (with_reducible repeat (first | refine blk_drewN ?_ _ | refine blk_drew ?_ | refine blk_alloc ?_ _)); refine blk_put (cs := #[.int .i64 0, .int .i64 0]) ?_ 0 _ rfl; (with_reducible repeat (first | refine blk_drewN ?_ _ | refine blk_drew ?_ | refine blk_alloc ?_ _)); exact BK193.out) hb); have n2_ := Aside0.mk (below_step (by repeat (first | (with_reducible first | exact HB.out | apply below_alloc | apply pw_below_drewN | apply below_drew1 | refine below_set ?_ GE193.out) | exact HB.out)) hb); clear HO189; clear BK193; clear HB; have HO189 := n0_; have BK193 := n1_; have HB := n2_; clear n0_ n1_ n2_; (try clear hb); (try clear hb2); (try clear hk); (try clear hi))))
          go_ret
          exact ⟨by first | rfl | (simp [errW_none, errW_some] <;> rfl) | (simp [*, errW_none, errW_some] <;> rfl), by repeat (first | (with_reducible first | exact HB.out | apply below_alloc | apply pw_below_drewN | apply below_drew1 | refine below_set ?_ GE193.out) | exact HB.out)⟩
def rushlightlaw07_LexBlanks.Pure : Prop := ∀ (a0 : ByteArray) (l1 : List Int), a0.size ≤ 140737488351232 → l1.length ≤ maxLen → l1.length * 1 ≤ 140737488351232 → (∀ x ∈ l1, (Lit.int .u8 x).wf = true) → ∃ k, rushlightlaw07_LexBlanks.f k a0 l1 = some true
theorem rushlightlaw07_LexBlanks.walk (P : rushlightlaw07_LexBlanks.Pure) (a0 : ByteArray) (a1 : Option Addr) (len1 cap1 : Nat) (z1 : List Int) (w : World) (hG : G0 w) (w0 : a0.size ≤ 140737488351232) (w1 : (a1 = none ∧ len1 = 0 ∧ cap1 = 0 ∧ z1 = []) ∨ ∃ x, a1 = some x ∧ len1 ≤ cap1 ∧ cap1 ≤ maxLen ∧ z1.length = cap1 ∧ (∀ i, i < z1.length → w.cell? (x.add i) = some (.int .u8 (z1.getD i 0))) ∧ ∀ n ∈ z1, (Lit.int .u8 n).wf = true) (y1 : len1 * 1 ≤ 140737488351232) :
    Calls Try.prog 3 #[.string a0, .slice a1 len1 cap1] w fun e w' => e = .returned (.bool true) ∧ Below w.heap.size w w' := by
  have HG0 := Aside0.mk hG
  clear hG
  obtain ⟨l1, rfl, hr1, hm1, hw1, hc1⟩ := ReadsInt.ofRowC w1
  obtain ⟨k, h⟩ := P a0 l1 w0 hm1 y1 hw1
  refine (rushlightlaw07_LexBlanks.calls k a0 _ _ l1 true w HG0.out (Kd.C_of_reads (d := (0 : Int)) (h1 := fun _ => rfl) hr1) hc1 h).mono ?_
  rintro e w' ⟨rfl, hd⟩
  exact ⟨rfl, hd⟩
end Go.Proofs.Ytgelabhiebmadaa.P
end
section
namespace Go.Proofs.Ytgelabhiebmadaa.P
open Go.RowKit Go.Proofs.YtgelabhiebmadaaW.PrintWords Go.Proofs.YtgelabhiebmadaaW.PrintLast Go.Proofs.YtgelabhiebmadaaW.PrintMore
attribute [local go_sem] max2_int min2_int max_two min_two max_three min_three max_four min_four   
set_option linter.unusedVariables false
set_option linter.unusedSimpArgs false
attribute [local go_sem high] eqA26
end Go.Proofs.Ytgelabhiebmadaa.P
end
section
namespace Go.Proofs.Ytgelabhiebmadaa.Pure
open Go.RowKit Go.Proofs.Ytgelabhiebmadaa.P Go.Proofs.YtgelabhiebmadaaW.PrintWords Go.Proofs.YtgelabhiebmadaaW.PrintLast
set_option linter.unusedVariables false
def ofL (l : List UInt8) : ByteArray := ⟨l.toArray⟩
theorem ofL_list (s : ByteArray) : ofL s.data.toList = s := rfl
theorem ofL_data (l : List UInt8) : (ofL l).data.toList = l := by simp [ofL]
theorem ofL_toList (l : List UInt8) : (ofL l).toList = l := by rw [ByteArray.toList_eq, ofL_data]
theorem ofL_size (l : List UInt8) : (ofL l).size = l.length := by rw [← data_length, ofL_data]
theorem ofL_inj {a b : List UInt8} (h : ofL a = ofL b) : a = b := by rw [← ofL_data a, h, ofL_data]
theorem bt_ofL (l : List UInt8) (i : Nat) : bt (ofL l) (i : Int) = ((l.getD i 0).toNat : Int) := by
  unfold bt
  simp only [Int.toNat_natCast]
  by_cases h : i < l.length
  · rw [dif_pos (by rw [ofL_size]; exact h)]
    simp [ofL, List.getD, h]
    rfl
  · rw [dif_neg (by rw [ofL_size]; exact h)]
    simp [List.getD, List.getElem?_eq_none (Nat.le_of_not_lt h)]
theorem ofL_extract (l : List UInt8) (a b : Nat) : (ofL l).extract a b = ofL ((l.take b).drop a) := by
  apply ByteArray.ext
  simp [ofL, List.drop_take]
theorem span_ofL (p : Int → Bool) (l : List UInt8) : spanFrom p (ofL l) 0 = (l.takeWhile fun b => p (b.toNat : Int)).length := by
  unfold spanFrom
  rw [ofL_data, List.drop_zero]
def blankC (c : UInt8) : Bool := blankB (c.toNat : Int)
def moreC (c : UInt8) : Bool := moreB (c.toNat : Int)
def Sep (r : List UInt8) : Prop := ∀ c, r.head? = some c → blankC c = true
theorem all_bytes {p : UInt8 → Prop} (h : ∀ n : Fin 256, p (UInt8.ofNat n.val)) (c : UInt8) : p c := by
  have := h ⟨c.toNat, c.toNat_lt⟩
  simpa using this
theorem blank_no_more : ∀ c : UInt8, blankC c = true → moreC c = false := all_bytes (p := fun c => blankC c = true → moreC c = false) (by decide +kernel)
theorem takeWhile_sep (p : UInt8 → Bool) (t r : List UInt8) (ht : ∀ c ∈ t, p c = true) (hr : ∀ c, r.head? = some c → p c = false) : (t ++ r).takeWhile p = t := by
  rw [List.takeWhile_append_of_pos ht]
  cases r with
  | nil => simp
  | cons c r => simp [hr c rfl]
theorem letter_some (c : Int) : ∃ b, lex_letter.f c = some b := by
  unfold lex_letter.f
  repeat' split
  all_goals exact ⟨_, rfl⟩
theorem ite_any (p : Prop) [Decidable p] (r : Bool) : (if p then some true else some r) = some (decide p || r) := by
  by_cases h : p <;> simp [h]
theorem word_some (x : ByteArray) : ∃ b, lex_Word.f x = some b := by
  unfold lex_Word.f
  simp only [ite_any]
  exact ⟨_, rfl⟩
theorem letter_more (c : Int) (h : lex_letter.f c = some true) : moreB c = true := by
  have := more_some c
  unfold lex_more.f at this
  rw [h, Option.bind_some, if_pos rfl] at this
  exact (Option.some.inj this).symm
theorem digit_more (c : Int) (h : lex_letter.f c = some false) (h2 : lex_digit.f c = some true) : moreB c = true := by
  have := more_some c
  unfold lex_more.f at this
  rw [h, Option.bind_some, if_neg (by simp), h2, Option.bind_some] at this
  exact (Option.some.inj this).symm
theorem take_while (p : UInt8 → Bool) (l : List UInt8) : l.take (l.takeWhile p).length = l.takeWhile p := (List.prefix_iff_eq_take.mp (List.takeWhile_prefix p)).symm
theorem bt_head (c : UInt8) (l : List UInt8) : bt (ofL (c :: l)) 0 = (c.toNat : Int) := by
  have := bt_ofL (c :: l) 0
  simpa using this
theorem more_plain : ∀ c : UInt8, moreC c = true → c ≠ 10 ∧ blankC c = false := all_bytes (p := fun c => moreC c = true → c ≠ 10 ∧ blankC c = false) (by decide +kernel)
theorem num_text (all : ByteArray) (a : Int) (b : ByteArray) (c d e : Int) (h : numAll all = (a, b, c, d, e, 0)) : b = all := by
  have key : ∀ dg base, numOf all dg base = (a, b, c, d, e, 0) → b = all := by
    intro dg base h
    unfold numOf at h
    split at h
    · simp at h
    · generalize numL base dg.data.toList 0 false = o at h
      cases o with
      | none => simp [numTok] at h
      | some q =>
        obtain ⟨n, far⟩ := q
        cases far with
        | true => simp [numTok] at h
        | false =>
          simp only [numTok, if_neg (show ¬ (false = true) by decide), Prod.mk.injEq] at h
          exact h.2.1.symm
  unfold numAll at h
  split at h
  · exact key _ _ h
  · exact key _ _ h
def markOk (m : List UInt8) : Bool := match m with
  | [] => false
  | c :: m' => m.all (fun c => !blankC c) && (markFrom 0 (ofL m) == m) && (lex_letter.f (c.toNat : Int) == some false) && (lex_digit.f (c.toNat : Int) == some false) && (c != 39)
theorem marks_ok : marks.all markOk = true := by decide +kernel
theorem marks_plain (m : List UInt8) (hm : m ∈ marks) : m ≠ [] ∧ (∀ c ∈ m, blankC c = false) ∧ markFrom 0 (ofL m) = m ∧ (∃ c m', m = c :: m' ∧ lex_letter.f (c.toNat : Int) = some false ∧ lex_digit.f (c.toNat : Int) = some false ∧ c ≠ 39) := by
  have h := List.all_eq_true.mp marks_ok m hm
  unfold markOk at h
  cases m with
  | nil => cases h
  | cons c m' =>
    simp only [Bool.and_eq_true, beq_iff_eq, bne_iff_ne, List.all_eq_true, Bool.not_eq_true'] at h
    obtain ⟨⟨⟨⟨h1, h2⟩, h3⟩, h4⟩, h5⟩ := h
    exact ⟨by simp, h1, h2, c, m', rfl, h3, h4, h5⟩
theorem pref_sep (m' m r : List UInt8) (hm : ∀ c ∈ m', blankC c = false) (hr : Sep r) : prefB m' (ofL (m ++ r)) = prefB m' (ofL m) := by
  unfold prefB
  rw [ofL_size, ofL_size, ofL_data, ofL_data]
  by_cases h : m'.length ≤ m.length
  · rw [decide_eq_true h, decide_eq_true (show m'.length ≤ (m ++ r).length by simp; omega), List.take_append_of_le_length h]
  · rw [decide_eq_false h, Bool.false_and]
    cases r with
    | nil => rw [List.append_nil, decide_eq_false h, Bool.false_and]
    | cons c r =>
      have hc := hr c rfl
      by_cases h2 : (m ++ c :: r).take m'.length = m'
      · exfalso
        have hin : c ∈ m' := by
          rw [← h2, List.take_append]
          refine List.mem_append_right _ ?_
          obtain ⟨j, hj⟩ : ∃ j, m'.length - m.length = j + 1 := ⟨m'.length - m.length - 1, by omega⟩
          rw [hj]
          simp
        rw [hm c hin] at hc
        cases hc
      · rw [Bool.and_eq_false_iff]
        exact .inr (by simpa using h2)
theorem mark_sep (m r : List UInt8) (hm : m ∈ marks) (hr : Sep r) : markFrom 0 (ofL (m ++ r)) = m := by
  have h := (marks_plain m hm).2.2.1
  rw [← h]
  conv => rhs; rw [h]
  have : markFrom 0 (ofL (m ++ r)) = markFrom 0 (ofL m) := by
    unfold markFrom
    rw [List.drop_zero]
    have hf : ∀ ms : List (List UInt8), (∀ x ∈ ms, x ∈ marks) → ms.find? (fun x => prefB x (ofL (m ++ r))) = ms.find? (fun x => prefB x (ofL m)) := by
      intro ms
      induction ms with
      | nil => intro _; rfl
      | cons x ms ih =>
        intro hx
        rw [List.find?_cons, List.find?_cons, pref_sep x m r (marks_plain x (hx x (by simp))).2.1 hr, ih (fun y hy => hx y (by simp [hy]))]
    rw [hf marks (fun _ h => h)]
  rw [h] at this ⊢
  exact this
theorem mark_mem (s : ByteArray) (h : markFrom 0 s ≠ []) : markFrom 0 s ∈ marks ∧ prefB (markFrom 0 s) s = true := by
  unfold markFrom at h ⊢
  rw [List.drop_zero] at h ⊢
  cases hf : marks.find? (fun m => prefB m s) with
  | none => rw [hf] at h; exact absurd rfl h
  | some m => exact ⟨List.mem_of_find?_eq_some hf, by simpa using List.find?_some hf⟩
def badTok : Int × ByteArray × Int × Int × Int × Int := (0, ⟨#[]⟩, 0, 0, 0, 3)
theorem j0_false (s : ByteArray) (l : List UInt8) (a b : UInt8) (hs : s = ofL (39 :: a :: b :: l)) : lex_char.j0 1 s false = if b = 39 ∧ 32 ≤ a.toNat ∧ a.toNat ≤ 126 ∧ a ≠ 39 ∧ a ≠ 92 then some (3, ofL [39, a, b], ((a.toNat : Int)) % 4294967296, 0, 0, 0) else some badTok := by
  have h1 : bt s 1 = (a.toNat : Int) := by rw [hs]; simpa using bt_ofL (39 :: a :: b :: l) 1
  have h2 : bt s 2 = (b.toNat : Int) := by rw [hs]; simpa using bt_ofL (39 :: a :: b :: l) 2
  have hz : (s.size : Int) = l.length + 3 := by rw [hs, ofL_size]; simp; omega
  have e39 : ∀ c : UInt8, ((c.toNat : Nat) : Int) = 39 ↔ c = 39 := fun c => ⟨fun e => UInt8.toNat_inj.mp (by show c.toNat = 39; omega), fun e => by rw [e]; decide⟩
  have e92 : ∀ c : UInt8, ((c.toNat : Nat) : Int) = 92 ↔ c = 92 := fun c => ⟨fun e => UInt8.toNat_inj.mp (by show c.toNat = 92; omega), fun e => by rw [e]; decide⟩
  show lex_char.j0 (0 + 1) s false = _
  rw [lex_char.j0, if_neg (by simp), if_pos (by omega), if_pos (by omega), h1, h2]
  by_cases c1 : b = 39
  · rw [if_pos ((e39 b).2 c1), if_pos (by omega)]
    by_cases c2 : 32 ≤ a.toNat
    · rw [if_pos (by omega)]
      by_cases c3 : a.toNat ≤ 126
      · rw [if_pos (by omega)]
        by_cases c4 : a = 39
        · rw [if_pos ((e39 a).2 c4), if_neg (by simp [c4])]
          rfl
        · rw [if_neg (fun e => c4 ((e39 a).1 e))]
          by_cases c5 : a = 92
          · rw [if_pos ((e92 a).2 c5), if_neg (by simp [c5])]
            rfl
          · rw [if_neg (fun e => c5 ((e92 a).1 e)), if_pos (by decide), if_pos (by omega), if_pos ⟨c1, c2, c3, c4, c5⟩, hs, ofL_extract]
            rfl
      · rw [if_neg (by omega), if_neg (fun e => c3 e.2.2.1)]
        rfl
    · rw [if_neg (by omega), if_neg (fun e => c2 e.2.1)]
      rfl
  · rw [if_neg (fun e => c1 ((e39 b).1 e)), if_neg (fun e => c1 e.1)]
    rfl
theorem j0_true (s : ByteArray) (l : List UInt8) (b d : UInt8) (hs : s = ofL (39 :: 92 :: b :: d :: l)) : lex_char.j0 1 s true = (lex_escape.f (b.toNat : Int)).bind fun r => if r.2 = true then some (3, ofL [39, 92, b, d], r.1 % 4294967296, 0, 0, 0) else some badTok := by
  have h2 : bt s 2 = (b.toNat : Int) := by rw [hs]; simpa using bt_ofL (39 :: 92 :: b :: d :: l) 2
  have hz : (s.size : Int) = l.length + 4 := by rw [hs, ofL_size]; simp; omega
  show lex_char.j0 (0 + 1) s true = _
  rw [lex_char.j0, if_pos rfl, if_pos (by omega), h2]
  congr 1
  funext r
  by_cases hr : r.2 = true
  · rw [if_pos hr, if_pos hr, if_pos (by decide), if_pos (by omega), hs, ofL_extract]
    rfl
  · rw [if_neg hr, if_neg hr]
    rfl
theorem char_short (x : List UInt8) (hx : x.length ≤ 1) : lex_char.f 1 (ofL (39 :: x)) = some badTok := by
  have hz : ((ofL (39 :: x)).size : Int) ≤ 2 := by rw [ofL_size]; simp; omega
  unfold lex_char.f
  rw [if_neg (by omega)]
  show lex_char.j0 (0 + 1) _ false = _
  rw [lex_char.j0, if_neg (by simp), if_neg (by omega)]
  rfl
theorem char_plain (a b : UInt8) (l : List UInt8) (ha : a ≠ 92) : lex_char.f 1 (ofL (39 :: a :: b :: l)) = lex_char.j0 1 (ofL (39 :: a :: b :: l)) false := by
  have h1 : bt (ofL (39 :: a :: b :: l)) 1 = (a.toNat : Int) := by simpa using bt_ofL (39 :: a :: b :: l) 1
  have hn : ¬ ((a.toNat : Nat) : Int) = 92 := fun e => ha (UInt8.toNat_inj.mp (by show a.toNat = 92; omega))
  unfold lex_char.f
  split
  · rw [if_pos (by omega), h1, if_neg hn]
  · rfl
theorem char_esc (b d : UInt8) (l : List UInt8) : lex_char.f 1 (ofL (39 :: 92 :: b :: d :: l)) = lex_char.j0 1 (ofL (39 :: 92 :: b :: d :: l)) (d == 39) := by
  have h1 : bt (ofL (39 :: 92 :: b :: d :: l)) 1 = 92 := by simpa using bt_ofL (39 :: 92 :: b :: d :: l) 1
  have h3 : bt (ofL (39 :: 92 :: b :: d :: l)) 3 = (d.toNat : Int) := by simpa using bt_ofL (39 :: 92 :: b :: d :: l) 3
  have hz : ((ofL (39 :: 92 :: b :: d :: l)).size : Int) = l.length + 4 := by rw [ofL_size]; simp; omega
  have e : (((d.toNat : Nat) : Int) == 39) = (d == 39) := by
    rw [Bool.eq_iff_iff, beq_iff_eq, beq_iff_eq]
    exact ⟨fun e => UInt8.toNat_inj.mp (by show d.toNat = 39; omega), fun e => by rw [e]; decide⟩
  unfold lex_char.f
  rw [if_pos (by omega), if_pos (by omega), h1, if_pos rfl, if_pos (by omega), h3, e]
theorem char_esc3 (b : UInt8) : lex_char.f 1 (ofL [39, 92, b]) = some badTok := by
  have hz : ((ofL [39, 92, b]).size : Int) = 3 := by rw [ofL_size]; rfl
  unfold lex_char.f
  rw [if_neg (by omega), j0_false _ [] 92 b rfl, if_neg (by simp)]
theorem escape_some (c : Int) : ∃ r, lex_escape.f c = some r ∧ (r.2 = true → c = 110 ∨ c = 116 ∨ c = 114 ∨ c = 48 ∨ c = 92 ∨ c = 39) := by
  unfold lex_escape.f
  repeat' split
  all_goals exact ⟨_, rfl, fun _ => by first | omega | simp_all⟩
theorem char_total (x : List UInt8) : ∃ r, lex_char.f 1 (ofL (39 :: x)) = some r := by
  match x with
  | [] => exact ⟨_, char_short [] (by simp)⟩
  | [a] => exact ⟨_, char_short [a] (by simp)⟩
  | a :: b :: l =>
    by_cases ha : a = 92
    · subst ha
      match l with
      | [] => exact ⟨_, char_esc3 b⟩
      | d :: l =>
        rw [char_esc]
        cases d == 39 with
        | true =>
          rw [j0_true _ l b d rfl]
          obtain ⟨r, hr, _⟩ := escape_some (b.toNat : Int)
          rw [hr, Option.bind_some]
          split <;> exact ⟨_, rfl⟩
        | false =>
          rw [j0_false _ (d :: l) 92 b rfl]
          split <;> exact ⟨_, rfl⟩
    · rw [char_plain a b l ha, j0_false _ l a b rfl]
      split <;> exact ⟨_, rfl⟩
theorem char_ctx (x : List UInt8) (kd nm p q : Int) (t : ByteArray) (h : lex_char.f 1 (ofL (39 :: x)) = some (kd, t, nm, p, q, 0)) :
    ∃ tl, t = ofL (39 :: tl) ∧ 39 :: tl <+: 39 :: x ∧ (∀ c ∈ tl, c ≠ 10) ∧ ∀ r, lex_char.f 1 (ofL (39 :: tl ++ r)) = some (kd, t, nm, p, q, 0) := by
  have hbad : some badTok ≠ some (kd, t, nm, p, q, 0) := by
    intro e
    simp [badTok] at e
  have three : ∀ (a b : UInt8) (l : List UInt8), lex_char.j0 1 (ofL (39 :: a :: b :: l)) false = some (kd, t, nm, p, q, 0) → a ≠ 92 ∧ ∃ tl, t = ofL (39 :: tl) ∧ 39 :: tl <+: 39 :: a :: b :: l ∧ (∀ c ∈ tl, c ≠ 10) ∧ ∀ r, lex_char.f 1 (ofL (39 :: tl ++ r)) = some (kd, t, nm, p, q, 0) := by
    intro a b l h
    rw [j0_false _ l a b rfl] at h
    split at h
    · rename_i hc
      obtain ⟨rfl, h1, h2, h3, h4⟩ := hc
      simp only [Option.some.injEq, Prod.mk.injEq] at h
      obtain ⟨rfl, rfl, rfl, rfl, rfl, _⟩ := h
      refine ⟨h4, [a, 39], rfl, ⟨l, rfl⟩, ?_, fun r => ?_⟩
      · intro c hc e
        subst e
        simp only [List.mem_cons, List.not_mem_nil, or_false] at hc
        rcases hc with rfl | hc
        · exact absurd h1 (by decide)
        · exact absurd hc (by decide)
      · show lex_char.f 1 (ofL (39 :: a :: 39 :: r)) = _
        rw [char_plain a 39 r h4, j0_false _ r a 39 rfl, if_pos ⟨rfl, h1, h2, h3, h4⟩]
    · exact absurd h hbad
  match x with
  | [] => rw [char_short [] (by simp)] at h; exact absurd h hbad
  | [a] => rw [char_short [a] (by simp)] at h; exact absurd h hbad
  | a :: b :: l =>
    by_cases ha : a = 92
    · subst ha
      match l with
      | [] => rw [char_esc3] at h; exact absurd h hbad
      | d :: l =>
        rw [char_esc] at h
        cases hd : d == 39 with
        | true =>
          obtain rfl : d = 39 := by simpa using hd
          rw [hd, j0_true _ l b 39 rfl] at h
          obtain ⟨r, hr, hesc⟩ := escape_some (b.toNat : Int)
          rw [hr, Option.bind_some] at h
          split at h
          · rename_i h2
            simp only [Option.some.injEq, Prod.mk.injEq] at h
            obtain ⟨rfl, rfl, rfl, rfl, rfl, _⟩ := h
            refine ⟨[92, b, 39], rfl, ⟨l, rfl⟩, ?_, fun r' => ?_⟩
            · intro c hc e
              subst e
              have hb := hesc h2
              simp only [List.mem_cons, List.not_mem_nil, or_false] at hc
              rcases hc with hc | rfl | hc
              · exact absurd hc (by decide)
              · revert hb
                decide
              · exact absurd hc (by decide)
            · show lex_char.f 1 (ofL (39 :: 92 :: b :: 39 :: r')) = _
              rw [char_esc, hd, j0_true _ r' b 39 rfl, hr, Option.bind_some, if_pos h2]
          · exact absurd h hbad
        | false =>
          rw [hd] at h
          exact absurd rfl (three 92 b (d :: l) h).1
    · rw [char_plain a b l ha] at h
      exact (three a b l h).2
theorem span_all (x : List UInt8) (hx : x.length ≤ 70000) : lex_span_more.f (ofL x) = some (((x.takeWhile moreC).length : Nat) : Int) := by
  unfold lex_span_more.f
  rw [if_pos (by rw [ofL_size]; omega), span_ofL]
  rfl
theorem tw_len (x : List UInt8) (p : UInt8 → Bool) : (x.takeWhile p).length ≤ x.length := (List.takeWhile_prefix p).length_le
def wordTok (tl : List UInt8) : Option (Int × ByteArray × Int × Int × Int × Int) := if ((tl.length : Nat) : Int) > 31 then some (1, ofL tl, 0, 0, 0, 2) else (lex_Word.f (ofL tl)).bind fun t => if t = true then some (2, ofL tl, 0, 0, 0, 0) else some (1, ofL tl, 0, 0, 0, 0)
theorem tok_letter (k : Nat) (c : UInt8) (x : List UInt8) (hx : (c :: x).length ≤ 70000) (hb : lex_letter.f (c.toNat : Int) = some true) : lex_token.f k (ofL (c :: x)) = wordTok ((c :: x).takeWhile moreC) := by
  unfold lex_token.f
  rw [if_pos (by rw [ofL_size]; simp <;> omega), bt_head, hb, Option.bind_some, if_pos rfl, span_all _ hx, Option.bind_some, if_pos (by omega), if_pos (by rw [ofL_size]; have := tw_len (c :: x) moreC; omega)]
  simp only [Int.toNat_natCast]
  rw [ofL_extract, List.drop_zero, take_while]
  rfl
theorem tok_digit (k : Nat) (c : UInt8) (x : List UInt8) (hx : (c :: x).length ≤ 70000) (hb : lex_letter.f (c.toNat : Int) = some false) (hd : lex_digit.f (c.toNat : Int) = some true) : lex_token.f k (ofL (c :: x)) = some (numAll (ofL ((c :: x).takeWhile moreC))) := by
  unfold lex_token.f
  rw [if_pos (by rw [ofL_size]; simp <;> omega), bt_head, hb, Option.bind_some, if_neg (by simp), hd, Option.bind_some, if_pos rfl]
  unfold lex_number.f
  rw [if_pos (by rw [ofL_size]; omega), Option.bind_some, span_ofL, ofL_extract, List.drop_zero]
  rw [show ((c :: x).takeWhile fun b => moreB (b.toNat : Int)) = (c :: x).takeWhile moreC from rfl, take_while]
theorem tok_char (k : Nat) (x : List UInt8) (hx : (39 :: x).length ≤ 70000) : lex_token.f (k + 1) (ofL (39 :: x)) = lex_char.f (k + 1) (ofL (39 :: x)) := by
  have h1 : lex_letter.f (((39 : UInt8).toNat : Nat) : Int) = some false := by decide +kernel
  have h2 : lex_digit.f (((39 : UInt8).toNat : Nat) : Int) = some false := by decide +kernel
  unfold lex_token.f
  rw [if_pos (by rw [ofL_size]; simp <;> omega), bt_head, h1, Option.bind_some, if_neg (by simp), h2, Option.bind_some, if_neg (by simp), if_pos (by decide)]
  cases lex_char.f (k + 1) (ofL (39 :: x)) with
  | none => rfl
  | some r => rfl
def markTok (m : List UInt8) : Option (Int × ByteArray × Int × Int × Int × Int) := if m = [] then some (0, ⟨#[]⟩, 0, 0, 0, 3) else some (4, ofL m, 0, 0, 0, 0)
theorem tok_mark (k : Nat) (c : UInt8) (x : List UInt8) (hx : (c :: x).length ≤ 70000) (hb : lex_letter.f (c.toNat : Int) = some false) (hd : lex_digit.f (c.toNat : Int) = some false) (h39 : c ≠ 39) : lex_token.f k (ofL (c :: x)) = markTok (markFrom 0 (ofL (c :: x))) := by
  have hc : ¬ ((c.toNat : Nat) : Int) = 39 := by
    intro e
    apply h39
    apply UInt8.toNat_inj.mp
    show c.toNat = 39
    omega
  unfold lex_token.f
  rw [if_pos (by rw [ofL_size]; simp <;> omega), bt_head, hb, Option.bind_some, if_neg (by simp), hd, Option.bind_some, if_neg (by simp), if_neg hc]
  unfold lex_mark.f
  rw [if_pos (by rw [ofL_size]; omega), Option.bind_some]
  unfold markTok
  rw [show (⟨(markFrom 0 (ofL (c :: x))).toArray⟩ : ByteArray) = ofL (markFrom 0 (ofL (c :: x))) from rfl, ofL_toList]
theorem digit_some (c : Int) : ∃ b, lex_digit.f c = some b := by
  unfold lex_digit.f
  split <;> exact ⟨_, rfl⟩
theorem tok_ctx (l : List UInt8) (hl : l.length ≤ 70000) (kd nm p q : Int) (t : ByteArray) (h : lex_token.f 1 (ofL l) = some (kd, t, nm, p, q, 0)) :
    ∃ tl, t = ofL tl ∧ tl <+: l ∧ (∀ c ∈ tl, c ≠ 10) ∧ (∃ c tl', tl = c :: tl' ∧ blankC c = false) ∧ ∀ r, Sep r → (tl ++ r).length ≤ 70000 → lex_token.f 1 (ofL (tl ++ r)) = some (kd, t, nm, p, q, 0) := by
  cases l with
  | nil =>
    unfold lex_token.f at h
    rw [if_neg (by rw [ofL_size]; simp)] at h
    cases h
  | cons c l =>
  obtain ⟨b, hb⟩ := letter_some (c.toNat : Int)
  have hsep : ∀ r, Sep r → moreC c = true → ((c :: l).takeWhile moreC ++ r).takeWhile moreC = (c :: l).takeWhile moreC := fun r hr _ =>
    takeWhile_sep moreC _ r (fun d hd => List.all_eq_true.mp List.all_takeWhile d hd) (fun d hd => blank_no_more d (hr d hd))
  have hplain : ∀ d ∈ (c :: l).takeWhile moreC, d ≠ 10 := fun d hd => (more_plain d (List.all_eq_true.mp List.all_takeWhile d hd)).1
  cases b with
  | true =>
    have hmc : moreC c = true := letter_more _ hb
    have htl : (c :: l).takeWhile moreC = c :: l.takeWhile moreC := by rw [List.takeWhile_cons, if_pos hmc]
    rw [tok_letter 1 c l hl hb] at h
    refine ⟨(c :: l).takeWhile moreC, ?_, List.takeWhile_prefix _, hplain, ⟨c, _, htl, (more_plain c hmc).2⟩, fun r hr hlen => ?_⟩
    · unfold wordTok at h
      split at h
      · simp at h
      · obtain ⟨v, hv⟩ := word_some (ofL ((c :: l).takeWhile moreC))
        rw [hv, Option.bind_some] at h
        split at h
        · simp only [Option.some.injEq, Prod.mk.injEq] at h
          exact h.2.1.symm
        · simp only [Option.some.injEq, Prod.mk.injEq] at h
          exact h.2.1.symm
    · have hs := hsep r hr hmc
      rw [htl, List.cons_append] at hs hlen ⊢
      rw [tok_letter 1 c _ hlen hb, hs, ← htl]
      exact h
  | false =>
    obtain ⟨b2, hd⟩ := digit_some (c.toNat : Int)
    cases b2 with
    | true =>
      have hmc : moreC c = true := digit_more _ hb hd
      have htl : (c :: l).takeWhile moreC = c :: l.takeWhile moreC := by rw [List.takeWhile_cons, if_pos hmc]
      rw [tok_digit 1 c l hl hb hd] at h
      refine ⟨(c :: l).takeWhile moreC, num_text _ _ _ _ _ _ (Option.some.inj h), List.takeWhile_prefix _, hplain, ⟨c, _, htl, (more_plain c hmc).2⟩, fun r hr hlen => ?_⟩
      have hs := hsep r hr hmc
      rw [htl, List.cons_append] at hs hlen ⊢
      rw [tok_digit 1 c _ hlen hb hd, hs, ← htl]
      exact h
    | false =>
      by_cases h39 : c = 39
      · subst h39
        rw [tok_char 0 l hl] at h
        obtain ⟨tl, rfl, hpre, h10, hr⟩ := char_ctx l kd nm p q t h
        refine ⟨39 :: tl, rfl, hpre, ?_, ⟨39, tl, rfl, by decide +kernel⟩, fun r _ hlen => ?_⟩
        · intro d hd
          rcases List.mem_cons.mp hd with rfl | hd
          · decide
          · exact h10 d hd
        · rw [List.cons_append] at hlen ⊢
          rw [tok_char 0 _ hlen]
          exact hr r
      · rw [tok_mark 1 c l hl hb hd h39] at h
        unfold markTok at h
        split at h
        · simp at h
        · rename_i hm
          obtain ⟨hmem, hpre⟩ := mark_mem _ hm
          generalize hg : markFrom 0 (ofL (c :: l)) = m at *
          obtain ⟨c', m', hc', hb', hd', h39'⟩ := (marks_plain m hmem).2.2.2
          have hpl := (marks_plain m hmem).2.1
          simp only [Option.some.injEq, Prod.mk.injEq] at h
          obtain ⟨rfl, rfl, rfl, rfl, rfl, _⟩ := h
          refine ⟨m, rfl, ?_, ?_, ⟨c', m', hc', hpl c' (by rw [hc']; simp)⟩, fun r hr hlen => ?_⟩
          · unfold prefB at hpre
            rw [Bool.and_eq_true, ofL_data] at hpre
            have := eq_of_beq hpre.2
            rw [← this]
            exact List.take_prefix _ _
          · intro d hd e
            have := hpl d hd
            rw [e] at this
            revert this
            decide +kernel
          · have hs := mark_sep m r hmem hr
            subst hc'
            rw [List.cons_append] at hs hlen ⊢
            rw [tok_mark 1 c' _ hlen hb' hd' h39', hs]
            unfold markTok
            rw [if_neg (by simp)]
theorem pref_some (s : ByteArray) (m : List UInt8) : strings_HasPrefix.f s ⟨m.toArray⟩ = some (prefB m s) := by
  have hm : (⟨m.toArray⟩ : ByteArray).size = m.length := rfl
  unfold strings_HasPrefix.f stringslite_HasPrefix.f prefB
  rw [hm]
  by_cases h : m.length ≤ s.size
  · rw [if_pos (by omega), if_pos (by omega), if_pos (by omega), Option.bind_some, decide_eq_true h, Bool.true_and]
    simp [ByteArray.toList_eq]
  · rw [if_neg (by omega), Option.bind_some, decide_eq_false h, Bool.false_and]
def blankF (l : List UInt8) : Int := if prefB [47, 47] (ofL l) = true then (if Lib.index l [10] ≥ 0 then Lib.index l [10] else l.length) else if prefB [47, 42] (ofL l) = true then (if Lib.index (l.drop 2) [42, 47] < 0 then -1 else Lib.index (l.drop 2) [42, 47] + 4) else ((l.takeWhile blankC).length : Nat)
theorem index_le (sub : List UInt8) (hs : sub ≠ []) : ∀ l : List UInt8, Lib.index l sub = -1 ∨ (0 ≤ Lib.index l sub ∧ Lib.index l sub + sub.length ≤ l.length)
  | [] => by
    cases sub with
    | nil => exact absurd rfl hs
    | cons a t => exact .inl rfl
  | b :: l => by
    unfold Lib.index
    split
    · rename_i h
      have := (List.isPrefixOf_iff_prefix.mp h).length_le
      right
      simp only [List.length_cons] at this ⊢
      omega
    · split
      · exact .inl rfl
      · rename_i h
        rcases index_le sub hs l with h2 | ⟨h2, h3⟩
        · rw [h2] at h
          exact absurd rfl h
        · right
          simp only [List.length_cons]
          omega
theorem pref_len (m : List UInt8) (l : List UInt8) (h : prefB m (ofL l) = true) : m.length ≤ l.length ∧ l.take m.length = m := by
  unfold prefB at h
  rw [Bool.and_eq_true, ofL_size, ofL_data] at h
  exact ⟨of_decide_eq_true h.1, eq_of_beq h.2⟩
theorem pref_of (m l : List UInt8) (h : m <+: l) : prefB m (ofL l) = true := by
  unfold prefB
  rw [ofL_size, ofL_data, decide_eq_true h.length_le, Bool.true_and, beq_iff_eq]
  exact (List.prefix_iff_eq_take.mp h).symm
theorem pref_prefix (m l : List UInt8) (h : prefB m (ofL l) = true) : m <+: l := by
  rw [← (pref_len m l h).2]
  exact List.take_prefix _ _
theorem blank_eq (l : List UInt8) (hl : l.length ≤ 70000) : lex_blank.f (ofL l) = some (blankF l) := by
  unfold lex_blank.f blankF
  rw [show (⟨#[47, 47]⟩ : ByteArray) = ⟨([47, 47] : List UInt8).toArray⟩ from rfl, show (⟨#[47, 42]⟩ : ByteArray) = ⟨([47, 42] : List UInt8).toArray⟩ from rfl, pref_some, pref_some, Option.bind_some]
  cases h1 : prefB [47, 47] (ofL l) with
  | true =>
    rw [if_pos rfl, if_pos rfl]
    unfold strings_Index.f
    rw [if_pos (by rw [ofL_size]; omega), Option.bind_some, ofL_data, ofL_size]
    show (if Lib.index l [10] ≥ 0 then _ else _) = _
    split <;> rfl
  | false =>
    rw [if_neg (show ¬ (false = true) by decide), if_neg (show ¬ (false = true) by decide), Option.bind_some]
    cases h2 : prefB [47, 42] (ofL l) with
    | true =>
      have h3 := (pref_len _ _ h2).1
      simp only [List.length_cons, List.length_nil] at h3
      rw [if_pos (show true = true from rfl), if_pos (show true = true from rfl), if_pos (show 2 ≤ ((ofL l).size : Int) by rw [ofL_size]; omega)]
      unfold strings_Index.f
      rw [ofL_size, ofL_extract, if_pos (by rw [ofL_size]; simp; omega), Option.bind_some, ofL_data, List.take_of_length_le (Nat.le_refl _)]
      show (if Lib.index (l.drop 2) [42, 47] < 0 then _ else _) = _
      have h4 := index_le [42, 47] (by simp) (l.drop 2)
      rw [List.length_drop] at h4
      split
      · rfl
      · have h5 : wrap64 (Lib.index (l.drop 2) [42, 47] + 4) = Lib.index (l.drop 2) [42, 47] + 4 := by unfold wrap64; omega
        show some (wrap64 (Lib.index (l.drop 2) [42, 47] + 4)) = _
        rw [h5]
    | false =>
      rw [if_neg (show ¬ (false = true) by decide), if_neg (show ¬ (false = true) by decide)]
      unfold lex_span_blank.f
      rw [if_pos (by rw [ofL_size]; omega), Option.bind_some, span_ofL]
      rfl
theorem blank_le (l : List UInt8) : blankF l ≤ l.length := by
  unfold blankF
  have h1 := index_le [10] (by simp) l
  have h2 := index_le [42, 47] (by simp) (l.drop 2)
  have h3 := tw_len l blankC
  rw [List.length_drop] at h2
  simp only [List.length_cons, List.length_nil] at h1 h2
  split
  · split <;> omega
  · split
    · rename_i h
      have := (pref_len _ _ h).1
      simp only [List.length_cons, List.length_nil] at this
      split <;> omega
    · omega
theorem blank_run (ws r : List UInt8) (hw : ws ≠ []) (hb : ∀ c ∈ ws, blankC c = true) (hr : ∀ c, r.head? = some c → blankC c = false) : blankF (ws ++ r) = (ws.length : Nat) := by
  cases ws with
  | nil => exact absurd rfl hw
  | cons c ws =>
    have hc := hb c (by simp)
    have hne : ∀ d : UInt8, prefB [47, d] (ofL (c :: ws ++ r)) = false := by
      intro d
      cases h : prefB [47, d] (ofL (c :: ws ++ r)) with
      | false => rfl
      | true =>
        have := (pref_prefix _ _ h)
        rw [List.cons_append, List.cons_prefix_cons] at this
        rw [← this.1] at hc
        exact absurd hc (by decide +kernel)
    unfold blankF
    rw [if_neg (by rw [hne]; simp), if_neg (by rw [hne]; simp), takeWhile_sep blankC _ _ hb hr]
theorem blank_zero_iff (l : List UInt8) (h : blankF l = 0) : prefB [47, 47] (ofL l) = false ∧ prefB [47, 42] (ofL l) = false := by
  unfold blankF at h
  cases h1 : prefB [47, 47] (ofL l) with
  | true =>
    exfalso
    rw [h1, if_pos rfl] at h
    obtain ⟨r, hr⟩ := pref_prefix _ _ h1
    subst hr
    have h2 : Lib.index ([47, 47] ++ r) [10] ≠ 0 := by
      show Lib.index (47 :: 47 :: r) [10] ≠ 0
      unfold Lib.index
      rw [if_neg (by simp)]
      have := Lib.index_ge (47 :: r) [10]
      split
      · omega
      · rename_i h3
        intro e
        have : Lib.index (47 :: r) [10] = -1 := by omega
        rw [this] at h3
        exact h3 rfl
    split at h
    · exact h2 h
    · simp at h
      omega
  | false =>
    refine ⟨rfl, ?_⟩
    rw [h1, if_neg (by simp)] at h
    cases h2 : prefB [47, 42] (ofL l) with
    | true =>
      exfalso
      rw [h2, if_pos rfl] at h
      split at h <;> omega
    | false => rfl
theorem blank_tok (l tl r : List UInt8) (h : blankF l = 0) (hp : tl <+: l) (hc : ∃ c tl', tl = c :: tl' ∧ blankC c = false) (hr : Sep r) : blankF (tl ++ r) = 0 := by
  obtain ⟨h1, h2⟩ := blank_zero_iff l h
  have key : ∀ d : UInt8, blankC d = false → prefB [47, d] (ofL l) = false → prefB [47, d] (ofL (tl ++ r)) = false := by
    intro d hd hl
    rw [pref_sep [47, d] tl r (by
      intro c hc
      simp only [List.mem_cons, List.not_mem_nil, or_false] at hc
      rcases hc with rfl | rfl
      · decide +kernel
      · exact hd) hr]
    cases hq : prefB [47, d] (ofL tl) with
    | false => rfl
    | true =>
      rw [pref_of [47, d] l ((pref_prefix _ _ hq).trans hp)] at hl
      cases hl
  unfold blankF
  rw [if_neg (by rw [key 47 (by decide +kernel) h1]; simp), if_neg (by rw [key 42 (by decide +kernel) h2]; simp)]
  obtain ⟨c, tl', rfl, hcb⟩ := hc
  rw [List.cons_append, List.takeWhile_cons, if_neg (by rw [hcb]; simp)]
  rfl
inductive Lx : List UInt8 → Int → Int → List S33 → Int → Int → Prop
  | nil (a b : Int) : Lx [] a b [] a b
  | skip (l : List UInt8) (a b : Int) (out : List S33) (a' b' : Int) (n : Nat) (hb : blankF l = (n : Int)) (h0 : 0 < n) (hn : n ≤ l.length) (h : Lx (l.drop n) (posL (l.take n) a b).1 (posL (l.take n) a b).2 out a' b') : Lx l a b out a' b'
  | tok (l : List UInt8) (a b : Int) (tl : List UInt8) (kd nm p q : Int) (out : List S33) (a' b' : Int) (hb : blankF l = 0) (hl : l.length ≤ 65536) (ht : lex_token.f 1 (ofL l) = some (kd, ofL tl, nm, p, q, 0)) (hp : tl <+: l) (hne : tl ≠ []) (h : Lx (l.drop tl.length) (posL tl a b).1 (posL tl a b).2 out a' b') : Lx l a b (⟨kd, ofL tl, nm, ⟨a, b⟩⟩ :: out) a' b'
theorem token_total (l : List UInt8) (hl : l.length ≤ 70000) (hne : l ≠ []) : ∃ r, lex_token.f 1 (ofL l) = some r := by
  cases l with
  | nil => exact absurd rfl hne
  | cons c l =>
    obtain ⟨b, hb⟩ := letter_some (c.toNat : Int)
    cases b with
    | true =>
      rw [tok_letter 1 c l hl hb]
      unfold wordTok
      obtain ⟨v, hv⟩ := word_some (ofL ((c :: l).takeWhile moreC))
      rw [hv, Option.bind_some]
      repeat' split
      all_goals exact ⟨_, rfl⟩
    | false =>
      obtain ⟨b2, hd⟩ := digit_some (c.toNat : Int)
      cases b2 with
      | true => exact ⟨_, tok_digit 1 c l hl hb hd⟩
      | false =>
        by_cases h39 : c = 39
        · subst h39
          rw [tok_char 0 l hl]
          exact char_total l
        · rw [tok_mark 1 c l hl hb hd h39]
          unfold markTok
          split <;> exact ⟨_, rfl⟩
theorem drop_ofL (l : List UInt8) (n : Nat) : (ofL l).extract n (ofL l).size = ofL (l.drop n) := by
  rw [ofL_size, ofL_extract, List.take_of_length_le (Nat.le_refl _)]
theorem lex_total : ∀ (N : Nat) (l : List UInt8) (a b : Int) (acc : List S33), l.length ≤ N → l.length ≤ 65536 → acc.length + l.length < 100000 →
    (∃ out a' b', Lx l a b out a' b' ∧ out.length ≤ l.length ∧ ∀ k, N < k → lexL k (ofL l) a b acc = some (acc ++ out, a', b', 0)) ∨
    (∃ a' b' e, e ≠ 0 ∧ ∀ k, N < k → lexL k (ofL l) a b acc = some ([], a', b', e))
  | 0, l, a, b, acc, hN, hl, ha => by
    obtain rfl : l = [] := List.length_eq_zero_iff.mp (by omega)
    refine .inl ⟨[], a, b, .nil a b, Nat.le_refl _, fun k hk => ?_⟩
    obtain ⟨k, rfl⟩ : ∃ m, k = m + 1 := ⟨k - 1, by omega⟩
    simp only [lexL]
    rw [if_pos (by rw [ofL_size]; rfl), List.append_nil]
  | N + 1, l, a, b, acc, hN, hl, ha => by
    by_cases hz : l = []
    · subst hz
      refine .inl ⟨[], a, b, .nil a b, Nat.le_refl _, fun k hk => ?_⟩
      obtain ⟨k, rfl⟩ : ∃ m, k = m + 1 := ⟨k - 1, by omega⟩
      simp only [lexL]
      rw [if_pos (by rw [ofL_size]; rfl), List.append_nil]
    have hp : 0 < l.length := List.length_pos_iff.mpr hz
    have hbe := blank_eq l (by omega)
    have hble := blank_le l
    have hstep : ∀ k, lexL (k + 1) (ofL l) a b acc = (if blankF l < 0 then some ([], a, b, 3) else if 0 < blankF l then (if blankF l ≤ ((ofL l).size : Int) then lexL k ((ofL l).extract (blankF l).toNat (ofL l).size) (posL ((ofL l).data.toList.take (blankF l).toNat) a b).1 (posL ((ofL l).data.toList.take (blankF l).toNat) a b).2 acc else none) else
      (lex_token.f k (ofL l)).bind fun t => if t.2.2.2.2.2 = 0 then (if t.2.1.size ≤ (ofL l).size then (if acc.length < 100000 then lexL k ((ofL l).extract t.2.1.size (ofL l).size) (posL ((ofL l).data.toList.take t.2.1.size) a b).1 (posL ((ofL l).data.toList.take t.2.1.size) a b).2 (acc ++ [⟨t.1, t.2.1, t.2.2.1, ⟨a, b⟩⟩]) else none) else none) else some ([], a, b, t.2.2.2.2.2)) := by
      intro k
      conv => lhs; unfold lexL
      rw [if_neg (by rw [ofL_size]; omega), hbe, Option.bind_some]
    by_cases h1 : blankF l < 0
    · refine .inr ⟨a, b, 3, by decide, fun k hk => ?_⟩
      obtain ⟨k, rfl⟩ : ∃ m, k = m + 1 := ⟨k - 1, by omega⟩
      rw [hstep, if_pos h1]
    by_cases h2 : 0 < blankF l
    · obtain ⟨n, hn⟩ := Int.eq_ofNat_of_zero_le (show 0 ≤ blankF l by omega)
      have hd : (l.drop n).length ≤ N := by rw [List.length_drop]; omega
      have ih := lex_total N (l.drop n) (posL (l.take n) a b).1 (posL (l.take n) a b).2 acc hd (by rw [List.length_drop]; omega) (by rw [List.length_drop]; omega)
      have hk : ∀ k, N + 1 < k → ∃ m, k = m + 1 ∧ N < m ∧ lexL k (ofL l) a b acc = lexL m (ofL (l.drop n)) (posL (l.take n) a b).1 (posL (l.take n) a b).2 acc := by
        intro k hk
        refine ⟨k - 1, by omega, by omega, ?_⟩
        obtain ⟨m, rfl⟩ : ∃ m, k = m + 1 := ⟨k - 1, by omega⟩
        rw [hstep, if_neg h1, if_pos h2, if_pos (by rw [ofL_size]; exact hble), hn, Int.toNat_natCast, drop_ofL, ofL_data]
        rfl
      rcases ih with ⟨out, a', b', hL, hol, hr⟩ | ⟨a', b', e, he, hr⟩
      · refine .inl ⟨out, a', b', .skip l a b out a' b' n hn (by omega) (by omega) hL, by rw [List.length_drop] at hol; omega, fun k hk' => ?_⟩
        obtain ⟨m, rfl, hm, e⟩ := hk k hk'
        rw [e, hr m hm]
      · refine .inr ⟨a', b', e, he, fun k hk' => ?_⟩
        obtain ⟨m, rfl, hm, e2⟩ := hk k hk'
        rw [e2, hr m hm]
    · have hb0 : blankF l = 0 := by omega
      obtain ⟨⟨kd, t, nm, p, q, e⟩, ht⟩ := token_total l (by omega) hz
      have htk : ∀ k, N + 1 < k + 1 → lex_token.f k (ofL l) = some (kd, t, nm, p, q, e) := fun k hk => at_rounds (fun k => lex_token.mono (ofL l) k) (show 1 ≤ k by omega) ht
      by_cases he : e = 0
      · subst he
        obtain ⟨tl, rfl, htp, _, ⟨c, tl', htl, _⟩, _⟩ := tok_ctx l (by omega) kd nm p q t ht
        have hne : tl ≠ [] := by rw [htl]; simp
        have htlen := htp.length_le
        have htpos : 0 < tl.length := List.length_pos_iff.mpr hne
        have htake : l.take tl.length = tl := (List.prefix_iff_eq_take.mp htp).symm
        have hd : (l.drop tl.length).length ≤ N := by rw [List.length_drop]; omega
        have ih := lex_total N (l.drop tl.length) (posL tl a b).1 (posL tl a b).2 (acc ++ [⟨kd, ofL tl, nm, ⟨a, b⟩⟩]) hd (by rw [List.length_drop]; omega) (by rw [List.length_drop, List.length_append]; simp; omega)
        have hk : ∀ k, N + 1 < k → ∃ m, k = m + 1 ∧ N < m ∧ lexL k (ofL l) a b acc = lexL m (ofL (l.drop tl.length)) (posL tl a b).1 (posL tl a b).2 (acc ++ [⟨kd, ofL tl, nm, ⟨a, b⟩⟩]) := by
          intro k hk
          refine ⟨k - 1, by omega, by omega, ?_⟩
          obtain ⟨m, rfl⟩ : ∃ m, k = m + 1 := ⟨k - 1, by omega⟩
          rw [hstep, if_neg h1, if_neg h2, htk m hk, Option.bind_some]
          dsimp only
          rw [if_pos rfl, if_pos (by rw [ofL_size, ofL_size]; exact htlen), if_pos (by omega), ofL_size tl, drop_ofL, ofL_data, htake]
          rfl
        rcases ih with ⟨out, a', b', hL, hol, hr⟩ | ⟨a', b', e, he, hr⟩
        · refine .inl ⟨⟨kd, ofL tl, nm, ⟨a, b⟩⟩ :: out, a', b', .tok l a b tl kd nm p q out a' b' hb0 hl ht htp hne hL, by rw [List.length_drop] at hol; simp; omega, fun k hk' => ?_⟩
          obtain ⟨m, rfl, hm, e⟩ := hk k hk'
          rw [e, hr m hm, List.append_assoc]
          rfl
        · refine .inr ⟨a', b', e, he, fun k hk' => ?_⟩
          obtain ⟨m, rfl, hm, e2⟩ := hk k hk'
          rw [e2, hr m hm]
      · refine .inr ⟨a, b, e, he, fun k hk' => ?_⟩
        obtain ⟨m, rfl⟩ : ∃ m, k = m + 1 := ⟨k - 1, by omega⟩
        rw [hstep, if_neg h1, if_neg h2, htk m hk', Option.bind_some]
        dsimp only
        rw [if_neg he]
def bytes (t : S33) : List UInt8 := t.f1.data.toList
def total (l : List S33) : Nat := (l.map fun t => (bytes t).length).sum
theorem lx_total {l : List UInt8} {a b : Int} {out : List S33} {a' b' : Int} (h : Lx l a b out a' b') : total out ≤ l.length ∧ out.length ≤ l.length := by
  induction h with
  | nil => simp [total]
  | skip l a b out a' b' n hb h0 hn h ih => rw [List.length_drop] at ih; omega
  | tok l a b tl kd nm p q out a' b' hb hl ht hp hne h ih =>
    rw [List.length_drop] at ih
    have h1 := hp.length_le
    have h2 := List.length_pos_iff.mpr hne
    simp only [total, List.map_cons, List.sum_cons, bytes, ofL_data, List.length_cons] at ih ⊢
    omega
theorem lx_run {l : List UInt8} {a b : Int} {out : List S33} {a' b' : Int} (h : Lx l a b out a' b') : l.length ≤ 65536 → ∀ acc k, l.length < k → acc.length + l.length < 100000 → lexL k (ofL l) a b acc = some (acc ++ out, a', b', 0) := by
  induction h with
  | nil a b =>
    intro _ acc k hk _
    obtain ⟨k, rfl⟩ : ∃ m, k = m + 1 := ⟨k - 1, by omega⟩
    simp only [lexL]
    rw [if_pos (by rw [ofL_size]; rfl), List.append_nil]
  | skip l a b out a' b' n hb h0 hn h ih =>
    intro hl acc k hk ha
    obtain ⟨k, rfl⟩ : ∃ m, k = m + 1 := ⟨k - 1, by omega⟩
    have ih := ih (by rw [List.length_drop]; omega) acc k (by rw [List.length_drop]; omega) (by rw [List.length_drop]; omega)
    conv => lhs; unfold lexL
    rw [if_neg (by rw [ofL_size]; omega), blank_eq l (by omega), Option.bind_some, hb, if_neg (by omega), if_pos (by omega), if_pos (by rw [ofL_size]; omega), Int.toNat_natCast, drop_ofL, ofL_data]
    exact ih
  | tok l a b tl kd nm p q out a' b' hb hl' ht hp hne h ih =>
    intro hl acc k hk ha
    obtain ⟨k, rfl⟩ : ∃ m, k = m + 1 := ⟨k - 1, by omega⟩
    have htlen := hp.length_le
    have htpos : 0 < tl.length := List.length_pos_iff.mpr hne
    have htake : l.take tl.length = tl := (List.prefix_iff_eq_take.mp hp).symm
    have htk : lex_token.f k (ofL l) = some (kd, ofL tl, nm, p, q, 0) := at_rounds (fun k => lex_token.mono (ofL l) k) (show 1 ≤ k by omega) ht
    have ih := ih (by rw [List.length_drop]; omega) (acc ++ [⟨kd, ofL tl, nm, ⟨a, b⟩⟩]) k (by rw [List.length_drop]; omega) (by rw [List.length_drop, List.length_append]; simp; omega)
    conv => lhs; unfold lexL
    rw [if_neg (by rw [ofL_size]; omega), blank_eq l (by omega), Option.bind_some, hb, if_neg (by omega), if_neg (by omega), htk, Option.bind_some]
    dsimp only
    rw [if_pos rfl, if_pos (by rw [ofL_size, ofL_size]; exact htlen), if_pos (by omega), ofL_size tl, drop_ofL, ofL_data, htake, ih, List.append_assoc]
    rfl
end Go.Proofs.Ytgelabhiebmadaa.Pure
end
section
namespace Go.Proofs.Ytgelabhiebmadaa.Pure
open Go.RowKit Go.Proofs.Ytgelabhiebmadaa.P Go.Proofs.YtgelabhiebmadaaW.PrintWords Go.Proofs.YtgelabhiebmadaaW.PrintLast
set_option linter.unusedVariables false
theorem awake_ge (k : Nat) (h : 60 ≤ k) : rushlightlaw07_awake.f k = some true := at_rounds (fun k => rushlightlaw07_awake.mono k) h (by kernel_rfl)
theorem ofL_append (a b : List UInt8) : ofL a ++ ofL b = ofL (a ++ b) := by
  apply ByteArray.ext
  simp [ofL]
def bls : List (List UInt8) := [[32], [10], [9, 13], [32, 47, 42, 32, 42, 32, 47, 32, 39, 32, 42, 47], [32, 47, 47, 32, 47, 42, 10], [32, 47, 42, 42, 47, 32]]
def plain (t : S33) : Int × ByteArray × Int := (t.f0, t.f1, t.f2)
def Q (out : List S33) (l : List UInt8) : Prop := ∀ a b : Int, ∃ out2 p q, Lx l a b out2 p q ∧ out2.map plain = out.map plain
theorem q_skip (out : List S33) (pre R : List UInt8) (hne : pre ≠ []) (hb : blankF (pre ++ R) = (pre.length : Nat)) (h : Q out R) : Q out (pre ++ R) := by
  intro a b
  obtain ⟨out2, p, q, hL, he⟩ := h (posL ((pre ++ R).take pre.length) a b).1 (posL ((pre ++ R).take pre.length) a b).2
  refine ⟨out2, p, q, Lx.skip _ a b out2 p q pre.length hb (List.length_pos_iff.mpr hne) (by simp) ?_, he⟩
  rw [List.drop_left]
  exact hL
def NoBlank (R : List UInt8) : Prop := ∀ c, R.head? = some c → blankC c = false
theorem q_run (out : List S33) (ws R : List UInt8) (hne : ws ≠ []) (hb : ∀ c ∈ ws, blankC c = true) (hR : NoBlank R) (h : Q out R) : Q out (ws ++ R) :=
  q_skip out ws R hne (blank_run ws R hne hb hR) h
theorem remark (m : List UInt8) (R : List UInt8) (i : Nat) (hi : Lib.index (m ++ R) [42, 47] = (i : Int)) : blankF (47 :: 42 :: m ++ R) = ((i + 4 : Nat) : Int) := by
  have h1 : prefB [47, 47] (ofL (47 :: 42 :: m ++ R)) = false := by
    cases h : prefB [47, 47] (ofL (47 :: 42 :: m ++ R)) with
    | false => rfl
    | true =>
      have := pref_prefix _ _ h
      rw [List.cons_append, List.cons_append, List.cons_prefix_cons, List.cons_prefix_cons] at this
      exact absurd this.2.1 (by decide)
  have h2 : prefB [47, 42] (ofL (47 :: 42 :: m ++ R)) = true := pref_of _ _ ⟨m ++ R, rfl⟩
  unfold blankF
  rw [h1, if_neg (by decide), h2, if_pos rfl]
  show (if Lib.index (m ++ R) [42, 47] < 0 then _ else Lib.index (m ++ R) [42, 47] + 4) = _
  rw [hi, if_neg (by omega)]
  omega
theorem q_bl (out : List S33) (R : List UInt8) (hR : NoBlank R) (h : Q out R) : ∀ w ∈ bls, Q out (w ++ R) := by
  have n47 : ∀ R', NoBlank (47 :: R') := fun R' c hc => by
    simp only [List.head?_cons, Option.some.injEq] at hc
    subst hc
    decide +kernel
  have one : ∀ w : UInt8, blankC w = true → ∀ R', NoBlank R' → Q out R' → Q out (w :: R') := fun w hw R' hR' h' => q_run out [w] R' (by simp) (by intro c hc; simp only [List.mem_cons, List.not_mem_nil, or_false] at hc; rw [hc]; exact hw) hR' h'
  intro w hw
  simp only [bls, List.mem_cons, List.not_mem_nil, or_false] at hw
  rcases hw with rfl | rfl | rfl | rfl | rfl | rfl
  · exact one 32 (by decide +kernel) R hR h
  · exact one 10 (by decide +kernel) R hR h
  · exact q_run out [9, 13] R (by simp) (by intro c hc; simp only [List.mem_cons, List.not_mem_nil, or_false] at hc; rcases hc with rfl | rfl <;> decide +kernel) hR h
  · refine one 32 (by decide +kernel) _ (n47 _) (q_skip out [47, 42, 32, 42, 32, 47, 32, 39, 32, 42, 47] R (by simp) ?_ h)
    exact remark [32, 42, 32, 47, 32, 39, 32, 42, 47] R 7 (by simp [Lib.index])
  · refine one 32 (by decide +kernel) _ (n47 _) (q_skip out [47, 47, 32, 47, 42] (10 :: R) (by simp) ?_ (one 10 (by decide +kernel) R hR h))
    have h2 : prefB [47, 47] (ofL ([47, 47, 32, 47, 42] ++ 10 :: R)) = true := pref_of _ _ ⟨_, rfl⟩
    unfold blankF
    rw [h2, if_pos rfl]
    have hi : Lib.index ([47, 47, 32, 47, 42] ++ 10 :: R) [10] = 5 := by simp [Lib.index]
    rw [hi]
    rfl
  · refine one 32 (by decide +kernel) _ (n47 _) (q_skip out [47, 42, 42, 47] (32 :: R) (by simp) ?_ (one 32 (by decide +kernel) R hR h))
    exact remark [42, 47] (32 :: R) 0 (by simp [Lib.index])
theorem bls_blank : ∀ w ∈ bls, ∃ c w', w = c :: w' ∧ blankC c = true := by
  intro w hw
  simp only [bls, List.mem_cons, List.not_mem_nil, or_false] at hw
  rcases hw with rfl | rfl | rfl | rfl | rfl | rfl <;> exact ⟨_, _, rfl, by decide +kernel⟩
def btxt (ch : Nat → List UInt8) : Nat → List S33 → List UInt8
  | _, [] => [47, 47]
  | i, t :: r => bytes t ++ (ch i ++ btxt ch (i + 1) r)
theorem btxt_len (ch : Nat → List UInt8) (hch : ∀ i, (ch i).length ≤ 12) : ∀ (l : List S33) (i : Nat), (btxt ch i l).length ≤ total l + 12 * l.length + 2
  | [], i => by simp [btxt]
  | t :: r, i => by
    have := btxt_len ch hch r (i + 1)
    have := hch i
    simp only [btxt, List.length_append, List.length_cons, total, List.map_cons, List.sum_cons] at *
    omega
theorem q_end : Q [] [47, 47] := by
  have h : Q [] ([] : List UInt8) := fun a b => ⟨[], a, b, .nil a b, rfl⟩
  have := q_skip [] [47, 47] [] (by simp) (by decide +kernel) h
  simpa using this
theorem lx_blanks (ch : Nat → List UInt8) (hch : ∀ i, ch i ∈ bls) {l : List UInt8} {a b : Int} {out : List S33} {a' b' : Int} (h : Lx l a b out a' b') : ∀ i, (btxt ch i out).length ≤ 65536 → Q out (btxt ch i out) ∧ NoBlank (btxt ch i out) := by
  induction h with
  | nil =>
    intro i _
    refine ⟨q_end, fun c hc => ?_⟩
    simp only [btxt, List.head?_cons, Option.some.injEq] at hc
    subst hc
    decide +kernel
  | skip l a b out a' b' n hb h0 hn h ih => exact ih
  | tok l a b tl kd nm p q out a' b' hb hl ht hp hne h ih =>
    intro i hlen
    obtain ⟨tl', e, _, h10, ⟨c0, r0, htl, hc0⟩, hctx⟩ := tok_ctx l (by omega) kd nm p q _ ht
    have e := ofL_inj e
    subst e
    have hby : bytes ⟨kd, ofL tl, nm, ⟨a, b⟩⟩ = tl := ofL_data tl
    unfold btxt at hlen ⊢
    rw [hby] at hlen ⊢
    rw [List.length_append] at hlen
    have hlen2 := hlen
    rw [List.length_append] at hlen2
    obtain ⟨hQ, hN⟩ := ih (i + 1) (by omega)
    have hQ2 := q_bl out _ hN hQ (ch i) (hch i)
    have hsep : Sep (ch i ++ btxt ch (i + 1) out) := by
      intro d hd
      obtain ⟨c, w', hw, hc⟩ := bls_blank (ch i) (hch i)
      rw [hw, List.cons_append, List.head?_cons] at hd
      cases hd
      exact hc
    generalize ch i ++ btxt ch (i + 1) out = R at *
    refine ⟨fun x y => ?_, fun d hd => ?_⟩
    · obtain ⟨out2, p2, q2, hL, he⟩ := hQ2 (posL tl x y).1 (posL tl x y).2
      refine ⟨_, p2, q2, Lx.tok (tl ++ R) x y tl kd nm p q out2 p2 q2 (blank_tok l tl _ hb hp ⟨c0, r0, htl, hc0⟩ hsep) (by rw [List.length_append]; omega) (hctx _ hsep (by rw [List.length_append]; omega)) (List.prefix_append _ _) hne ?_, ?_⟩
      · rw [List.drop_left]
        exact hL
      · rw [List.map_cons, List.map_cons, he]
        rfl
    · rw [htl] at hd
      simp only [List.cons_append, List.head?_cons, Option.some.injEq] at hd
      subst hd
      exact hc0
theorem q_whole (out : List S33) (R : List UInt8) (hR : Q out R) : Q out ([47, 42, 42, 42, 47] ++ R) :=
  q_skip out [47, 42, 42, 42, 47] R (by simp) (remark [42, 42, 47] R 1 (by simp [Lib.index])) hR
def chOf (x1 : List Int) (i : Nat) : List UInt8 := bls.getD (if i < x1.length then (rd x1 i).toNat % 6 else 0) []
theorem chOf_mem (x1 : List Int) (i : Nat) : chOf x1 i ∈ bls := by
  have hlt : (if i < x1.length then (rd x1 i).toNat % 6 else 0) < bls.length := by
    show _ < 6
    split <;> omega
  unfold chOf
  rw [List.getD, List.getElem?_eq_getElem hlt, Option.getD_some]
  exact List.getElem_mem hlt
theorem bls_len : ∀ w ∈ bls, w.length ≤ 12 := by decide +kernel
def blsB : List ByteArray := [(⟨#[32]⟩ : ByteArray), (⟨#[10]⟩ : ByteArray), (⟨#[9, 13]⟩ : ByteArray), (⟨#[32, 47, 42, 32, 42, 32, 47, 32, 39, 32, 42, 47]⟩ : ByteArray), (⟨#[32, 47, 47, 32, 47, 42, 10]⟩ : ByteArray), (⟨#[32, 47, 42, 42, 47, 32]⟩ : ByteArray)]
theorem blsB_eq : blsB = bls.map ofL := rfl
theorem blsB_get (n : Nat) (h : n < 6) : rdOf ByteArray.empty blsB (n : Int) = ofL (bls.getD n []) := by
  have hl : n < bls.length := h
  unfold rdOf
  rw [Int.toNat_natCast, blsB_eq, List.getD, List.getElem?_map, List.getD, List.getElem?_eq_getElem hl]
  rfl
theorem bl_loop (x1 : List Int) (hx : ∀ n ∈ x1, 0 ≤ n ∧ n ≤ 255) (l : List S33) (hl : total l + 13 * l.length ≤ 60000) (r : Option Bool) :
    ∀ (d k i : Nat) (acc : List UInt8), l.length = i + d → d < k → acc.length ≤ 10000000000 - 100000 * d →
      rushlightlaw07_LexBlanks.l0 k x1 l blsB (ofL acc) i = (lex_Lex.f (k - d - 1) (ofL (acc ++ btxt (chOf x1) i (l.drop i)))).bind fun bt203 => (if bt203.2.2.2 = 0 then (rushlightlaw07_LexBlanks.j2 (k - d - 1) l bt203.1 ((bt203.1.length : Int) != (l.length : Int))) else (rushlightlaw07_LexBlanks.j2 (k - d - 1) l bt203.1 true))
  | 0, k, i, acc, hi, hk, ha => by
    obtain ⟨k, rfl⟩ : ∃ m, k = m + 1 := ⟨k - 1, by omega⟩
    simp only [rushlightlaw07_LexBlanks.l0]
    rw [if_neg (by omega), if_pos (by rw [ofL_size]; omega), List.drop_eq_nil_of_le (by omega), show (⟨#[47, 47]⟩ : ByteArray) = ofL [47, 47] from rfl, ofL_append]
    rfl
  | d + 1, k, i, acc, hi, hk, ha => by
    obtain ⟨k, rfl⟩ : ∃ m, k = m + 1 := ⟨k - 1, by omega⟩
    have hlt : i < l.length := by omega
    have e : rd_T33 l (i : Int) = l[i] := by simp [rd_T33, List.getD, hlt]
    have e2 : wrap64 ((i : Int) + 1) = ((i + 1 : Nat) : Int) := by unfold wrap64; omega
    have hby : l[i].f1 = ofL (bytes l[i]) := (ofL_list _).symm
    have hbl : (bytes l[i]).length ≤ 60000 := by
      have h2 : ∀ m n : List S33, total (m ++ n) = total m + total n := by
        intro m n
        simp [total]
      have h3 := h2 (l.take i) (l.drop i)
      rw [List.take_append_drop, List.drop_eq_getElem_cons hlt] at h3
      have h4 : total (l[i] :: l.drop (i + 1)) = (bytes l[i]).length + total (l.drop (i + 1)) := by
        unfold total
        rw [List.map_cons, List.sum_cons]
      omega
    have hch := bls_len _ (chOf_mem x1 i)
    have hdrop : btxt (chOf x1) i (l.drop i) = bytes l[i] ++ (chOf x1 i ++ btxt (chOf x1) (i + 1) (l.drop (i + 1))) := by
      rw [List.drop_eq_getElem_cons hlt]
      rfl
    have ih := bl_loop x1 hx l hl r d k (i + 1) (acc ++ bytes l[i] ++ chOf x1 i) (by omega) (by omega) (by rw [List.length_append, List.length_append]; omega)
    have hsz : (acc ++ bytes l[i]).length + (chOf x1 i).length ≤ 9223372036854775807 := by simp only [List.length_append]; omega
    have hsz1 : acc.length + (bytes l[i]).length ≤ 9223372036854775807 := by omega
    have hfin : rushlightlaw07_LexBlanks.l0 k x1 l blsB (ofL (acc ++ bytes l[i] ++ chOf x1 i)) ((i + 1 : Nat) : Int) = (lex_Lex.f (k + 1 - (d + 1) - 1) (ofL (acc ++ btxt (chOf x1) i (l.drop i)))).bind fun bt203 => (if bt203.2.2.2 = 0 then (rushlightlaw07_LexBlanks.j2 (k + 1 - (d + 1) - 1) l bt203.1 ((bt203.1.length : Int) != (l.length : Int))) else (rushlightlaw07_LexBlanks.j2 (k + 1 - (d + 1) - 1) l bt203.1 true)) := by
      rw [ih, hdrop, show k + 1 - (d + 1) - 1 = k - d - 1 by omega]
      simp only [List.append_assoc]
    simp only [rushlightlaw07_LexBlanks.l0]
    rw [if_pos (Int.ofNat_lt.mpr hlt), e, e2, hby]
    by_cases hx1 : i < x1.length
    · have hv : 0 ≤ rd x1 i ∧ rd x1 i ≤ 255 := by
        have : rd x1 i = x1[i] := by simp [rd, List.getD, hx1]
        rw [this]
        exact hx _ (List.getElem_mem hx1)
      obtain ⟨n, hn⟩ := Int.eq_ofNat_of_zero_le hv.1
      have hw : wrap64 (rd x1 i) = (n : Int) := by rw [hn]; unfold wrap64; omega
      have ht : Int.tmod (n : Int) 6 = ((n % 6 : Nat) : Int) := rfl
      have hc : chOf x1 i = bls.getD (n % 6) [] := by
        unfold chOf
        rw [if_pos hx1, hn, Int.toNat_natCast]
      rw [if_pos (Int.ofNat_lt.mpr hx1), if_pos (Int.natCast_nonneg i), if_neg (by decide), if_pos (by rw [ofL_size, ofL_size]; exact hsz1), hw, show ((blsB.length : Nat) : Int) = 6 from rfl, ht, if_pos (Int.natCast_nonneg _), if_pos (by omega), blsB_get (n % 6) (by omega), ← hc, ofL_append, if_pos (by rw [ofL_size, ofL_size]; exact hsz), ofL_append]
      exact hfin
    · have hc : chOf x1 i = bls.getD 0 [] := by
        unfold chOf
        rw [if_neg hx1]
      rw [if_neg (by omega), if_pos (Int.natCast_nonneg i), if_pos (by rw [ofL_size, ofL_size]; exact hsz1), if_pos (by decide), show (0 : Int) = ((0 : Nat) : Int) from rfl, blsB_get 0 (by omega), ← hc, ofL_append, if_pos (by rw [ofL_size, ofL_size]; exact hsz), ofL_append]
      exact hfin
theorem same_loop (l m : List S33) (hm : m.map plain = l.map plain) (hl : l.length ≤ 100000) : ∀ (d k i : Nat), m.length = i + d → d + 60 < k → rushlightlaw07_LexBlanks.l1 k l m i = some true
  | 0, k, i, hi, hk => by
    obtain ⟨k, rfl⟩ : ∃ q, k = q + 1 := ⟨k - 1, by omega⟩
    simp only [rushlightlaw07_LexBlanks.l1]
    rw [if_neg (by omega), awake_ge k (by omega), Option.bind_some]
  | d + 1, k, i, hi, hk => by
    obtain ⟨k, rfl⟩ : ∃ q, k = q + 1 := ⟨k - 1, by omega⟩
    have hlen : m.length = l.length := by simpa using congrArg List.length hm
    have h1 : i < m.length := by omega
    have h2 : i < l.length := by omega
    have e1 : rd_T33 m (i : Int) = m[i] := by simp [rd_T33, List.getD, h1]
    have e : rd_T33 l (i : Int) = l[i] := by simp [rd_T33, List.getD, h2]
    have e2 : wrap64 ((i : Int) + 1) = ((i + 1 : Nat) : Int) := by unfold wrap64; omega
    have hp : plain m[i] = plain l[i] := by
      have := congrArg (fun z => z[i]?) hm
      simpa [List.getElem?_map, h1, h2] using this
    simp only [plain, Prod.mk.injEq] at hp
    simp only [rushlightlaw07_LexBlanks.l1]
    rw [if_pos (Int.ofNat_lt.mpr h1), if_pos (Int.natCast_nonneg i), if_pos (Int.ofNat_lt.mpr h2), e, e1, hp.1, hp.2.1, hp.2.2, if_pos rfl, if_pos rfl, if_pos rfl, e2]
    exact same_loop l m hm hl d k (i + 1) (by omega) (by omega)
theorem LexBlanks : rushlightlaw07_LexBlanks.Pure := by
  intro s x1 hs _ _ hwf
  refine ⟨200000, ?_⟩
  have hx : ∀ n ∈ x1, 0 ≤ n ∧ n ≤ 255 := by
    intro n hn
    have := hwf n hn
    simp [Lit.wf, IntKind.min, IntKind.max, IntKind.bits, IntKind.signed] at this
    omega
  unfold rushlightlaw07_LexBlanks.f
  have hj : rushlightlaw07_LexBlanks.j0 200000 s x1 true = some true := by
    show rushlightlaw07_LexBlanks.j0 (199999 + 1) s x1 true = _
    rw [rushlightlaw07_LexBlanks.j0, if_pos rfl, awake_ge _ (by omega), Option.bind_some]
  by_cases h : (s.size : Int) > 1000
  · rw [if_pos h, hj]
  rw [if_neg h]
  by_cases h4 : (x1.length : Int) > 400
  · rw [decide_eq_true h4, hj]
  rw [decide_eq_false h4]
  show rushlightlaw07_LexBlanks.j0 (199999 + 1) s x1 false = _
  rw [rushlightlaw07_LexBlanks.j0, if_neg (by decide)]
  have hz : s.data.toList.length ≤ 1000 := by rw [data_length]; omega
  have hf : ∀ l : List UInt8, l.length ≤ 65536 → ∀ k, lex_Lex.f k (ofL l) = lexL k (ofL l) 1 1 [] := fun l hl k => by
    unfold lex_Lex.f
    rw [if_neg (by rw [ofL_size]; omega)]
  rcases lex_total s.data.toList.length s.data.toList 1 1 [] (Nat.le_refl _) (by omega) (by simp; omega) with ⟨out, a', b', hL, hol, hr⟩ | ⟨a', b', e, he, hr⟩
  · have h1 : lex_Lex.f 199999 s = some (out, a', b', 0) := by
      have := hf s.data.toList (by omega) 199999
      rw [ofL_list] at this
      rw [this]
      have := hr 199999 (by omega)
      rw [ofL_list, List.nil_append] at this
      exact this
    obtain ⟨ht, hn⟩ := lx_total hL
    have hbt := btxt_len (chOf x1) (fun i => bls_len _ (chOf_mem x1 i)) out 0
    have hQ := q_whole out _ (lx_blanks (chOf x1) (chOf_mem x1) hL 0 (by omega)).1
    obtain ⟨out2, p, q, hL2, he⟩ := hQ 1 1
    have hlen : ([47, 42, 42, 42, 47] ++ btxt (chOf x1) 0 out).length ≤ 65536 := by simp only [List.length_append, List.length_cons, List.length_nil]; omega
    have hlo : out2.length = out.length := by simpa using congrArg List.length he
    have h2 : lex_Lex.f (199999 - out.length - 1) (ofL ([47, 42, 42, 42, 47] ++ btxt (chOf x1) 0 out)) = some (out2, p, q, 0) := by
      rw [hf _ hlen, lx_run hL2 hlen [] _ (by omega) (by simp only [List.length_nil]; omega), List.nil_append]
    rw [h1, Option.bind_some]
    dsimp only
    have h3 := bl_loop x1 hx out (by omega) none out.length 199999 0 [47, 42, 42, 42, 47] (by omega) (by omega) (by simp only [List.length_cons, List.length_nil]; omega)
    rw [List.drop_zero, h2, Option.bind_some] at h3
    rw [if_pos rfl]
    refine h3.trans ?_
    dsimp only
    rw [if_pos rfl, show ((out2.length : Int) != (out.length : Int)) = false by rw [hlo]; simp]
    obtain ⟨k, hk⟩ : ∃ k, 199999 - out.length - 1 = k + 1 := ⟨199999 - out.length - 2, by omega⟩
    rw [hk, rushlightlaw07_LexBlanks.j2, if_neg (by decide)]
    exact same_loop out out2 he (by omega) out2.length k 0 (by omega) (by omega)
  · have h1 : lex_Lex.f 199999 s = some ([], a', b', e) := by
      have := hf s.data.toList (by omega) 199999
      rw [ofL_list] at this
      rw [this]
      have := hr 199999 (by omega)
      rw [ofL_list] at this
      exact this
    rw [h1, Option.bind_some]
    dsimp only
    rw [if_neg he, awake_ge _ (by omega), Option.bind_some]
end Go.Proofs.Ytgelabhiebmadaa.Pure
end
