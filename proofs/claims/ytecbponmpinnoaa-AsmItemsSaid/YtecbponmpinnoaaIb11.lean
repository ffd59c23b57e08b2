/- A claim's text, put together by a program of this session (wip/tools/shake.py): the declarations that the claim needs. -/
import Derived.Test.YtecbponmpinnoaaIb0
import Derived.Test.YtecbponmpinnoaaIb1
import Derived.Test.YtecbponmpinnoaaIb2
import Derived.Test.YtecbponmpinnoaaIb3
import Derived.Test.YtecbponmpinnoaaIb4
import Derived.Test.YtecbponmpinnoaaIb5
import Derived.Test.YtecbponmpinnoaaIb6
import Derived.Test.YtecbponmpinnoaaIb7
import Derived.Test.YtecbponmpinnoaaIb8
import Derived.Test.YtecbponmpinnoaaIb9
import Derived.Test.YtecbponmpinnoaaIb10
import Derived.Test.YtecbponmpinnoaaProg
import Derived.Below
import Derived.Deep.Draws
import Derived.Deep.AppendLies
import Derived.Maps.AppendAt
import Derived.OwnWalk
import Derived.Laws.BytesArg
import Derived.Laws.MakeOwn
import Derived.Laws.OwnMore
import Derived.Deep.OwnRows
import Derived.Tactics
import Derived.Lib.ConvBytes
import Derived.Laws.Slices
import Derived.WalkKit
import Derived.KernelRfl
import Derived.RowKit3
import Derived.Deep.LoopGhost
import Derived.Deep.QuietTactic
import Derived.BigQuiet
import Derived.WideLaws
import Derived.Deep.DeepCutAuto
import Derived.Deep.CutBlock
import Derived.Deep.RegionHeld3
import Derived.Laws.Rows
import Derived.Lib.AppendStr
import Derived.ArgAppend
import Derived.Laws.IdiomCopy
import Derived.OrdersHeld
import Derived.Laws.BitsLemmas
import Derived.RowKit
import Derived.Deep.WholeRow
import Derived.Outline
import Derived.WalkMore
import Derived.ScopeJumps
import Derived.Deep.DeepFit
import Derived.Maps.OwnOps
import Derived.Maps.Views
import Derived.Carry
import Derived.WalkArith
import Derived.Laws.StructEq
import Derived.Laws.BitsAllLaws
import Derived.IntWalk
set_option linter.unusedVariables false
set_option linter.unusedSimpArgs false
section
namespace Go.Proofs.Ytecbponmpinnoaa.InstM
open Go Go.RowKit Go.Proofs.Ytecbponmpinnoaa.P Go.Proofs.YtecbponmpinnoaaW.PrintWords Go.Proofs.YtecbponmpinnoaaW.PrintLast Go.Proofs.YtecbponmpinnoaaW.PrintMore
set_option linter.unusedVariables false
def F (c r t q p s : Int) : Int := c + 128 * r + 4096 * t + 32768 * q + 1048576 * p + 33554432 * s
theorem w64 {n : Int} (h : -9223372036854775808 ≤ n ∧ n ≤ 9223372036854775807) : wrap64 n = n := IntWalk.wrap64_in n h
def formOf (op : Int) : Int := if op < 1 then 0 else if op > 45 then 0 else if op ≤ 2 then 85 else if op = 3 then 74 else if 5 ≤ op ∧ op ≤ 10 then 66 else if 16 ≤ op ∧ op ≤ 18 then 83 else if 25 ≤ op ∧ op ≤ 27 then 72 else if 28 ≤ op then 82 else 73
theorem of_pos {op : Int} (h0 : 0 ≤ op) (h1 : op < 46) : shapeOf op = shapes.getD op.toNat noShape := if_pos ⟨h0, h1⟩
def codeM (op : Int) : Int := if op = 1 then 55 else if op = 2 then 23 else if op = 3 then 111 else if op = 4 then 103 else if op ≤ 10 then 99 else if op ≤ 15 then 3 else if op ≤ 18 then 35 else if op ≤ 27 then 19 else 51
def thirds : List Int := [0, 0, 0, 0, 0, 0, 1, 4, 5, 6, 7, 0, 1, 2, 4, 5, 0, 1, 2, 0, 2, 3, 4, 6, 7, 1, 5, 5, 0, 0, 1, 2, 3, 4, 5, 5, 6, 7, 0, 1, 2, 3, 4, 5, 6, 7]
def thirdM (op : Int) : Int := thirds.getD op.toNat 0
def seventhM (op : Int) : Int := if op = 27 ∨ op = 29 ∨ op = 35 then 32 else if op ≥ 38 then 1 else 0
theorem shape_table : ∀ n : Fin 46, 0 < n.val → (shapes.getD n.val noShape).2 = (formOf (n.val : Int), codeM n.val, thirdM n.val, seventhM n.val) := by decide +kernel
theorem shape_eq {op : Int} (h0 : 1 ≤ op) (h1 : op ≤ 45) : (shapeOf op).2 = (formOf op, codeM op, thirdM op, seventhM op) := by
  rw [of_pos (by omega) (by omega)]
  have h := shape_table ⟨op.toNat, by omega⟩ (by simp; omega)
  simpa [Int.toNat_of_nonneg (show 0 ≤ op by omega)] using h
theorem form_f (op : Int) : inst_Form.f op = some (formOf op) := by
  unfold inst_Form.f inst_of.f
  rw [Option.bind_some]
  by_cases h : 1 ≤ op ∧ op ≤ 45
  · rw [shape_eq h.1 h.2]
  · have e : (shapeOf op).2.1 = 0 := by
      by_cases h0 : op = 0
      · subst h0
        rfl
      · rw [show shapeOf op = noShape from if_neg (by omega)]
        rfl
    have e2 : formOf op = 0 := by
      unfold formOf
      by_cases h1 : op < 1
      · rw [if_pos h1]
      · rw [if_neg h1, if_pos (by omega)]
    rw [e, e2]
theorem ref_form_table : ∀ n : Fin 46, rushlightref02_Form.f 4 (n.val : Int) = some (formOf (n.val : Int)) := by decide +kernel
theorem ref_form_f (k : Nat) (op : Int) : rushlightref02_Form.f (k + 4) op = some (formOf op) := by
  by_cases h : 0 ≤ op ∧ op < 46
  · refine at_rounds (rushlightref02_Form.mono op) (Nat.le_add_left 4 k) ?_
    have e := ref_form_table ⟨op.toNat, by omega⟩
    simpa [Int.toNat_of_nonneg h.1] using e
  · by_cases h1 : op < 1
    · have e : formOf op = 0 := if_pos h1
      rw [e]
      simp [rushlightref02_Form.f, rushlightref02_Form.j0, h1]
    · have e : formOf op = 0 := (if_neg h1).trans (if_pos (by omega))
      have h2 : op > 45 := by omega
      rw [e]
      simp [rushlightref02_Form.f, rushlightref02_Form.j0, h1, h2]
def has1 (f : Int) : Bool := f != 83 && f != 66
def has2 (f : Int) : Bool := f != 85 && f != 74
def has3 (f : Int) : Bool := f == 83 || f == 66 || f == 82
def regB (n : Int) (may : Bool) : Bool := if may then decide (0 ≤ n ∧ n ≤ 31) else decide (n = 0)
def roomB (f n : Int) : Bool :=
  if f = 85 then decide (-2147483648 ≤ n ∧ n ≤ 2147479552 ∧ n % 4096 = 0) else if f = 74 then decide (-1048576 ≤ n ∧ n ≤ 1048574 ∧ n % 2 = 0)
  else if f = 73 ∨ f = 83 then decide (-2048 ≤ n ∧ n ≤ 2047) else if f = 72 then decide (0 ≤ n ∧ n ≤ 31)
  else if f = 66 then decide (-4096 ≤ n ∧ n ≤ 4094 ∧ n % 2 = 0) else decide (n = 0)
def rightB (op rd rs1 rs2 imm : Int) : Bool := formOf op != 0 && regB rd (has1 (formOf op)) && regB rs1 (has2 (formOf op)) && regB rs2 (has3 (formOf op)) && roomB (formOf op) imm
theorem formOf_cases (op : Int) : formOf op = 0 ∨ formOf op = 85 ∨ formOf op = 74 ∨ formOf op = 73 ∨ formOf op = 72 ∨ formOf op = 83 ∨ formOf op = 66 ∨ formOf op = 82 := by
  unfold formOf
  repeat' split
  all_goals simp
theorem register_f (n : Int) (b : Bool) : inst_register.f n b = some (regB n b) := by
  unfold inst_register.f regB
  cases b
  · by_cases h : n = 0 <;> simp [h]
  · by_cases h : n = 0
    · subst h; rfl
    · by_cases h2 : n > 0
      · rw [if_neg h, if_pos rfl, if_pos h2, if_pos rfl]
        congr 1
        rw [decide_eq_decide]
        omega
      · rw [if_neg h, if_pos rfl, if_neg h2, if_pos rfl]
        congr 1
        exact (decide_eq_false (by omega)).symm
theorem ref_reg_f (n : Int) (b : Bool) : rushlightref02_reg.f n b = some (regB n b) := by
  unfold rushlightref02_reg.f regB
  cases b
  · simp
    by_cases h : n = 0 <;> simp [h]
  · by_cases h : n ≥ 0
    · simp [h] <;> omega
    · simp [h] <;> omega
theorem ref_has_f1 (f : Int) : rushlightref02_has.f f 1 = some (has1 f) := by
  unfold rushlightref02_has.f has1
  by_cases h : f = 83 <;> simp [h]
theorem ref_has_f2 (f : Int) : rushlightref02_has.f f 2 = some (has2 f) := by
  unfold rushlightref02_has.f has2
  by_cases h : f = 85 <;> simp [h]
theorem ref_has_f3 (f : Int) : rushlightref02_has.f f 3 = some (has3 f) := by
  unfold rushlightref02_has.f has3
  by_cases h : f = 83
  · simp [h]
  · by_cases h2 : f = 66 <;> simp [h, h2]
theorem needs_f (k : Nat) (f : Int) (hf : f ≠ 0) (hc : f = 85 ∨ f = 74 ∨ f = 73 ∨ f = 72 ∨ f = 83 ∨ f = 66 ∨ f = 82) : ∃ b, inst_needs.f (k + 2) f = some (has1 f, has2 f, has3 f, b) := by
  rcases hc with rfl | rfl | rfl | rfl | rfl | rfl | rfl <;> exact ⟨_, by simp [inst_needs.f, inst_needs.j0, inst_needs.j1, has1, has2, has3]; rfl⟩
theorem tmod_zero (n : Int) (m : Int) : ((Int.tmod n m) == 0) = decide (n % m = 0) := by
  rw [Bool.eq_iff_iff]
  simp only [beq_iff_eq, decide_eq_true_eq]
  rw [← Int.dvd_iff_tmod_eq_zero, Int.dvd_iff_emod_eq_zero]
theorem reaches_f (k : Nat) (f n : Int) : inst_reaches.f (k + 1) f n = some (roomB f n) := by
  unfold inst_reaches.f roomB
  simp only [inst_reaches.j0, tmod_zero]
  by_cases h1 : f = 85
  · subst h1
    simp only [if_true]
    by_cases a : n ≥ -2147483648
    · by_cases b : n < 2147483648
      · simp [a, b] <;> omega
      · simp [a, b] <;> omega
    · simp [a] <;> omega
  by_cases h2 : f = 74
  · subst h2
    simp only [if_true, if_neg h1]
    by_cases a : n ≥ -1048576
    · by_cases b : n < 1048576
      · simp [a, b] <;> omega
      · simp [a, b] <;> omega
    · simp [a] <;> omega
  by_cases h3 : f = 73
  · subst h3
    simp
    by_cases a : n ≥ -2048
    · simp [a] <;> omega
    · simp [a] <;> omega
  by_cases h4 : f = 83
  · subst h4
    simp
    by_cases a : n ≥ -2048
    · simp [a] <;> omega
    · simp [a] <;> omega
  by_cases h5 : f = 72
  · subst h5
    simp
    by_cases a : n ≥ 0
    · simp [a] <;> omega
    · simp [a] <;> omega
  by_cases h6 : f = 66
  · subst h6
    simp
    by_cases a : n ≥ -4096
    · by_cases b : n < 4096
      · simp [a, b] <;> omega
      · simp [a, b] <;> omega
    · simp [a] <;> omega
  simp [h1, h2, h3, h4, h5, h6]
  by_cases a : n = 0 <;> simp [a]
theorem ref_room_f (k : Nat) (f n : Int) : rushlightref02_room.f (k + 1) f n = some (roomB f n) := by
  unfold rushlightref02_room.f roomB
  simp only [rushlightref02_room.j0, tmod_zero]
  by_cases h1 : f = 85
  · subst h1
    simp only [if_true]
    by_cases a : n ≥ -2147483648
    · by_cases b : n ≤ 2147479552
      · simp [a, b]
      · simp [a, b]
    · simp [a] <;> omega
  by_cases h2 : f = 74
  · subst h2
    simp only [if_true, if_neg h1]
    by_cases a : n ≥ -1048576
    · by_cases b : n ≤ 1048574
      · simp [a, b]
      · simp [a, b]
    · simp [a] <;> omega
  by_cases h3 : f = 73
  · subst h3
    simp
    by_cases a : n ≥ -2048
    · simp [a]
    · simp [a] <;> omega
  by_cases h4 : f = 83
  · subst h4
    simp
    by_cases a : n ≥ -2048
    · simp [a]
    · simp [a] <;> omega
  by_cases h5 : f = 72
  · subst h5
    simp
    by_cases a : n ≥ 0
    · simp [a]
    · simp [a] <;> omega
  by_cases h6 : f = 66
  · subst h6
    simp
    by_cases a : n ≥ -4096
    · by_cases b : n ≤ 4094
      · simp [a, b]
      · simp [a, b]
    · simp [a] <;> omega
  simp [h1, h2, h3, h4, h5, h6]
  by_cases a : n = 0 <;> simp [a]
theorem right_f (k : Nat) (op rd rs1 rs2 imm : Int) : inst_Right.f (k + 2) op rd rs1 rs2 imm = some (rightB op rd rs1 rs2 imm) := by
  unfold inst_Right.f rightB
  rw [form_f, Option.bind_some]
  by_cases h : formOf op = 0
  · rw [if_pos h]
    simp [h]
  rw [if_neg h]
  obtain ⟨b, hb⟩ := needs_f k (formOf op) h ((formOf_cases op).resolve_left h)
  rw [hb]
  simp only [Option.bind_some, register_f, reaches_f]
  generalize regB rd (has1 (formOf op)) = x
  generalize regB rs1 (has2 (formOf op)) = y
  generalize regB rs2 (has3 (formOf op)) = z
  cases x <;> cases y <;> cases z <;> simp [h]
theorem ref_right_f (k : Nat) (op rd rs1 rs2 imm : Int) : rushlightref02_Right.f (k + 4) op rd rs1 rs2 imm = some (rightB op rd rs1 rs2 imm) := by
  unfold rushlightref02_Right.f rightB
  rw [ref_form_f, Option.bind_some]
  by_cases h : formOf op = 0
  · rw [if_pos h]
    simp [h]
  rw [if_neg h]
  simp only [ref_has_f1, ref_has_f2, ref_has_f3, Option.bind_some, ref_reg_f, ref_room_f]
  generalize regB rd (has1 (formOf op)) = x
  generalize regB rs1 (has2 (formOf op)) = y
  generalize regB rs2 (has3 (formOf op)) = z
  cases x <;> cases y <;> cases z <;> simp [h]
end Go.Proofs.Ytecbponmpinnoaa.InstM
end
