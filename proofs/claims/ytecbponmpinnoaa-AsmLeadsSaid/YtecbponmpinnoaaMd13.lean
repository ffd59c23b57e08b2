/- A claim's text, put together by a program of this session (wip/tools/shake.py): the declarations that the claim needs. -/
import Derived.Test.YtecbponmpinnoaaMd0
import Derived.Test.YtecbponmpinnoaaMd1
import Derived.Test.YtecbponmpinnoaaMd2
import Derived.Test.YtecbponmpinnoaaMd3
import Derived.Test.YtecbponmpinnoaaMd4
import Derived.Test.YtecbponmpinnoaaMd5
import Derived.Test.YtecbponmpinnoaaMd6
import Derived.Test.YtecbponmpinnoaaMd7
import Derived.Test.YtecbponmpinnoaaMd8
import Derived.Test.YtecbponmpinnoaaMd9
import Derived.Test.YtecbponmpinnoaaMd10
import Derived.Test.YtecbponmpinnoaaMd11
import Derived.Test.YtecbponmpinnoaaMd12
import Derived.Test.YtecbponmpinnoaaProg
import Derived.Below
import Derived.Deep.Draws
import Derived.Deep.AppendLies
import Derived.Maps.AppendAt
import Derived.OwnWalk
import Derived.Laws.BytesArg
import Derived.Laws.MakeOwn
import Derived.Laws.OwnMore
import Derived.Deep.OwnRows
import Derived.Tactics
import Derived.Lib.ConvBytes
import Derived.Laws.Slices
import Derived.WalkKit
import Derived.KernelRfl
import Derived.RowKit3
import Derived.Deep.LoopGhost
import Derived.Deep.QuietTactic
import Derived.BigQuiet
import Derived.WideLaws
import Derived.Deep.DeepCutAuto
import Derived.Deep.CutBlock
import Derived.Deep.RegionHeld3
import Derived.Laws.Rows
import Derived.Lib.AppendStr
import Derived.ArgAppend
import Derived.Laws.IdiomCopy
import Derived.OrdersHeld
import Derived.Laws.BitsLemmas
import Derived.RowKit
import Derived.Deep.WholeRow
import Derived.Outline
import Derived.WalkMore
import Derived.ScopeJumps
import Derived.Deep.DeepFit
import Derived.Maps.OwnOps
import Derived.Maps.Views
import Derived.Carry
import Derived.WalkArith
import Derived.Laws.StructEq
import Derived.Laws.BitsAllLaws
import Derived.IntWalk
set_option linter.unusedVariables false
set_option linter.unusedSimpArgs false
section
namespace Go.Proofs.Ytecbponmpinnoaa.Pure
open Go Go.RowKit Go.Proofs.Ytecbponmpinnoaa.P Go.Proofs.Ytecbponmpinnoaa.InstM Go.Proofs.YtecbponmpinnoaaW.PrintWords Go.Proofs.YtecbponmpinnoaaW.PrintLast Go.Proofs.YtecbponmpinnoaaW.PrintMore
set_option linter.unusedVariables false
def contM (a : Int) : Int := if 5 ≤ a ∧ a ≤ 10 then (if a % 2 = 1 then a + 1 else a - 1) else 0
theorem contrary_f (k : Nat) (a : Int) : asm_Contrary.f (k + 1) a = some (contM a) := by
  unfold asm_Contrary.f
  simp only [asm_Contrary.j0]
  unfold contM
  by_cases h5 : a = 5
  · subst h5; decide +kernel
  by_cases h7 : a = 7
  · subst h7; decide +kernel
  by_cases h9 : a = 9
  · subst h9; decide +kernel
  by_cases h6 : a = 6
  · subst h6; decide +kernel
  by_cases h8 : a = 8
  · subst h8; decide +kernel
  by_cases h10 : a = 10
  · subst h10; decide +kernel
  rw [if_neg h5, if_neg h7, if_neg (by simpa using h9), if_neg h6, if_neg h8, if_neg h10, if_neg (by omega)]
theorem contM_ne (a : Int) : (contM a = 0) = ¬ (5 ≤ a ∧ a ≤ 10) := by
  unfold contM
  apply propext
  split
  · split <;> constructor <;> intro h <;> omega
  · constructor <;> intro h <;> simp_all
def rightI (f0 op rd rs1 rs2 imm lab : Int) : Bool :=
  if f0 = 1 then rightB op rd rs1 rs2 imm && decide (lab = 0)
  else if f0 = 5 then decide (lab = 0 ∧ op = 0 ∧ rs1 = 0 ∧ rs2 = 0 ∧ 0 ≤ rd ∧ rd ≤ 31 ∧ -2147483648 ≤ imm ∧ imm ≤ 4294967295)
  else if lab < 0 ∨ lab > 4095 then false
  else if f0 = 2 then decide (op = 0 ∧ rd = 0 ∧ rs1 = 0 ∧ rs2 = 0 ∧ imm = 0)
  else if f0 = 3 then decide (5 ≤ op ∧ op ≤ 10) && rightB op rd rs1 rs2 imm && decide (imm = 0)
  else decide (f0 = 4 ∧ op = 3) && rightB op rd rs1 rs2 imm && decide (imm = 0)
theorem asm_rightI (k : Nat) (f0 op rd rs1 rs2 imm lab : Int) : asm_Right.f (k + 6) f0 op rd rs1 rs2 imm lab = some (rightI f0 op rd rs1 rs2 imm lab) := by
  have hj : asm_Right.f (k + 6) f0 op rd rs1 rs2 imm lab = asm_Right.j0 (k + 6) (decide (0 ≤ lab ∧ lab ≤ 4095)) f0 op rd rs1 rs2 imm lab := by
    unfold asm_Right.f
    by_cases hl : lab ≥ 0
    · rw [if_pos hl]
      congr 1
      rw [decide_eq_decide]
      omega
    · rw [if_neg hl, decide_eq_false (by omega)]
  rw [hj, asm_Right.j0]
  unfold rightI
  by_cases h1 : f0 = 1
  · rw [if_pos h1, if_pos h1, right_f (k + 3), Option.bind_some]
    cases rightB op rd rs1 rs2 imm <;> simp
    by_cases hl : lab = 0 <;> simp [hl]
  rw [if_neg h1, if_neg h1]
  by_cases h2 : f0 = 2
  · rw [if_pos h2, if_neg (show ¬ f0 = 5 by omega), if_pos h2]
    by_cases hl : lab < 0 ∨ lab > 4095
    · rw [if_pos hl, decide_eq_false (by omega)]
      split <;> rfl
    · rw [if_neg hl, decide_eq_true (by omega)]
      by_cases c1 : op = 0 <;> by_cases c2 : rd = 0 <;> by_cases c3 : rs1 = 0 <;> by_cases c4 : rs2 = 0 <;> by_cases c5 : imm = 0 <;> simp [c1, c2, c3, c4, c5]
  rw [if_neg h2, if_neg h2]
  by_cases h3 : f0 = 3
  · rw [if_pos h3, if_neg (show ¬ f0 = 5 by omega), if_pos h3, right_f (k + 3), Option.bind_some, contrary_f (k + 4), Option.bind_some]
    by_cases hl : lab < 0 ∨ lab > 4095
    · rw [if_pos hl, decide_eq_false (by omega)]
      split
      · split
        · rfl
        · split <;> rfl
      · rfl
    · rw [if_neg hl, decide_eq_true (by omega)]
      cases rightB op rd rs1 rs2 imm
      · simp
      · rw [if_pos rfl]
        by_cases hb : 5 ≤ op ∧ op ≤ 10
        · rw [if_neg (by rw [contM_ne]; simpa using hb), decide_eq_true hb]
          by_cases hi : imm = 0 <;> simp [hi]
        · rw [if_pos (by rw [contM_ne]; exact hb), decide_eq_false hb]
          rfl
  rw [if_neg h3, if_neg h3]
  by_cases h4 : f0 = 4
  · rw [if_pos h4, if_neg (show ¬ f0 = 5 by omega), right_f (k + 3), Option.bind_some]
    by_cases hl : lab < 0 ∨ lab > 4095
    · rw [if_pos hl, decide_eq_false (by omega)]
      split
      · split
        · split <;> rfl
        · rfl
      · rfl
    · rw [if_neg hl, decide_eq_true (by omega)]
      cases rightB op rd rs1 rs2 imm
      · simp
      · rw [if_pos rfl]
        by_cases hop : op = 3
        · rw [if_pos hop, decide_eq_true ⟨h4, hop⟩]
          by_cases hi : imm = 0 <;> simp [hi]
        · rw [if_neg hop, decide_eq_false (by omega)]
          rfl
  rw [if_neg h4]
  by_cases h5 : f0 = 5
  · rw [if_pos h5, if_pos h5]
    by_cases c5 : rd ≥ 0
    · rw [if_pos c5]
      by_cases c6 : rd < 32
      · rw [if_pos c6]
        by_cases c2 : op = 0 ∧ rs1 = 0 ∧ rs2 = 0
        · rw [if_pos (by simp [c2])]
          by_cases c7 : imm ≥ -2147483648
          · rw [if_pos c7]
            by_cases c8 : imm < 4294967296
            · rw [if_pos c8]
              by_cases hl : lab = 0
              · rw [decide_eq_true (by omega)]
                simp [hl]
              · rw [decide_eq_false (by omega)]
                simp [hl]
            · rw [if_neg c8, decide_eq_false (by omega)]
          · rw [if_neg c7, decide_eq_false (by omega)]
        · rw [if_neg (by simpa using c2), decide_eq_false (by omega)]
      · rw [if_neg c6, decide_eq_false (by omega)]
    · rw [if_neg c5, decide_eq_false (by omega)]
  · rw [if_neg h5, if_neg h5]
    split
    · rfl
    · simp [h4]
end Go.Proofs.Ytecbponmpinnoaa.Pure
end
