/- A claim's text, put together by a program of this session (wip/tools/shake.py): the declarations that the claim needs. -/
import Derived.Test.YtecbponmpinnoaaQa0
import Derived.Test.YtecbponmpinnoaaQa1
import Derived.Test.YtecbponmpinnoaaQa2
import Derived.Test.YtecbponmpinnoaaQa3
import Derived.Test.YtecbponmpinnoaaQa4
import Derived.Test.YtecbponmpinnoaaQa5
import Derived.Test.YtecbponmpinnoaaQa6
import Derived.Test.YtecbponmpinnoaaQa7
import Derived.Test.YtecbponmpinnoaaProg
import Derived.Below
import Derived.Deep.Draws
import Derived.Deep.AppendLies
import Derived.Maps.AppendAt
import Derived.OwnWalk
import Derived.Laws.BytesArg
import Derived.Laws.MakeOwn
import Derived.Laws.OwnMore
import Derived.Deep.OwnRows
import Derived.Tactics
import Derived.Lib.ConvBytes
import Derived.Laws.Slices
import Derived.WalkKit
import Derived.KernelRfl
import Derived.RowKit3
import Derived.Deep.LoopGhost
import Derived.Deep.QuietTactic
import Derived.BigQuiet
import Derived.WideLaws
import Derived.Deep.DeepCutAuto
import Derived.Deep.CutBlock
import Derived.Deep.RegionHeld3
import Derived.Laws.Rows
import Derived.Lib.AppendStr
import Derived.ArgAppend
import Derived.Laws.IdiomCopy
import Derived.OrdersHeld
import Derived.Laws.BitsLemmas
import Derived.RowKit
import Derived.Deep.WholeRow
import Derived.Outline
import Derived.WalkMore
import Derived.ScopeJumps
import Derived.Deep.DeepFit
import Derived.Maps.OwnOps
import Derived.Maps.Views
import Derived.Carry
import Derived.WalkArith
import Derived.Laws.StructEq
set_option linter.unusedVariables false
set_option linter.unusedSimpArgs false
section
namespace Go.Proofs.Ytecbponmpinnoaa.Pure
open Go.RowKit Go.Proofs.Ytecbponmpinnoaa.P Go.Proofs.YtecbponmpinnoaaW.PrintWords Go.Proofs.YtecbponmpinnoaaW.PrintLast
theorem awake_true : rushlightlaw05_awake.f 60 = some true := by kernel_rfl
theorem mod_thousand (a : Int) : 0 ≤ Int.tmod (wrap64 (Int.tmod a 1000 + 1000)) 1000 ∧ Int.tmod (wrap64 (Int.tmod a 1000 + 1000)) 1000 < 1000 := by
  have h1 := Int.tmod_lt_of_pos a (show (0 : Int) < 1000 by decide)
  have h2 : -1000 < Int.tmod a 1000 := by
    have := Int.tmod_lt_of_pos (-a) (show (0 : Int) < 1000 by decide)
    rw [Int.neg_tmod] at this
    omega
  have e : wrap64 (Int.tmod a 1000 + 1000) = Int.tmod a 1000 + 1000 := by
    generalize Int.tmod a 1000 = t at *
    simp only [wrap64]
    omega
  rw [e]
  exact ⟨Int.tmod_nonneg _ (by omega), Int.tmod_lt_of_pos _ (by decide)⟩
theorem AsmLong : rushlightlaw05_AsmLong.Pure := by
  intro a0 h
  refine ⟨60, ?_⟩
  obtain ⟨h1, h2⟩ := mod_thousand a0
  unfold rushlightlaw05_AsmLong.f
  generalize Int.tmod (wrap64 (Int.tmod a0 1000 + 1000)) 1000 = m at *
  have e : wrap64 (32769 + m) = 32769 + m := by
    simp only [wrap64]
    omega
  rw [e, if_pos (by omega), if_pos (by omega)]
  have hA : asm_Assemble.f 60 (List.replicate (32769 + m).toNat z41) = some ([], [], 2) := by
    unfold asm_Assemble.f
    rw [if_pos]
    rw [List.length_replicate]
    omega
  rw [hA, Option.bind_some, awake_true, Option.bind_some, if_pos rfl]
  rfl
end Go.Proofs.Ytecbponmpinnoaa.Pure
end
