/- A claim's text, put together by a program of this session (wip/tools/shake.py): the declarations that the claim needs. -/
import Derived.Test.YtecbponmpinnoaaMd0
import Derived.Test.YtecbponmpinnoaaMd1
import Derived.Test.YtecbponmpinnoaaMd2
import Derived.Test.YtecbponmpinnoaaMd3
import Derived.Test.YtecbponmpinnoaaMd4
import Derived.Test.YtecbponmpinnoaaMd5
import Derived.Test.YtecbponmpinnoaaMd6
import Derived.Test.YtecbponmpinnoaaMd7
import Derived.Test.YtecbponmpinnoaaMd8
import Derived.Test.YtecbponmpinnoaaMd9
import Derived.Test.YtecbponmpinnoaaMd10
import Derived.Test.YtecbponmpinnoaaMd11
import Derived.Test.YtecbponmpinnoaaMd12
import Derived.Test.YtecbponmpinnoaaMd13
import Derived.Test.YtecbponmpinnoaaMd14
import Derived.Test.YtecbponmpinnoaaMd15
import Derived.Test.YtecbponmpinnoaaMd16
import Derived.Test.YtecbponmpinnoaaMd17
import Derived.Test.YtecbponmpinnoaaMd18
import Derived.Test.YtecbponmpinnoaaProg
import Derived.Below
import Derived.Deep.Draws
import Derived.Deep.AppendLies
import Derived.Maps.AppendAt
import Derived.OwnWalk
import Derived.Laws.BytesArg
import Derived.Laws.MakeOwn
import Derived.Laws.OwnMore
import Derived.Deep.OwnRows
import Derived.Tactics
import Derived.Lib.ConvBytes
import Derived.Laws.Slices
import Derived.WalkKit
import Derived.KernelRfl
import Derived.RowKit3
import Derived.Deep.LoopGhost
import Derived.Deep.QuietTactic
import Derived.BigQuiet
import Derived.WideLaws
import Derived.Deep.DeepCutAuto
import Derived.Deep.CutBlock
import Derived.Deep.RegionHeld3
import Derived.Laws.Rows
import Derived.Lib.AppendStr
import Derived.ArgAppend
import Derived.Laws.IdiomCopy
import Derived.OrdersHeld
import Derived.Laws.BitsLemmas
import Derived.RowKit
import Derived.Deep.WholeRow
import Derived.Outline
import Derived.WalkMore
import Derived.ScopeJumps
import Derived.Deep.DeepFit
import Derived.Maps.OwnOps
import Derived.Maps.Views
import Derived.Carry
import Derived.WalkArith
import Derived.Laws.StructEq
import Derived.Laws.BitsAllLaws
import Derived.IntWalk
set_option linter.unusedVariables false
set_option linter.unusedSimpArgs false
section
namespace Go.Proofs.Ytecbponmpinnoaa.Pure
open Go Go.RowKit Go.Proofs.Ytecbponmpinnoaa.P Go.Proofs.Ytecbponmpinnoaa.InstM Go.Proofs.YtecbponmpinnoaaW.PrintWords Go.Proofs.YtecbponmpinnoaaW.PrintLast Go.Proofs.YtecbponmpinnoaaW.PrintMore
set_option linter.unusedVariables false
def wfI (x : S41) : Prop := -9223372036854775808 ≤ x.f1.f4 ∧ x.f1.f4 ≤ 9223372036854775807
theorem wf64_of {xs : List S41} (h : ∀ x ∈ xs, wfI x) : wf64 xs := by
  intro i hi
  unfold itemAt
  rw [List.getD_eq_getElem?_getD, List.getElem?_eq_getElem hi]
  exact h _ (List.getElem_mem hi)
theorem padded_l1 (l : List S41) (a n : Int) (i : Nat) (hi : i < 1000) (z : Nat) : ∀ (d q : Nat) (out : List S41), q + d = 1100 → out.length + d < 100000 → (∀ x ∈ out, wfI x) →
    ∃ m out', z ≤ m ∧ rushlightlaw05_Padded.l1 (z + d + 1) l a n out (i : Int) (q : Int) = rushlightlaw05_Padded.l0 m l a n out' ((i + 1 : Nat) : Int) ∧ (∀ x ∈ out', wfI x) ∧ out'.length ≤ out.length + (if (i : Int) = a then d else 0)
  | 0, q, out, h, ho, hw => by
    have e : wrap64 ((i : Int) + 1) = ((i + 1 : Nat) : Int) := by rw [w64 (by omega)]; omega
    refine ⟨z, out, Nat.le_refl _, ?_, hw, by split <;> omega⟩
    rw [rushlightlaw05_Padded.l1, e]
    split
    · split
      · rw [if_neg (by omega)]
      · rfl
    · rfl
  | d + 1, q, out, h, ho, hw => by
    have e : wrap64 ((i : Int) + 1) = ((i + 1 : Nat) : Int) := by rw [w64 (by omega)]; omega
    have e2 : wrap64 ((q : Int) + 1) = ((q + 1 : Nat) : Int) := by rw [w64 (by omega)]; omega
    rw [rushlightlaw05_Padded.l1, e, e2]
    by_cases c1 : (i : Int) = a
    · rw [if_pos c1]
      by_cases c2 : (q : Int) < n
      · rw [if_pos c2, if_pos (by omega), if_pos (by omega)]
        obtain ⟨m, out', h1, h2, h3, h4⟩ := padded_l1 l a n i hi z d (q + 1) (out ++ [(⟨1, (⟨19, 0, 0, 0, 0⟩ : S39), 0⟩ : S41)]) (by omega) (by simp; omega) (by
          intro x hx
          rcases List.mem_append.mp hx with hx | hx
          · exact hw x hx
          · simp only [List.mem_singleton] at hx
            subst hx
            exact ⟨by decide, by decide⟩)
        refine ⟨m, out', h1, h2, h3, ?_⟩
        rw [if_pos c1] at h4 ⊢
        simp only [List.length_append, List.length_cons, List.length_nil] at h4
        omega
      · rw [if_neg c2]
        exact ⟨z + (d + 1), out, by omega, rfl, hw, by split <;> omega⟩
    · rw [if_neg c1]
      exact ⟨z + (d + 1), out, by omega, rfl, hw, by split <;> omega⟩
theorem padded_l0 (l : List S41) (hl : l.length ≤ 60) (hlw : ∀ x ∈ l, wfI x) (a n : Int) (c c2 : Nat) (hc : c = 1100) (hc2 : c2 = 1200) : ∀ (d k i : Nat) (out : List S41), i + d = l.length → d * c2 + 10 < k → (∀ x ∈ out, wfI x) → out.length ≤ i + (if a < (i : Int) then 1100 else 0) →
    ∃ p, rushlightlaw05_Padded.l0 k l a n out (i : Int) = some p ∧ (∀ x ∈ p, wfI x) ∧ p.length ≤ 1160
  | 0, k, i, out, h, hk, hw, ho => by
    obtain ⟨k, rfl⟩ : ∃ k', k = k' + 1 := ⟨k - 1, by omega⟩
    rw [rushlightlaw05_Padded.l0, if_neg (by omega)]
    refine ⟨out, rfl, hw, ?_⟩
    split at ho <;> omega
  | d + 1, k, i, out, h, hk, hw, ho => by
    rw [Nat.succ_mul] at hk
    obtain ⟨k, rfl⟩ : ∃ k', k = k' + c + 2 := ⟨k - c - 2, by omega⟩
    have hi : i < l.length := by omega
    have ho2 : out.length ≤ 1160 := by split at ho <;> omega
    rw [rushlightlaw05_Padded.l0, if_pos (by omega), if_pos (by omega), if_pos (by omega)]
    have hx : (⟨(rd_T41 l (i : Int)).f0, (⟨(rd_T41 l (i : Int)).f1.f0, (rd_T41 l (i : Int)).f1.f1, (rd_T41 l (i : Int)).f1.f2, (rd_T41 l (i : Int)).f1.f3, (rd_T41 l (i : Int)).f1.f4⟩ : S39), (rd_T41 l (i : Int)).f2⟩ : S41) = itemAt l i := rfl
    rw [hx]
    obtain ⟨m, out', h1, h2, h3, h4⟩ := padded_l1 l a n i (by omega) k c 0 (out ++ [itemAt l i]) (by omega) (by simp; omega) (by
      intro x hx
      rcases List.mem_append.mp hx with hx | hx
      · exact hw x hx
      · simp only [List.mem_singleton] at hx
        subst hx
        exact wf64_of hlw i hi)
    have h2' : rushlightlaw05_Padded.l1 (k + c + 1) l a n (out ++ [itemAt l i]) (i : Int) 0 = _ := h2
    rw [h2']
    refine padded_l0 l hl hlw a n c c2 hc hc2 d m (i + 1) out' (by omega) (by omega) h3 ?_
    simp only [List.length_append, List.length_cons, List.length_nil] at h4
    by_cases c1 : (i : Int) = a
    · rw [if_pos c1] at h4
      rw [if_neg (by omega)] at ho
      rw [if_pos (by omega)]
      omega
    · rw [if_neg c1] at h4
      by_cases c2 : a < (i : Int)
      · rw [if_pos c2] at ho
        rw [if_pos (by omega)]
        omega
      · rw [if_neg c2] at ho
        rw [if_neg (by omega)]
        omega
end Go.Proofs.Ytecbponmpinnoaa.Pure
end
