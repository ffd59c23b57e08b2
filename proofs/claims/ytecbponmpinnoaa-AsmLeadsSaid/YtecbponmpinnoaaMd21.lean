/- A claim's text, put together by a program of this session (wip/tools/shake.py): the declarations that the claim needs. -/
import Derived.Test.YtecbponmpinnoaaMd0
import Derived.Test.YtecbponmpinnoaaMd1
import Derived.Test.YtecbponmpinnoaaMd2
import Derived.Test.YtecbponmpinnoaaMd3
import Derived.Test.YtecbponmpinnoaaMd4
import Derived.Test.YtecbponmpinnoaaMd5
import Derived.Test.YtecbponmpinnoaaMd6
import Derived.Test.YtecbponmpinnoaaMd7
import Derived.Test.YtecbponmpinnoaaMd8
import Derived.Test.YtecbponmpinnoaaMd9
import Derived.Test.YtecbponmpinnoaaMd10
import Derived.Test.YtecbponmpinnoaaMd11
import Derived.Test.YtecbponmpinnoaaMd12
import Derived.Test.YtecbponmpinnoaaMd13
import Derived.Test.YtecbponmpinnoaaMd14
import Derived.Test.YtecbponmpinnoaaMd15
import Derived.Test.YtecbponmpinnoaaMd16
import Derived.Test.YtecbponmpinnoaaMd17
import Derived.Test.YtecbponmpinnoaaMd18
import Derived.Test.YtecbponmpinnoaaMd19
import Derived.Test.YtecbponmpinnoaaMd20
import Derived.Test.YtecbponmpinnoaaProg
import Derived.Below
import Derived.Deep.Draws
import Derived.Deep.AppendLies
import Derived.Maps.AppendAt
import Derived.OwnWalk
import Derived.Laws.BytesArg
import Derived.Laws.MakeOwn
import Derived.Laws.OwnMore
import Derived.Deep.OwnRows
import Derived.Tactics
import Derived.Lib.ConvBytes
import Derived.Laws.Slices
import Derived.WalkKit
import Derived.KernelRfl
import Derived.RowKit3
import Derived.Deep.LoopGhost
import Derived.Deep.QuietTactic
import Derived.BigQuiet
import Derived.WideLaws
import Derived.Deep.DeepCutAuto
import Derived.Deep.CutBlock
import Derived.Deep.RegionHeld3
import Derived.Laws.Rows
import Derived.Lib.AppendStr
import Derived.ArgAppend
import Derived.Laws.IdiomCopy
import Derived.OrdersHeld
import Derived.Laws.BitsLemmas
import Derived.RowKit
import Derived.Deep.WholeRow
import Derived.Outline
import Derived.WalkMore
import Derived.ScopeJumps
import Derived.Deep.DeepFit
import Derived.Maps.OwnOps
import Derived.Maps.Views
import Derived.Carry
import Derived.WalkArith
import Derived.Laws.StructEq
import Derived.Laws.BitsAllLaws
import Derived.IntWalk
set_option linter.unusedVariables false
set_option linter.unusedSimpArgs false
section
namespace Go.Proofs.Ytecbponmpinnoaa.Pure
open Go Go.RowKit Go.Proofs.Ytecbponmpinnoaa.P Go.Proofs.Ytecbponmpinnoaa.InstM Go.Proofs.YtecbponmpinnoaaW.PrintWords Go.Proofs.YtecbponmpinnoaaW.PrintLast Go.Proofs.YtecbponmpinnoaaW.PrintMore
set_option linter.unusedVariables false
set_option linter.unusedSimpArgs false
theorem outM_pre (xs : List S41) (ff : List Bool) : ∀ (d i : Nat), ∃ T, outM xs ff (i + d) = outM xs ff i ++ T
  | 0, i => ⟨[], by simp⟩
  | d + 1, i => by
    obtain ⟨T, h⟩ := outM_pre xs ff d i
    exact ⟨T ++ (instsM xs ff (i + d)).map wordS, by rw [show i + (d + 1) = (i + d) + 1 from by omega, outM, h, List.append_assoc]⟩
theorem outM_step (xs : List S41) (ff : List Bool) (i : Nat) : (outM xs ff (i + 1)).length = (outM xs ff i).length + (instsM xs ff i).length := by
  rw [outM, List.length_append, List.length_map]
theorem outM_up (xs : List S41) (ff : List Bool) (i n : Nat) (h : i ≤ n) : (outM xs ff i).length ≤ (outM xs ff n).length := by
  obtain ⟨T, hT⟩ := outM_pre xs ff (n - i) i
  rw [show i + (n - i) = n from by omega] at hT
  rw [hT, List.length_append]
  omega
theorem word_at (xs : List S41) (ff : List Bool) (i n : Nat) (h : i < n) (L : List S39) (hL : instsM xs ff i = L) (j : Nat) (hj : j < L.length) :
    rd (outM xs ff n) (((outM xs ff i).length + j : Nat) : Int) = wordS L[j] := by
  obtain ⟨T, hT⟩ := outM_pre xs ff (n - (i + 1)) (i + 1)
  rw [show i + 1 + (n - (i + 1)) = n from by omega] at hT
  unfold rd
  rw [hT, outM, hL, Int.toNat_natCast, List.getD_eq_getElem?_getD, List.append_assoc, List.getElem?_append_right (by omega), show (outM xs ff i).length + j - (outM xs ff i).length = j from by omega,
    List.getElem?_append_left (by rw [List.length_map]; exact hj), List.getElem?_map, List.getElem?_eq_getElem hj]
  rfl
theorem size_insts {xs : List S41} (hR : AllR xs) {ff : List Bool} (hF : Ended xs ff) (i : Nat) (hi : i < xs.length) : sizeM (itemAt xs i) (ff.getD i false) = 4 * ((instsM xs ff i).length : Int) := by
  unfold sizeM instsM
  rcases rightX_kind (hR i hi) with h | h | h | h | h
  · have hf : ¬ ff.getD i false = true := fun c => by have := hF.br i c; omega
    rw [if_neg (show ¬ (itemAt xs i).f0 = 2 from by omega), if_neg (show ¬ (itemAt xs i).f0 = 5 from by omega), if_neg hf, if_pos h]; rfl
  · rw [if_pos h, if_neg (show ¬ (itemAt xs i).f0 = 1 from by omega), if_neg (show ¬ (itemAt xs i).f0 = 5 from by omega), if_pos h]; rfl
  · rw [if_neg (show ¬ (itemAt xs i).f0 = 2 from by omega), if_neg (show ¬ (itemAt xs i).f0 = 5 from by omega), if_neg (show ¬ (itemAt xs i).f0 = 1 from by omega), if_neg (show ¬ (itemAt xs i).f0 = 5 from by omega), if_neg (show ¬ (itemAt xs i).f0 = 2 from by omega)]
    by_cases c : ff.getD i false = true
    · rw [if_pos c, if_pos c]; rfl
    · rw [if_neg c, if_neg c]; rfl
  · rw [if_neg (show ¬ (itemAt xs i).f0 = 2 from by omega), if_neg (show ¬ (itemAt xs i).f0 = 5 from by omega), if_neg (show ¬ (itemAt xs i).f0 = 1 from by omega), if_neg (show ¬ (itemAt xs i).f0 = 5 from by omega), if_neg (show ¬ (itemAt xs i).f0 = 2 from by omega)]
    by_cases c : ff.getD i false = true
    · rw [if_pos c, if_pos c]; rfl
    · rw [if_neg c, if_neg c]; rfl
  · rw [if_neg (show ¬ (itemAt xs i).f0 = 2 from by omega), if_pos h, if_neg (show ¬ (itemAt xs i).f0 = 1 from by omega), if_pos h]
theorem addr_out {xs : List S41} (hR : AllR xs) {ff : List Bool} (hF : Ended xs ff) : ∀ i : Nat, i ≤ xs.length → addr xs ff i = 4 * ((outM xs ff i).length : Int)
  | 0, _ => rfl
  | i + 1, h => by
    rw [addr, addr_out hR hF i (by omega), size_insts hR hF i (by omega), outM_step]
    omega
theorem far_f5 (k : Nat) (hk : 60 ≤ k) (e : S39) (h : rightS e = true) (h3 : e.f0 = 3) (h0 : e.f1 = 0) : rushlightlaw05_far.f k (wordS e) = some true := by
  unfold rushlightlaw05_far.f
  rw [decode_w k (by omega) e h, Option.bind_some]
  dsimp only
  rw [if_pos rfl, if_pos h3, h0]
  rfl
theorem j3_go (k : Nat) (xs : List S41) (W m : List Int) (a i f0 f1 f2 f3 f4 f5 f6 : Int) (h5 : f0 ≠ 5) (ha : 0 ≤ a ∧ a < 1000000) (hi : 0 ≤ i ∧ i < 1000000) :
    rushlightlaw05_AsmLeads.j3 (k + 1) xs W m a i false f0 f1 f2 f3 f4 f5 f6 = rushlightlaw05_AsmLeads.l0 k xs W m (a + 1) (i + 1) := by
  rw [rushlightlaw05_AsmLeads.j3, if_neg (by decide), if_neg h5, w64 (by omega), w64 (by omega)]
theorem j3_const (k : Nat) (hk : 30 ≤ k) (xs : List S41) (W m : List Int) (a i f1 f2 f3 f4 f5 f6 : Int) (hz : -9223372036854775808 ≤ f5 ∧ f5 ≤ 9223372036854775807) (ha : 0 ≤ a ∧ a < 1000000) (hi : 0 ≤ i ∧ i < 1000000) :
    rushlightlaw05_AsmLeads.j3 (k + 1) xs W m a i false 5 f1 f2 f3 f4 f5 f6 = rushlightlaw05_AsmLeads.l0 k xs W m (a + ((constsM f2 (f5 % 4294967296)).length : Int)) (i + 1) := by
  obtain ⟨y, rfl⟩ : ∃ y, k = y + 30 := ⟨k - 30, by omega⟩
  have hl := constsM_len f2 (f5 % 4294967296)
  rw [rushlightlaw05_AsmLeads.j3, if_neg (by decide), if_pos rfl, number_ref y _ _ hz, Option.bind_some, List.length_map, w64 (n := a + 1) (by omega), w64 (n := i + 1) (by omega), w64 (n := a + 1 + 1) (by omega)]
  by_cases c : ((constsM f2 (f5 % 4294967296)).length : Int) = 2
  · rw [if_pos c, c, show a + 1 + 1 = a + 2 from by omega]
  · rw [if_neg c, show ((constsM f2 (f5 % 4294967296)).length : Int) = 1 from by omega]
theorem j2_other (k : Nat) (xs : List S41) (W m : List Int) (a i e fr f0 f1 f2 f3 f4 f5 f6 g0 g1 g2 g3 g4 : Int) (h3 : f0 ≠ 3) (h4 : f0 ≠ 4) :
    rushlightlaw05_AsmLeads.j2 (k + 1) xs W m a i e fr f0 f1 f2 f3 f4 f5 f6 g0 g1 g2 g3 g4 = rushlightlaw05_AsmLeads.j3 k xs W m a i false f0 f1 f2 f3 f4 f5 f6 := by
  rw [rushlightlaw05_AsmLeads.j2, if_neg h3, if_neg h4]
theorem j2_way (k : Nat) (xs : List S41) (W m : List Int) (a i fr f0 f1 f2 f3 f4 f5 f6 g0 g1 g2 g3 g4 : Int) (h3 : f0 = 3 ∨ f0 = 4) (h6 : 0 ≤ f6 ∧ f6 < (m.length : Int)) (hg : fr + g4 = rd m f6) (hb : -100000000 ≤ fr + g4 ∧ fr + g4 ≤ 100000000) :
    rushlightlaw05_AsmLeads.j2 (k + 1) xs W m a i 0 fr f0 f1 f2 f3 f4 f5 f6 g0 g1 g2 g3 g4 = rushlightlaw05_AsmLeads.j3 k xs W m a i false f0 f1 f2 f3 f4 f5 f6 := by
  have hne : ((wrap64 (fr + g4)) != (rd m f6)) = false := by
    rw [w64 (by omega), hg]; simp
  have q1 : ¬ f6 ≥ (m.length : Int) := by omega
  rw [rushlightlaw05_AsmLeads.j2]
  rcases h3 with h | h
  · rw [if_pos h, if_pos rfl, if_neg q1, if_pos h6.1, if_pos h6.2, hne]
  · rw [if_neg (show ¬ f0 = 3 from by omega), if_pos h, if_pos rfl, if_neg q1, if_pos h6.1, if_pos h6.2, hne]
theorem j1_false (k : Nat) (xs : List S41) (W m : List Int) (a i e fr f0 f1 f2 f3 f4 f5 f6 g0 g1 g2 g3 g4 : Int) :
    rushlightlaw05_AsmLeads.j1 (k + 1) xs W m a i e fr false f0 f1 f2 f3 f4 f5 f6 g0 g1 g2 g3 g4 = rushlightlaw05_AsmLeads.j2 k xs W m a i e fr f0 f1 f2 f3 f4 f5 f6 g0 g1 g2 g3 g4 := by
  rw [rushlightlaw05_AsmLeads.j1, if_neg (by decide)]
theorem j1_true (k : Nat) (hk : 50 ≤ k) (xs : List S41) (W m : List Int) (a i e fr f0 f1 f2 f3 f4 f5 f6 g0 g1 g2 g3 g4 : Int) (ha : 0 ≤ a ∧ a + 1 < (W.length : Int)) (hW : W.length < 1000000) (hfr : 0 ≤ fr ∧ fr < 10000000) (x : S39) (hx : rightS x = true) (hw : rd W (a + 1) = wordS x) :
    rushlightlaw05_AsmLeads.j1 (k + 1) xs W m a i e fr true f0 f1 f2 f3 f4 f5 f6 g0 g1 g2 g3 g4 = rushlightlaw05_AsmLeads.j2 k xs W m (a + 1) i 0 (fr + 4) f0 f1 f2 f3 f4 f5 f6 x.f0 x.f1 x.f2 x.f3 x.f4 := by
  rw [rushlightlaw05_AsmLeads.j1, if_pos rfl, w64 (n := a + 1) (by omega), if_pos (by omega), if_pos ha.2, hw, decode_w k hk x hx, Option.bind_some, w64 (n := fr + 4) (by omega)]
theorem contM_other {op : Int} (h : 5 ≤ op ∧ op ≤ 10) : op ≠ contM op := by
  unfold contM
  rw [if_pos h]
  split <;> omega
theorem br_op {x : S41} (h : rightX x = true) (h3 : x.f0 = 3) : 5 ≤ x.f1.f0 ∧ x.f1.f0 ≤ 10 := by
  unfold rightX rightI at h
  rw [if_neg (by omega), if_neg (by omega)] at h
  by_cases hl : x.f2 < 0 ∨ x.f2 > 4095
  · rw [if_pos hl] at h; cases h
  rw [if_neg hl, if_neg (by omega), if_pos h3] at h
  simp only [Bool.and_eq_true, decide_eq_true_eq] at h
  omega
theorem l0_word (k : Nat) (hk : 60 ≤ k) (xs : List S41) (W m : List Int) (a i : Nat) (hi : i < xs.length) (ha : a < W.length) (hW : W.length < 1000000) (x : S41) (hx : itemAt xs i = x) (h2 : x.f0 ≠ 2) (e : S39) (he : rightS e = true) (hw : rd W (a : Int) = wordS e)
    (hn : x.f0 = 3 → e.f0 ≠ contM x.f1.f0) :
    rushlightlaw05_AsmLeads.l0 (k + 2) xs W m a i = rushlightlaw05_AsmLeads.j2 k xs W m a i 0 (4 * (a : Int)) x.f0 x.f1.f0 x.f1.f1 x.f1.f2 x.f1.f3 x.f1.f4 x.f2 e.f0 e.f1 e.f2 e.f3 e.f4 := by
  rw [rushlightlaw05_AsmLeads.l0, if_pos (by omega), if_pos (by omega), rd_item, hx, if_neg h2, if_neg (by omega), if_pos (by omega), if_pos (by omega), hw, decode_w (k + 1) (by omega) e he, Option.bind_some]
  dsimp only
  rw [if_pos rfl, w64 (n := 4 * (a : Int)) (by omega), j1_false]
  by_cases h3 : x.f0 = 3
  · rw [if_pos h3, contrary_f, Option.bind_some, if_neg (hn h3)]
  · rw [if_neg h3]
theorem l0_far (k : Nat) (hk : 60 ≤ k) (xs : List S41) (W m : List Int) (a i : Nat) (hi : i < xs.length) (ha : a + 1 < W.length) (hW : W.length < 1000000) (x : S41) (hx : itemAt xs i = x) (h3 : x.f0 = 3) (e : S39) (he : rightS e = true) (hw : rd W (a : Int) = wordS e)
    (hc : e.f0 = contM x.f1.f0) (h8 : e.f4 = 8) (g : S39) (hg : rightS g = true) (hw2 : rd W ((a : Int) + 1) = wordS g) (hg3 : g.f0 = 3) (hg0 : g.f1 = 0) :
    rushlightlaw05_AsmLeads.l0 (k + 2) xs W m a i = rushlightlaw05_AsmLeads.j2 k xs W m ((a : Int) + 1) i 0 (4 * (a : Int) + 4) x.f0 x.f1.f0 x.f1.f1 x.f1.f2 x.f1.f3 x.f1.f4 x.f2 g.f0 g.f1 g.f2 g.f3 g.f4 := by
  rw [rushlightlaw05_AsmLeads.l0, if_pos (by omega), if_pos (by omega), rd_item, hx, if_neg (by omega), if_neg (by omega), if_pos (by omega), if_pos (by omega), hw, decode_w (k + 1) (by omega) e he, Option.bind_some]
  dsimp only
  rw [if_pos rfl, w64 (n := 4 * (a : Int)) (by omega), w64 (n := (a : Int) + 1) (by omega), if_pos h3, contrary_f, Option.bind_some, if_pos hc, if_pos h8, if_pos (by omega), if_pos (by omega), hw2, far_f5 (k + 1) (by omega) g hg hg3 hg0, Option.bind_some,
    j1_true k (by omega) xs W m a i 0 (4 * (a : Int)) _ _ _ _ _ _ _ _ _ _ _ _ (by omega) hW (by omega) g hg hw2]
theorem l0_label (k : Nat) (xs : List S41) (W m : List Int) (a i : Nat) (hi : i < xs.length) (hsmall : xs.length < 1000000) (ha : a < 1000000) (x : S41) (hx : itemAt xs i = x) (h2 : x.f0 = 2) (hl : 0 ≤ x.f2 ∧ x.f2 < (m.length : Int)) (hm : rd m x.f2 = 4 * (a : Int)) :
    rushlightlaw05_AsmLeads.l0 (k + 1) xs W m a i = rushlightlaw05_AsmLeads.l0 k xs W m a ((i + 1 : Nat) : Int) := by
  rw [rushlightlaw05_AsmLeads.l0, if_pos (by omega), if_pos (by omega), rd_item, hx, if_pos h2, if_neg (by omega), if_pos (by omega), if_pos (by omega), w64 (n := 4 * (a : Int)) (by omega), if_pos hm, w64 (n := (i : Int) + 1) (by omega)]
  rfl
theorem rd_labs {xs : List S41} {M : Nat} (ff : List Bool) (l : Int) (s : Nat) (hl : 0 ≤ l ∧ l < (M : Int)) (hs : standsM xs l = (s : Int)) : rd (labsM xs ff M) l = addr xs ff s := by
  unfold rd
  have e : ((l.toNat : Nat) : Int) = l := by omega
  rw [labsM_get _ _ _ _ (by omega), e, hs, if_pos (by omega), Int.toNat_natCast]
theorem leads {xs : List S41} {M : Nat} (hn : xs.length ≤ 2000) (hO : Okay xs M) (hR : AllR xs) (hw : wf64 xs) {ff : List Bool} (hF : Ended xs ff) (hA : OkAll xs ff 0) : ∀ (d k i : Nat), i + d = xs.length → 4 * d + 100 < k →
    rushlightlaw05_AsmLeads.l0 k xs (outM xs ff xs.length) (labsM xs ff M) ((outM xs ff i).length : Int) (i : Int) = some true
  | 0, k, i, h, hk => by
    obtain ⟨k, rfl⟩ : ∃ k', k = k' + 1 := ⟨k - 1, by omega⟩
    have e : i = xs.length := by omega
    subst e
    rw [rushlightlaw05_AsmLeads.l0, if_neg (by omega), awake_ge _ (by omega), Option.bind_some, if_pos rfl]
    simp
  | d + 1, k, i, h, hk => by
    have hi : i < xs.length := by omega
    have hin : ∀ e ∈ instsM xs ff i, rightS e = true := ok_true hO hR hF i hi (hA i (Nat.zero_le _) hi)
    have hAi := addr_out hR hF i (by omega)
    have hlen := outM_len xs ff xs.length
    have hup := outM_up xs ff (i + 1) xs.length (by omega)
    have hst := outM_step xs ff i
    have IH := leads hn hO hR hw hF hA d (k - 4) (i + 1) (by omega) (by omega)
    have hML : (labsM xs ff M).length = M := labsM_len xs ff M
    generalize hW : outM xs ff xs.length = W at *
    generalize hm : labsM xs ff M = m at *
    have wat : ∀ (L : List S39) (hL : instsM xs ff i = L) (j : Nat) (hj : j < L.length), rd W (((outM xs ff i).length + j : Nat) : Int) = wordS L[j] := by
      intro L hL j hj
      rw [← hW]
      exact word_at xs ff i xs.length hi L hL j hj
    have lat : ∀ (l : Int) (s : Nat), 0 ≤ l ∧ l < (M : Int) → standsM xs l = (s : Int) → rd m l = addr xs ff s := by
      intro l s h1 h2
      rw [← hm]
      exact rd_labs ff l s h1 h2
    have hsm := hO.small
    obtain ⟨k, rfl⟩ : ∃ k', k = k' + 4 := ⟨k - 4, by omega⟩
    rw [show k + 4 - 4 = k from by omega] at IH
    have hwx := hw i hi
    by_cases h2 : (itemAt xs i).f0 = 2
    · have hs := stand_at hO hi (⟨h2, rfl⟩ : labAt xs (itemAt xs i).f2 i)
      have hl := hO.lab i hi h2
      have hz : instsM xs ff i = [] := by
        unfold instsM
        rw [if_neg (by omega), if_neg (by omega), if_pos h2]
      rw [hz, List.length_nil, Nat.add_zero] at hst
      have IH2 := leads hn hO hR hw hF hA d (k + 3) (i + 1) (by omega) (by omega)
      rw [hst, hW, hm] at IH2
      rw [l0_label (k + 3) xs W m (outM xs ff i).length i hi hsm (by omega) _ rfl h2 (by rw [hML]; exact hl) (by rw [lat _ i hl hs, hAi])]
      exact IH2
    · have hL0 : 0 < (instsM xs ff i).length := by
        have := constsM_len (itemAt xs i).f1.f1 ((itemAt xs i).f1.f4 % 4294967296)
        unfold instsM
        rw [if_neg h2]
        split
        · simp
        · split
          · omega
          · split <;> simp
      have ways : (itemAt xs i).f0 = 3 ∨ (itemAt xs i).f0 = 4 → (0 ≤ (itemAt xs i).f2 ∧ (itemAt xs i).f2 < (m.length : Int)) ∧ rd m (itemAt xs i).f2 = addr xs ff i + wayM xs ff i ∧ -8000000 ≤ wayM xs ff i ∧ wayM xs ff i ≤ 8000000 := by
        intro hk3
        obtain ⟨q1, q2, q3⟩ := hO.ref i hi hk3
        obtain ⟨s, q4, _, q5⟩ := stand_lt q3
        have q6 := way_range hO ff i hi hk3
        refine ⟨by rw [hML]; exact ⟨q1, q2⟩, ?_, q6.1, q6.2.1⟩
        rw [lat _ s ⟨q1, q2⟩ q5]
        unfold wayM
        rw [q5, Int.toNat_natCast]
        omega
      have eqs : ∀ v : Nat, (outM xs ff i).length + v = (outM xs ff (i + 1)).length → ((outM xs ff i).length : Int) + (v : Int) = ((outM xs ff (i + 1)).length : Int) := by
        intro v hv
        omega
      by_cases h5 : (itemAt xs i).f0 = 5
      · have hz : instsM xs ff i = constsM (itemAt xs i).f1.f1 ((itemAt xs i).f1.f4 % 4294967296) := by
          unfold instsM
          rw [if_neg (by omega), if_pos h5]
        have w0 := wat _ rfl 0 hL0
        rw [Nat.add_zero] at w0
        rw [l0_word (k + 2) (by omega) xs W m (outM xs ff i).length i hi (by omega) (by omega) _ rfl h2 _ (hin _ (List.getElem_mem hL0)) w0 (by omega), j2_other (k + 1) _ _ _ _ _ _ _ _ _ _ _ _ _ _ _ _ _ _ _ (by omega) (by omega), h5,
          j3_const k (by omega) _ _ _ _ _ _ _ _ _ _ _ hwx (by omega) (by omega), ← hz, eqs _ hst.symm]
        exact IH
      · by_cases h1 : (itemAt xs i).f0 = 1
        · have hz : instsM xs ff i = [(itemAt xs i).f1] := by
            unfold instsM
            rw [if_pos h1]
          have w0 := wat _ rfl 0 hL0
          rw [Nat.add_zero] at w0
          rw [l0_word (k + 2) (by omega) xs W m (outM xs ff i).length i hi (by omega) (by omega) _ rfl h2 _ (hin _ (List.getElem_mem hL0)) w0 (by omega), j2_other (k + 1) _ _ _ _ _ _ _ _ _ _ _ _ _ _ _ _ _ _ _ (by omega) (by omega),
            j3_go k _ _ _ _ _ _ _ _ _ _ _ _ h5 (by omega) (by omega), show ((outM xs ff i).length : Int) + 1 = ((outM xs ff (i + 1)).length : Int) from by rw [hst, hz]; simp]
          exact IH
        · have h34 : (itemAt xs i).f0 = 3 ∨ (itemAt xs i).f0 = 4 := by
            rcases rightX_kind (hR i hi) with c | c | c | c | c
            · exact absurd c h1
            · exact absurd c h2
            · exact .inl c
            · exact .inr c
            · exact absurd c h5
          obtain ⟨y1, y2, y3, y4⟩ := ways h34
          by_cases hf : ff.getD i false = true
          · have h3 := hF.br i hf
            have hz : instsM xs ff i = [⟨contM (itemAt xs i).f1.f0, (itemAt xs i).f1.f1, (itemAt xs i).f1.f2, (itemAt xs i).f1.f3, 8⟩, ⟨3, 0, 0, 0, wayM xs ff i - 4⟩] := by
              unfold instsM
              rw [if_neg h1, if_neg h5, if_neg h2, if_pos hf]
            have w0 := wat _ hz 0 (by simp)
            have w1 := wat _ hz 1 (by simp)
            rw [hz] at hst hin
            simp only [List.length_cons, List.length_nil, List.getElem_cons_zero, List.getElem_cons_succ, Nat.add_zero, Nat.zero_add, Int.natCast_add, Int.natCast_one] at hst w0 w1
            have g0 := hin _ (List.mem_cons_self ..)
            have g1 := hin _ (List.mem_cons_of_mem _ (List.mem_cons_self ..))
            rw [l0_far (k + 2) (by omega) xs W m (outM xs ff i).length i hi (by omega) (by omega) _ rfl h3 _ g0 w0 rfl rfl _ g1 w1 rfl rfl]
            dsimp only
            rw [j2_way (k + 1) _ _ _ _ _ _ _ _ _ _ _ _ _ _ _ _ _ _ h34 y1 (by rw [y2, hAi]; omega) (by omega), j3_go k _ _ _ _ _ _ _ _ _ _ _ _ h5 (by omega) (by omega), show ((outM xs ff i).length : Int) + 1 + 1 = ((outM xs ff (i + 1)).length : Int) from by omega]
            exact IH
          · have hz : instsM xs ff i = [⟨(itemAt xs i).f1.f0, (itemAt xs i).f1.f1, (itemAt xs i).f1.f2, (itemAt xs i).f1.f3, wayM xs ff i⟩] := by
              unfold instsM
              rw [if_neg h1, if_neg h5, if_neg h2, if_neg hf]
            have w0 := wat _ hz 0 (by simp)
            rw [hz] at hst hin
            simp only [List.length_cons, List.length_nil, List.getElem_cons_zero, Nat.add_zero, Nat.zero_add] at hst w0
            have g0 := hin _ (List.mem_cons_self ..)
            rw [l0_word (k + 2) (by omega) xs W m (outM xs ff i).length i hi (by omega) (by omega) _ rfl h2 _ g0 w0 (fun h3 => contM_other (br_op (hR i hi) h3))]
            dsimp only
            rw [j2_way (k + 1) _ _ _ _ _ _ _ _ _ _ _ _ _ _ _ _ _ _ h34 y1 (by rw [y2, hAi]) (by omega), j3_go k _ _ _ _ _ _ _ _ _ _ _ _ h5 (by omega) (by omega), show ((outM xs ff i).length : Int) + 1 = ((outM xs ff (i + 1)).length : Int) from by omega]
            exact IH
theorem AsmLeads (l : List S41) (hw : ∀ x ∈ l, wfI x) (a n : Int) (k : Nat) (hk : 30000000 ≤ k) : rushlightlaw05_AsmLeads.f k l a n = some true := by
  unfold rushlightlaw05_AsmLeads.f
  by_cases h : (l.length : Int) > 60
  · rw [if_pos h, awake_ge _ (by omega), Option.bind_some]
  rw [if_neg h]
  obtain ⟨p, hp1, hp2, hp3⟩ := padded_l0 l (by omega) hw a n 1100 1200 rfl rfl l.length k 0 [] (by omega) (by omega) (by simp) (by simp)
  have hp : rushlightlaw05_Padded.f k l a n = some p := hp1
  obtain ⟨⟨w, m, e⟩, h1, h2⟩ := made p (by omega) k (by omega)
  rw [hp, Option.bind_some, h1, Option.bind_some]
  dsimp only at h2 ⊢
  rcases h2 with h2 | ⟨ff, M, hO, hR, hF, hA, hM, h3⟩
  · rw [if_neg h2, awake_ge _ (by omega), Option.bind_some]
  · obtain ⟨rfl, rfl, rfl⟩ : w = outM p ff p.length ∧ m = labsM p ff M ∧ e = 0 := by
      refine ⟨congrArg (·.1) h3, congrArg (·.2.1) h3, congrArg (·.2.2) h3⟩
    rw [if_pos rfl]
    exact leads (by omega) hO hR (wf64_of hp2) hF hA p.length k 0 (by omega) (by omega)
end Go.Proofs.Ytecbponmpinnoaa.Pure
end
