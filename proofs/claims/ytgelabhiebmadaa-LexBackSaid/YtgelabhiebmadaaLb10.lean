/- A claim's text, put together by a program of this session (wip/tools/shake.py): the declarations that the claim needs. -/
import Derived.Test.YtgelabhiebmadaaLb0
import Derived.Test.YtgelabhiebmadaaLb1
import Derived.Test.YtgelabhiebmadaaLb2
import Derived.Test.YtgelabhiebmadaaLb3
import Derived.Test.YtgelabhiebmadaaLb4
import Derived.Test.YtgelabhiebmadaaLb5
import Derived.Test.YtgelabhiebmadaaLb6
import Derived.Test.YtgelabhiebmadaaLb7
import Derived.Test.YtgelabhiebmadaaLb8
import Derived.Test.YtgelabhiebmadaaLb9
import Derived.Test.YtgelabhiebmadaaProg
import Derived.Below
import Derived.Deep.Draws
import Derived.Deep.AppendLies
import Derived.Maps.AppendAt
import Derived.OwnWalk
import Derived.Laws.BytesArg
import Derived.Laws.MakeOwn
import Derived.Laws.OwnMore
import Derived.Deep.OwnRows
import Derived.Tactics
import Derived.Lib.ConvBytes
import Derived.Laws.Slices
import Derived.WalkKit
import Derived.KernelRfl
import Derived.RowKit3
import Derived.Deep.LoopGhost
import Derived.Deep.QuietTactic
import Derived.BigQuiet
import Derived.WideLaws
import Derived.Deep.DeepCutAuto
import Derived.Deep.CutBlock
import Derived.Deep.RegionHeld3
import Derived.Laws.Rows
import Derived.Lib.AppendStr
import Derived.ArgAppend
import Derived.Laws.IdiomCopy
import Derived.OrdersHeld
import Derived.Laws.BitsLemmas
import Derived.RowKit
import Derived.Deep.WholeRow
import Derived.Outline
import Derived.WalkMore
import Derived.ScopeJumps
import Derived.Deep.DeepFit
import Derived.Carry
import Derived.WalkArith
import Derived.RegionTactic
import Derived.ChangeAlike
import Derived.Shelf.Strings.Builder1
import Derived.Shelf.Strings.Builder2
import Derived.Shelf.Strings.OnBuilder
import Derived.Shelf.Strings.Search1
import Derived.Shelf.Strings.Search2
import Derived.Shelf.Strings.Search3
import Derived.Shelf.LaysM
import Derived.Shelf.Strings.Shaped
import Derived.Laws.StructEq
set_option linter.unusedVariables false
set_option linter.unusedSimpArgs false
section
namespace Go.Proofs.Ytgelabhiebmadaa.P
open Go.RowKit Go.Proofs.YtgelabhiebmadaaW.PrintWords Go.Proofs.YtgelabhiebmadaaW.PrintLast Go.Proofs.YtgelabhiebmadaaW.PrintMore
attribute [local go_sem] max2_int min2_int max_two min_two max_three min_three max_four min_four   
set_option linter.unusedVariables false
set_option linter.unusedSimpArgs false
attribute [local go_sem high] eqA26
def strings_Join.f (a0 : List ByteArray) (a1 : ByteArray) : Option ByteArray := if a0.length ≤ 140737488355328 ∧ (Lib.join (a0.map (·.data.toList)) a1.data.toList).length ≤ 140737488355328 then some ⟨(Lib.join (a0.map (·.data.toList)) a1.data.toList).toArray⟩ else none
theorem spot_none {w : World} {ad : Addr} {v : Value} (h : w.cell? ad = some v) : ad = ⟨ad.block, ad.off, none⟩ ∧ ad.block < w.heap.size := by
  refine ⟨?_, World.block_lt_of_cell? w ad h⟩
  obtain ⟨b, o, s⟩ := ad
  unfold World.cell? at h
  cases s with
  | none => rfl
  | some n =>
    dsimp only at h
    split at h <;> simp at h
theorem strings_Join.calls (A0 : Option Addr) (c0 : Nat) (l0 : List (ByteArray)) (a1 : ByteArray) (r : ByteArray) (w : World) (hr0 : Kd.C Kd.string w A0 l0.length l0) (hc0 : l0.length ≤ c0) (h : strings_Join.f l0 a1 = some r) : Calls Try.prog 20 #[.slice A0 l0.length c0, .string a1] w fun e w' => e = .returned (.string r) ∧ Below w.heap.size w w' := by
  unfold strings_Join.f at h
  by_cases hs : l0.length ≤ 140737488355328 ∧ (Lib.join (l0.map (·.data.toList)) a1.data.toList).length ≤ 140737488355328
  case neg => rw [if_neg hs] at h; cases h
  rw [if_pos hs] at h
  obtain rfl := Option.some.inj h
  by_cases hl : l0 = []
  · subst hl
    refine (Try.strings_Join_none A0 c0 a1 w).mono ?_
    rintro e w' ⟨rfl, rfl⟩
    exact ⟨rfl, Below.refl _ _⟩
  · have hp : 0 < l0.length := List.length_pos_iff.mpr hl
    obtain ⟨ad, rfl, hc⟩ := Kd.at_string hr0 0 (by omega) (by omega)
    obtain ⟨hsp, hlt⟩ := spot_none (show w.cell? ad = _ from hc)
    rw [hsp]
    refine Try.strings_Join ad.block ad.off c0 l0 a1 w ?_ hlt hs.1 hc0 hs.2
    intro j x hj
    have hjl : j < l0.length := (List.getElem?_eq_some_iff.1 hj).1
    obtain ⟨ad', e', hc'⟩ := Kd.at_string hr0 (j : Int) (by omega) (by omega)
    cases e'
    rw [Int.toNat_natCast, hsp, add_at] at hc'
    rw [hc']
    simp [rdOf, List.getD, hj]
def lex_Text.l0 : Nat → List ByteArray → List (S33) → Int → Int → Option (ByteArray)
  | 0, _, _, _, _ => none
  | k + 1, x3, x6, x7, x8 => if x8 < x7 then (if 0 ≤ x8 then (if x8 < (x6.length : Int) then (if x3.length < 8796093022208 then (lex_Text.l0 k (x3 ++ [(rd_T33 x6 x8).f1]) x6 x7 (wrap64 (x8 + 1))) else (none)) else (none)) else (none)) else ((strings_Join.f x3 (⟨#[32]⟩ : ByteArray)).bind fun t222 => (some t222))
def lex_Text.f (k : Nat) (l0 : List (S33)) : Option (ByteArray) := lex_Text.l0 k ([] : List ByteArray) l0 (l0.length : Int) 0
set_option maxHeartbeats 8000000 in
set_option maxRecDepth 100000 in
theorem lex_Text.calls (k : Nat) (A0 : Option Addr) (c0 : Nat) (l0 : List (S33)) (r : ByteArray) (w : World) (hr0 : Kd.C k33 w A0 l0.length l0) (hc0 : l0.length ≤ c0) (h : lex_Text.f k l0 = some r) :
    Calls Try.prog 13 #[.slice A0 l0.length c0] w fun e w' => e = .returned (.string r) ∧ Below w.heap.size w w' := by
  have hu33 := Try.underlying33
  have HR0 := Aside0.mk hr0
  have HC0 := Aside0.mk hc0
  clear hr0 hc0
  have HB := Aside0.mk (Below.refl w.heap.size w)
  have H : (lex_Text.l0 k ([] : List ByteArray) l0 (l0.length : Int) 0) = some r := h
  clear h
  have H' := Aside0.mk H
  clear H
  go_enter Try.func13, Try.ntmps13
  go_wp2
  go_loopg [3, 8] k (fun kq v3 v8 w' => ∃ (x3_1 : List ByteArray) (x8_1 : Int), v8 = .int .i64 x8_1 ∧ Aside0 (lex_Text.l0 kq x3_1 l0 (l0.length : Int) x8_1 = some r) ∧ Aside0 (kq ≤ k) ∧ Aside0 (Kd.R Kd.string 9 w' w.heap.size (fun _ => True) v3 x3_1) ∧ Aside0 (Below w.heap.size w w'))
  case atStart => exact ⟨(([] : List ByteArray)), (0), (by first | rfl | (simp; done) | (simp [*]; done)), H', ⟨Nat.le_refl _⟩, ⟨by first | exact Kd.R_nil _ _ _ _ _ | exact Kd.N_nil _ _ _ _ _ | exact Kd.V_nil _ _ _ _ _ | exact Kd.Q_nil _ _ _ _ _ | exact Kd.S_nil _ _ _ _ _⟩, ⟨by repeat (first | (with_reducible first | exact HB.out | apply below_alloc | apply pw_below_drewN | apply below_drew1) | exact HB.out)⟩⟩
  case round =>
    clear H'
    try clear c1
    obtain ⟨x3_1, x8_1, rfl, HA, HK1, HO_3, HB⟩ := hrel
    cases gk with
    | zero => exact absurd HA.out (by simp [lex_Text.l0])
    | succ k1 =>
      have H := HA.out
      clear HA
      simp only [lex_Text.l0] at H
      by_cases c2 : x8_1 < (l0.length : Int)
      · rw [if_pos c2] at H
        have c2b0 : decide (x8_1 < (l0.length : Int)) = true := decide_eq_true c2
        clear c2
        by_cases c3 : 0 ≤ x8_1
        · rw [if_pos c3] at H
          have c3b0 : decide (0 ≤ x8_1) = true := decide_eq_true c3
          clear c3
          by_cases c4 : x8_1 < (l0.length : Int)
          · rw [if_pos c4] at H
            have c4b0 : decide (x8_1 < (l0.length : Int)) = true := decide_eq_true c4
            clear c4
            by_cases c5 : x3_1.length < 8796093022208
            · rw [if_pos c5] at H
              have LMc5 := Aside0.mk c5
              clear c5
              obtain ⟨y219, hy219⟩ : ∃ y_ : List ByteArray, y_ = (x3_1 ++ [(rd_T33 l0 x8_1).f1]) := ⟨_, rfl⟩
              replace H : (lex_Text.l0 k1 y219 l0 (l0.length : Int) (wrap64 (x8_1 + 1))) = some r := by first | (rw [hy219]; with_reducible exact H) | (have H2_ := (Option.bind_some _ _).symm.trans H; rw [hy219]; with_reducible exact H2_) | (have H2_ := (Option.bind_some _ _).symm.trans H; with_reducible exact H2_) | with_reducible exact H | (rw [hy219]; exact H) | exact H
              have Ny219 := Aside0.mk hy219
              clear hy219
              have H' := Aside0.mk H
              clear H
              have p217 : 0 ≤ (x8_1 : Int) := of_decide_eq_true (by first | (with_reducible assumption) | assumption)
              have q217 : x8_1 < (l0.length : Int) := of_decide_eq_true (by first | (with_reducible assumption) | assumption)
              obtain ⟨ad217, e217, hx217_0, hx217_1, hx217_2, hx217_3, hx217_4⟩ := at_T33 HR0.out x8_1 p217 q217
              cases e217
              replace hx217_0 := (HB.out.cell (World.block_lt_of_cell? w _ hx217_0)).trans hx217_0
              replace hx217_1 := (HB.out.cell (World.block_lt_of_cell? w _ hx217_1)).trans hx217_1
              replace hx217_2 := (HB.out.cell (World.block_lt_of_cell? w _ hx217_2)).trans hx217_2
              replace hx217_3 := (HB.out.cell (World.block_lt_of_cell? w _ hx217_3)).trans hx217_3
              replace hx217_4 := (HB.out.cell (World.block_lt_of_cell? w _ hx217_4)).trans hx217_4
              replace p217 := eq_true p217
              replace q217 := eq_true q217
              go_wp2_with (first | ((with_reducible refine gate_dst (N := 5) rfl ?_); refine box_event ?hg (N := 5) ?hd (cs := #[.int .i64 0, .string (⟨#[]⟩ : ByteArray), .int .u32 0, .int .i64 0, .int .i64 0]) (t := 33) ?hr ?_; (case hd => rfl); (case hg => rfl); (case hr => first | (go_simp; done) | (go_simp; rfl)); intro gb218 hg w6 hbox hb; have n0_ := Aside0.mk (Kd.R_below (by (with_reducible repeat (first | apply Kd.R_alloc | apply Kd.R_drewN | apply Kd.R_drew)); exact HO_3.out) hb); have n1_ := Aside0.mk (below_step (by repeat (first | (with_reducible first | exact HB.out | apply below_alloc | apply pw_below_drewN | apply below_drew1) | exact HB.out)) hb); have n2_ := Aside0.mk (hbox); have n3_ := Aside0.mk ((by rw [hg]; exact (below_size (by repeat (first | (with_reducible first | exact HB.out | apply below_alloc | apply pw_below_drewN | apply below_drew1) | exact HB.out))) : w.heap.size ≤ gb218)); have n4_ := Aside0.mk ((by rw [hg]; exact (below_size (by repeat (first | (with_reducible first | exact HB.out | apply below_alloc | apply pw_below_drewN | apply below_drew1) | exact HB.out))) : w.heap.size ≤ gb218)); clear HO_3; clear HB; have HO_3 := n0_; have HB := n1_; have BK218 := n2_; have GW218 := n3_; have GE218 := n4_; clear n0_ n1_ n2_ n3_ n4_; clear hb hbox hg; have hcz7_0 : w6.cell? ⟨gb218, 0, none⟩ = some (.int .i64 0) := (blk_cell BK218.out 0).trans rfl; have hcz7_1 : w6.cell? ⟨gb218, 1, none⟩ = some (.string (⟨#[]⟩ : ByteArray)) := (blk_cell BK218.out 1).trans rfl; have hcz7_2 : w6.cell? ⟨gb218, 2, none⟩ = some (.int .u32 0) := (blk_cell BK218.out 2).trans rfl; have hcz7_3 : w6.cell? ⟨gb218, 3, none⟩ = some (.int .i64 0) := (blk_cell BK218.out 3).trans rfl; have hcz7_4 : w6.cell? ⟨gb218, 4, none⟩ = some (.int .i64 0) := (blk_cell BK218.out 4).trans rfl; have hfz7_0 := blk_frozen BK218.out 0; have hfz7_1 := blk_frozen BK218.out 1; have hfz7_2 := blk_frozen BK218.out 2; have hfz7_3 := blk_frozen BK218.out 3; have hfz7_4 := blk_frozen BK218.out 4) | ((with_reducible refine gate_builtin (b := .append) (xs := #[.tmp 12, .tmp 15]) rfl ?_); at_builtin; refine Kd.R_append Kd.string (w0 := w) w.heap.size rfl (.tmp 12) (.tmp 15) 30 9 (.string ⟨#[]⟩) 16 rfl Try.underlying30 info9 rfl (by decide) (by omega) u3 x3_1 ((rd_T33 l0 x8_1).f1) [.string ((rd_T33 l0 x8_1).f1)] (fun _ => True) (fun _ => False) rfl (by first | (go_simp; done) | (go_simp; rfl)) ?aP (fun _ hk => hk.elim) ?aF ?aO ?aB ?aS ?aL ?_; (case aP => exact rfl); (case aB => exact (by repeat (first | (with_reducible first | exact HB.out | apply below_alloc | apply pw_below_drewN | apply below_drew1 | refine below_set ?_ GE218.out) | exact HB.out))); (case aF => exact (fun _ _ => trivial)); (case aO => exact (by (with_reducible repeat (first | apply Kd.R_alloc | apply Kd.R_drewN | apply Kd.R_drew)); exact Kd.R_mono (Kd.R_far (p := ⟨gb218, 4, none⟩) (Kd.R_far (p := ⟨gb218, 3, none⟩) (Kd.R_far (p := ⟨gb218, 2, none⟩) (Kd.R_far (p := ⟨gb218, 1, none⟩) (Kd.R_far (p := ⟨gb218, 0, none⟩) (Kd.R_types HO_3.out BK218.out (by decide)) (fun _ hk => hk.2) (.int .i64 ((rd_T33 l0 x8_1).f0))) (fun _ hk => hk.2) (.string ((rd_T33 l0 x8_1).f1))) (fun _ hk => hk.2) (.int .u32 ((rd_T33 l0 x8_1).f2))) (fun _ hk => hk.2) (.int .i64 ((rd_T33 l0 x8_1).f3.f0))) (fun _ hk => hk.2) (.int .i64 ((rd_T33 l0 x8_1).f3.f1))) (fun _ hk => trivial))); (case aS => exact (below_size (by repeat (first | (with_reducible first | exact HB.out | apply below_alloc | apply pw_below_drewN | apply below_drew1 | refine below_set ?_ GE218.out) | exact HB.out)))); (case aL => have := LMc5.out; omega); intro v220 w8 ho hb hg hat; rw [← Ny219.out] at ho; have n0_ := Aside0.mk (blk_grown (g := gb218) (o := .cells #[.int .i64 ((rd_T33 l0 x8_1).f0), .string ((rd_T33 l0 x8_1).f1), .int .u32 ((rd_T33 l0 x8_1).f2), .int .i64 ((rd_T33 l0 x8_1).f3.f0), .int .i64 ((rd_T33 l0 x8_1).f3.f1)] 33 (0, 0)) (by (with_reducible repeat (first | refine blk_drewN ?_ _ | refine blk_drew ?_ | refine blk_alloc ?_ _)); refine blk_put (cs := #[.int .i64 ((rd_T33 l0 x8_1).f0), .string ((rd_T33 l0 x8_1).f1), .int .u32 ((rd_T33 l0 x8_1).f2), .int .i64 ((rd_T33 l0 x8_1).f3.f0), .int .i64 0]) ?_ 4 _ rfl; (with_reducible repeat (first | refine blk_drewN ?_ _ | refine blk_drew ?_ | refine blk_alloc ?_ _)); refine blk_put (cs := #[.int .i64 ((rd_T33 l0 x8_1).f0), .string ((rd_T33 l0 x8_1).f1), .int .u32 ((rd_T33 l0 x8_1).f2), .int .i64 0, .int .i64 0]) ?_ 3 _ rfl; (with_reducible repeat (first | refine blk_drewN ?_ _ | refine blk_drew ?_ | refine blk_alloc ?_ _)); refine blk_put (cs := #[.int .i64 ((rd_T33 l0 x8_1).f0), .string ((rd_T33 l0 x8_1).f1), .int .u32 0, .int .i64 0, .int .i64 0]) ?_ 2 _ rfl; (with_reducible repeat (first | refine blk_drewN ?_ _ | refine blk_drew ?_ | refine blk_alloc ?_ _)); refine blk_put (cs := #[.int .i64 ((rd_T33 l0 x8_1).f0), .string (⟨#[]⟩ : ByteArray), .int .u32 0, .int .i64 0, .int .i64 0]) ?_ 1 _ rfl; (with_reducible repeat (first | refine blk_drewN ?_ _ | refine blk_drew ?_ | refine blk_alloc ?_ _)); refine blk_put (cs := #[.int .i64 0, .string (⟨#[]⟩ : ByteArray), .int .u32 0, .int .i64 0, .int .i64 0]) ?_ 0 _ rfl; (with_reducible repeat (first | refine blk_drewN ?_ _ | refine blk_drew ?_ | refine blk_alloc ?_ _)); exact BK218.out) hg (Kd.R_ne HO_3.out BK218.out (by decide))); have n1_ := Aside0.mk (hb); have n2_ := Aside0.mk (ho); clear BK218; clear HB; clear HO_3; have BK218 := n0_; have HB := n1_; have HO221 := n2_; clear n0_ n1_ n2_; clear ho hb hg hat))
              go_roundg k1
              case measure => have := HK1.out; omega
              case rel => exact ⟨(y219), (wrap64 (x8_1 + 1)), (by first | rfl | (simp; done) | (simp [*]; done)), H', ⟨by have := HK1.out; omega⟩, ⟨by (with_reducible repeat (first | apply Kd.R_alloc | apply Kd.R_drewN | apply Kd.R_drew)); exact HO221.out⟩, ⟨by repeat (first | (with_reducible first | exact HB.out | apply below_alloc | apply pw_below_drewN | apply below_drew1 | refine below_set ?_ GE218.out) | exact HB.out)⟩⟩
            · rw [if_neg c5] at H
              exact absurd H (by simp)
          · rw [if_neg c4] at H
            exact absurd H (by simp)
        · rw [if_neg c3] at H
          exact absurd H (by simp)
      · rw [if_neg c2] at H
        have c2b0 : decide (x8_1 < (l0.length : Int)) = false := decide_eq_false c2
        clear c2
        replace H := Option.bind_eq_some_iff.mp H
        obtain ⟨t222, A90, H⟩ := H
        replace H : (some t222) = some r := H
        have A9 := Aside0.mk A90
        clear A90
        obtain rfl := Option.some.inj H
        obtain ⟨Ao10, co10, eo10⟩ := Kd.R_slice HO_3.out
        subst eo10
        go_wp2_with (first | ((with_reducible refine gate_callee (f := 20) rfl ?_); refine goesL_ (some 19) rfl rfl Try.func20 (by kernel_rfl) rfl #[.slice Ao10 x3_1.length co10, .string (⟨#[32]⟩ : ByteArray)] rfl (by (try simp only [List.map_toArray, List.map_cons, List.map_nil]); first | done | rfl | (simp only [List.length_drop, List.length_take]; rfl)) ?_; (with_reducible refine (strings_Join.calls _ _ x3_1 (⟨#[32]⟩ : ByteArray) t222 _ ?side1 ?side2 A9.out).mono ?_); (case side1 => repeat (first | exact (Kd.R_reads' HO_3.out).2.2 | (with_reducible refine Kd.C_alloc ?_ _) | (with_reducible refine Kd.C_drewN ?_ _) | (with_reducible refine Kd.C_drew ?_))); (case side2 => exact (Kd.R_reads' HO_3.out).2.1); rintro e w11 ⟨rfl, hb⟩; refine ⟨_, rfl, ?_⟩; have n0_ := Aside0.mk (Kd.R_below (by (with_reducible repeat (first | apply Kd.R_alloc | apply Kd.R_drewN | apply Kd.R_drew)); exact HO_3.out) hb); have n1_ := Aside0.mk (below_step (by repeat (first | (with_reducible first | exact HB.out | apply below_alloc | apply pw_below_drewN | apply below_drew1) | exact HB.out)) hb); clear HO_3; clear HB; have HO_3 := n0_; have HB := n1_; clear n0_ n1_; (try clear hb); (try clear hb2); (try clear hk); (try clear hi)))
        go_ret
        exact ⟨by first | rfl | (simp [errW_none, errW_some] <;> rfl) | (simp [*, errW_none, errW_some] <;> rfl), by repeat (first | (with_reducible first | exact HB.out | apply below_alloc | apply pw_below_drewN | apply below_drew1) | exact HB.out)⟩
mutual
def rushlightlaw07_LexBack.j0 : Nat → List (S33) → List (S33) → Bool → Option (Bool)
  | 0, _, _, _ => none
  | k + 1, x3, x7, x54 => if x54 = true then (some false) else (rushlightlaw07_LexBack.l0 k x3 x7 0 0)
def rushlightlaw07_LexBack.l0 : Nat → List (S33) → List (S33) → Int → Int → Option (Bool)
  | 0, _, _, _, _ => none
  | k + 1, x3, x7, x10, x11 => if x11 < (x7.length : Int) then (if 0 ≤ x11 then (if x11 < (x3.length : Int) then (if ((rd_T33 x7 x11).f0) = ((rd_T33 x3 x11).f0) then (if ((rd_T33 x7 x11).f1).toList = ((rd_T33 x3 x11).f1).toList then (if ((rd_T33 x7 x11).f2) = ((rd_T33 x3 x11).f2) then (if (!(((rd_T33 x7 x11).f3.f0) == 1) || (!(((rd_T33 x7 x11).f3.f1) == (wrap64 (x10 + 1))))) = true then (some false) else (rushlightlaw07_LexBack.l0 k x3 x7 (wrap64 ((wrap64 (x10 + (((rd_T33 x3 x11).f1).size : Int))) + 1)) (wrap64 (x11 + 1)))) else (some false)) else (some false)) else (some false)) else (none)) else (none)) else ((rushlightlaw07_awake.f k).bind fun t248 => (some t248))
end
def rushlightlaw07_LexBack.f (k : Nat) (a0 : ByteArray) : Option (Bool) := if (a0.size : Int) > 3000 then ((rushlightlaw07_awake.f k).bind fun t223 => (some t223)) else ((lex_Lex.f k a0).bind fun bt224 => (if bt224.2.2.2 = 0 then ((lex_Text.f k bt224.1).bind fun t232 => ((lex_Lex.f k t232).bind fun bt233 => (if bt233.2.2.2 = 0 then (if (bt233.1.length : Int) = (bt224.1.length : Int) then (rushlightlaw07_LexBack.j0 k bt224.1 bt233.1 (!(bt233.2.1 == 1) || (!(bt233.2.2.1 == (wrap64 ((t232.size : Int) + 1)))))) else (rushlightlaw07_LexBack.j0 k bt224.1 bt233.1 true)) else (rushlightlaw07_LexBack.j0 k bt224.1 bt233.1 true)))) else ((rushlightlaw07_awake.f k).bind fun t231 => (if t231 = true then (some ((bt224.1.length : Int) == 0)) else (some false)))))
set_option maxHeartbeats 8000000 in
set_option maxRecDepth 100000 in
theorem rushlightlaw07_LexBack.calls (k : Nat) (a0 : ByteArray) (r : Bool) (w : World) (hG : G0 w) (h : rushlightlaw07_LexBack.f k a0 = some r) :
    Calls Try.prog 6 #[.string a0] w fun e w' => e = .returned (.bool r) ∧ Below w.heap.size w w' := by
  have HG0 := Aside0.mk hG
  clear hG
  have hu26 := Try.underlying26
  have HB := Aside0.mk (Below.refl w.heap.size w)
  have H : (if (a0.size : Int) > 3000 then ((rushlightlaw07_awake.f k).bind fun t223 => (some t223)) else ((lex_Lex.f k a0).bind fun bt224 => (if bt224.2.2.2 = 0 then ((lex_Text.f k bt224.1).bind fun t232 => ((lex_Lex.f k t232).bind fun bt233 => (if bt233.2.2.2 = 0 then (if (bt233.1.length : Int) = (bt224.1.length : Int) then (rushlightlaw07_LexBack.j0 k bt224.1 bt233.1 (!(bt233.2.1 == 1) || (!(bt233.2.2.1 == (wrap64 ((t232.size : Int) + 1)))))) else (rushlightlaw07_LexBack.j0 k bt224.1 bt233.1 true)) else (rushlightlaw07_LexBack.j0 k bt224.1 bt233.1 true)))) else ((rushlightlaw07_awake.f k).bind fun t231 => (if t231 = true then (some ((bt224.1.length : Int) == 0)) else (some false)))))) = some r := h
  clear h
  by_cases c2 : (a0.size : Int) > 3000
  · rw [if_pos c2] at H
    have c2b0 : decide (3000 < (a0.size : Int)) = true := decide_eq_true c2
    have c2b1 : decide (3000 < a0.size) = true := decide_eq_true (by omega)
    clear c2
    replace H := Option.bind_eq_some_iff.mp H
    obtain ⟨t223, A30, H⟩ := H
    replace H : (some t223) = some r := H
    have A3 := Aside0.mk A30
    clear A30
    obtain rfl := Option.some.inj H
    go_enter Try.func6, Try.ntmps6
    go_wp2_with (first | (go_at_call 7; (with_reducible refine (rushlightlaw07_awake.calls k  t223 _ ?sG A3.out).mono ?_); (case sG => exact G0.at_ HG0.out (by repeat (first | (with_reducible first | exact HB.out | exact Below.refl _ _ | apply below_alloc | apply pw_below_drewN | apply below_drew1 | apply below_drew | exact Drawn0.below (by assumption)) | exact HB.out | (refine below_set ?_ (Aside0.out (by assumption)))))); rintro e w4 ⟨rfl, hb⟩; have n0_ := Aside0.mk (below_step (by repeat (first | (with_reducible first | exact HB.out | apply below_alloc | apply pw_below_drewN | apply below_drew1) | exact HB.out)) hb); clear HB; have HB := n0_; clear n0_; (try clear hb); (try clear hb2); (try clear hk); (try clear hi)))
    repeat (go_quiet (first | (go_at_call 7; (with_reducible refine (rushlightlaw07_awake.calls k  t223 _ ?sG A3.out).mono ?_); (case sG => exact G0.at_ HG0.out (by repeat (first | (with_reducible first | exact HB.out | exact Below.refl _ _ | apply below_alloc | apply pw_below_drewN | apply below_drew1 | apply below_drew | exact Drawn0.below (by assumption)) | exact HB.out | (refine below_set ?_ (Aside0.out (by assumption)))))); rintro e w4 ⟨rfl, hb⟩; have n0_ := Aside0.mk (below_step (by repeat (first | (with_reducible first | exact HB.out | apply below_alloc | apply pw_below_drewN | apply below_drew1) | exact HB.out)) hb); clear HB; have HB := n0_; clear n0_; (try clear hb); (try clear hb2); (try clear hk); (try clear hi))); try go_wp2_with (first | (go_at_call 7; (with_reducible refine (rushlightlaw07_awake.calls k  t223 _ ?sG A3.out).mono ?_); (case sG => exact G0.at_ HG0.out (by repeat (first | (with_reducible first | exact HB.out | exact Below.refl _ _ | apply below_alloc | apply pw_below_drewN | apply below_drew1 | apply below_drew | exact Drawn0.below (by assumption)) | exact HB.out | (refine below_set ?_ (Aside0.out (by assumption)))))); rintro e w4 ⟨rfl, hb⟩; have n0_ := Aside0.mk (below_step (by repeat (first | (with_reducible first | exact HB.out | apply below_alloc | apply pw_below_drewN | apply below_drew1) | exact HB.out)) hb); clear HB; have HB := n0_; clear n0_; (try clear hb); (try clear hb2); (try clear hk); (try clear hi))))
    go_ret
    exact ⟨by first | rfl | (simp [errW_none, errW_some] <;> rfl) | (simp [*, errW_none, errW_some] <;> rfl), by repeat (first | (with_reducible first | exact HB.out | apply below_alloc | apply pw_below_drewN | apply below_drew1) | exact HB.out)⟩
  · rw [if_neg c2] at H
    have c2b0 : decide (3000 < (a0.size : Int)) = false := decide_eq_false c2
    have c2b1 : decide (3000 < a0.size) = false := decide_eq_false (by omega)
    clear c2
    replace H := Option.bind_eq_some_iff.mp H
    obtain ⟨⟨t224, t227, t228, t229⟩, A50, H⟩ := H
    replace H : (if t229 = 0 then ((lex_Text.f k t224).bind fun t232 => ((lex_Lex.f k t232).bind fun bt233 => (if bt233.2.2.2 = 0 then (if (bt233.1.length : Int) = (t224.length : Int) then (rushlightlaw07_LexBack.j0 k t224 bt233.1 (!(bt233.2.1 == 1) || (!(bt233.2.2.1 == (wrap64 ((t232.size : Int) + 1)))))) else (rushlightlaw07_LexBack.j0 k t224 bt233.1 true)) else (rushlightlaw07_LexBack.j0 k t224 bt233.1 true)))) else ((rushlightlaw07_awake.f k).bind fun t231 => (if t231 = true then (some ((t224.length : Int) == 0)) else (some false)))) = some r := H
    have A5 := Aside0.mk A50
    clear A50
    by_cases c6 : t229 = 0
    · rw [if_pos c6] at H
      have c6b0 : (t229 == 0) = true := beq_iff_eq.mpr c6
      have c6b1 : (t229 != 0) = false := bne_eq_false_iff_eq.mpr c6
      clear c6
      replace H := Option.bind_eq_some_iff.mp H
      obtain ⟨t232, A70, H⟩ := H
      replace H : ((lex_Lex.f k t232).bind fun bt233 => (if bt233.2.2.2 = 0 then (if (bt233.1.length : Int) = (t224.length : Int) then (rushlightlaw07_LexBack.j0 k t224 bt233.1 (!(bt233.2.1 == 1) || (!(bt233.2.2.1 == (wrap64 ((t232.size : Int) + 1)))))) else (rushlightlaw07_LexBack.j0 k t224 bt233.1 true)) else (rushlightlaw07_LexBack.j0 k t224 bt233.1 true))) = some r := H
      have A7 := Aside0.mk A70
      clear A70
      replace H := Option.bind_eq_some_iff.mp H
      obtain ⟨⟨t233, t236, t237, t238⟩, A80, H⟩ := H
      replace H : (if t238 = 0 then (if (t233.length : Int) = (t224.length : Int) then (rushlightlaw07_LexBack.j0 k t224 t233 (!(t236 == 1) || (!(t237 == (wrap64 ((t232.size : Int) + 1)))))) else (rushlightlaw07_LexBack.j0 k t224 t233 true)) else (rushlightlaw07_LexBack.j0 k t224 t233 true)) = some r := H
      have A8 := Aside0.mk A80
      clear A80
      have HC9 := Aside0.mk H
      clear H
      go_enter Try.func6, Try.ntmps6
      go_upto_region 8 with (first | (go_at_call 8; (with_reducible refine (lex_Lex.calls k a0 t224 t227 t228 t229 _ ?sG A5.out).mono ?_); (case sG => exact G0.at_ HG0.out (by repeat (first | (with_reducible first | exact HB.out | exact Below.refl _ _ | apply below_alloc | apply pw_below_drewN | apply below_drew1 | apply below_drew | exact Drawn0.below (by assumption)) | exact HB.out | (refine below_set ?_ (Aside0.out (by assumption)))))); rintro e w10 ⟨v225, rfl, ho0, hb⟩; have n0_ := Aside0.mk (Kd.R_lower ho0 (below_size (by repeat (first | (with_reducible first | exact HB.out | apply below_alloc | apply pw_below_drewN | apply below_drew1) | exact HB.out)))); have n1_ := Aside0.mk (below_step (by repeat (first | (with_reducible first | exact HB.out | apply below_alloc | apply pw_below_drewN | apply below_drew1) | exact HB.out)) hb); clear HB; have HO226 := n0_; have HB := n1_; clear n0_ n1_; (try clear hb); (try clear hb2); (try clear hk); (try clear hi); (try clear ho0)) | ((with_reducible refine gate_dst (N := 4) rfl ?_); (try (refine gate_guard (by rfl) ?_; dsimp only)); refine box_event ?hg (N := 4) ?hd (cs := #[.int .i64 0, .int .i64 0]) (t := 26) ?hr ?_; (case hd => rfl); (case hg => rfl); (case hr => first | (go_simp; done) | (go_simp; rfl)); intro gb230 hg w11 hbox hb; have n0_ := Aside0.mk (Kd.R_below (by (with_reducible repeat (first | apply Kd.R_alloc | apply Kd.R_drewN | apply Kd.R_drew)); exact HO226.out) hb); have n1_ := Aside0.mk (below_step (by repeat (first | (with_reducible first | exact HB.out | apply below_alloc | apply pw_below_drewN | apply below_drew1) | exact HB.out)) hb); have n2_ := Aside0.mk (hbox); have n3_ := Aside0.mk ((by rw [hg]; exact (below_size (by repeat (first | (with_reducible first | exact HB.out | apply below_alloc | apply pw_below_drewN | apply below_drew1) | exact HB.out))) : w.heap.size ≤ gb230)); have n4_ := Aside0.mk ((by rw [hg]; exact (below_size (by repeat (first | (with_reducible first | exact HB.out | apply below_alloc | apply pw_below_drewN | apply below_drew1) | exact HB.out))) : w.heap.size ≤ gb230)); clear HO226; clear HB; have HO226 := n0_; have HB := n1_; have BK230 := n2_; have GW230 := n3_; have GE230 := n4_; clear n0_ n1_ n2_ n3_ n4_; clear hb hbox hg; have hcz12_0 : w11.cell? ⟨gb230, 0, none⟩ = some (.int .i64 0) := (blk_cell BK230.out 0).trans rfl; have hcz12_1 : w11.cell? ⟨gb230, 1, none⟩ = some (.int .i64 0) := (blk_cell BK230.out 1).trans rfl; have hfz12_0 := blk_frozen BK230.out 0; have hfz12_1 := blk_frozen BK230.out 1; obtain ⟨Ao13, co13, eo13⟩ := Kd.R_slice HO226.out; subst eo13) | (go_at_call 13; (with_reducible refine (lex_Text.calls k _ _ t224 t232 _ ?side1 ?side2 A7.out).mono ?_); (case side1 => refine (Kd.R_reads' (e := 33) (base := w.heap.size) (ok := fun k_ => True) (n := t224.length) (c := co13) ?_).2.2; exact (by (with_reducible repeat (first | apply Kd.R_alloc | apply Kd.R_drewN | apply Kd.R_drew)); exact (Kd.R_mono (Kd.R_far (p := ⟨gb230, 1, none⟩) (Kd.R_far (p := ⟨gb230, 0, none⟩) (Kd.R_types HO226.out BK230.out (by decide)) (fun _ hk => hk.2) (.int .i64 t227)) (fun _ hk => hk.2) (.int .i64 t228)) (fun _ h_ => h_.1)))); (case side2 => exact (Kd.R_reads' HO226.out).2.1); rintro e w14 ⟨rfl, hb⟩; have n0_ := Aside0.mk (Kd.R_below (by (with_reducible repeat (first | apply Kd.R_alloc | apply Kd.R_drewN | apply Kd.R_drew)); exact (Kd.R_mono (Kd.R_far (p := ⟨gb230, 1, none⟩) (Kd.R_far (p := ⟨gb230, 0, none⟩) (Kd.R_types HO226.out BK230.out (by decide)) (fun _ hk => hk.2) (.int .i64 t227)) (fun _ hk => hk.2) (.int .i64 t228)) (fun _ h_ => h_.1))) hb); have n1_ := Aside0.mk (blk_below (g := gb230) (o := .cells #[.int .i64 t227, .int .i64 t228] 26 (0, 0)) (by (with_reducible repeat (first | refine blk_drewN ?_ _ | refine blk_drew ?_ | refine blk_alloc ?_ _)); refine blk_put (cs := #[.int .i64 t227, .int .i64 0]) ?_ 1 _ rfl; (with_reducible repeat (first | refine blk_drewN ?_ _ | refine blk_drew ?_ | refine blk_alloc ?_ _)); refine blk_put (cs := #[.int .i64 0, .int .i64 0]) ?_ 0 _ rfl; (with_reducible repeat (first | refine blk_drewN ?_ _ | refine blk_drew ?_ | refine blk_alloc ?_ _)); exact BK230.out) hb); have n2_ := Aside0.mk (below_step (by repeat (first | (with_reducible first | exact HB.out | apply below_alloc | apply pw_below_drewN | apply below_drew1 | refine below_set ?_ GE230.out) | exact HB.out)) hb); clear HO226; clear BK230; clear HB; have HO226 := n0_; have BK230 := n1_; have HB := n2_; clear n0_ n1_ n2_; (try clear hb); (try clear hb2); (try clear hk); (try clear hi)) | (go_at_call 8; (with_reducible refine (lex_Lex.calls k t232 t233 t236 t237 t238 _ ?sG A8.out).mono ?_); (case sG => exact G0.at_ HG0.out (by repeat (first | (with_reducible first | exact HB.out | exact Below.refl _ _ | apply below_alloc | apply pw_below_drewN | apply below_drew1 | apply below_drew | exact Drawn0.below (by assumption)) | exact HB.out | (refine below_set ?_ (Aside0.out (by assumption)))))); rintro e w15 ⟨v234, rfl, ho0, hb⟩; have n0_ := Aside0.mk (Kd.R_elder' (by (with_reducible repeat (first | apply Kd.R_alloc | apply Kd.R_drewN | apply Kd.R_drew)); exact HO226.out) (Kd.R_base ho0) hb); have n1_ := Aside0.mk (Kd.R_lower (Kd.R_new' ho0 (Kd.R_lt (by (with_reducible repeat (first | apply Kd.R_alloc | apply Kd.R_drewN | apply Kd.R_drew)); exact HO226.out))) (below_size (by repeat (first | (with_reducible first | exact HB.out | apply below_alloc | apply pw_below_drewN | apply below_drew1 | refine below_set ?_ GE230.out) | exact HB.out)))); have n2_ := Aside0.mk (blk_below (g := gb230) (o := .cells #[.int .i64 t227, .int .i64 t228] 26 (0, 0)) (by (with_reducible repeat (first | refine blk_drewN ?_ _ | refine blk_drew ?_ | refine blk_alloc ?_ _)); exact BK230.out) hb); have n3_ := Aside0.mk (below_step (by repeat (first | (with_reducible first | exact HB.out | apply below_alloc | apply pw_below_drewN | apply below_drew1 | refine below_set ?_ GE230.out) | exact HB.out)) hb); clear HO226; clear BK230; clear HB; have HO226 := n0_; have HO235 := n1_; have BK230 := n2_; have HB := n3_; clear n0_ n1_ n2_ n3_; (try clear hb); (try clear hb2); (try clear hk); (try clear hi); (try clear ho0)) | ((with_reducible refine gate_dst (N := 8) rfl ?_); (try (refine gate_guard (by rfl) ?_; dsimp only)); refine box_event ?hg (N := 8) ?hd (cs := #[.int .i64 0, .int .i64 0]) (t := 26) ?hr ?_; (case hd => rfl); (case hg => rfl); (case hr => first | (go_simp; done) | (go_simp; rfl)); intro gb239 hg w16 hbox hb; have n0_ := Aside0.mk (Kd.R_below (by (with_reducible repeat (first | apply Kd.R_alloc | apply Kd.R_drewN | apply Kd.R_drew)); exact HO226.out) hb); have n1_ := Aside0.mk (Kd.R_below (by (with_reducible repeat (first | apply Kd.R_alloc | apply Kd.R_drewN | apply Kd.R_drew)); exact HO235.out) hb); have n2_ := Aside0.mk (blk_below (g := gb230) (o := .cells #[.int .i64 t227, .int .i64 t228] 26 (0, 0)) (by (with_reducible repeat (first | refine blk_drewN ?_ _ | refine blk_drew ?_ | refine blk_alloc ?_ _)); exact BK230.out) hb); have n3_ := Aside0.mk (below_step (by repeat (first | (with_reducible first | exact HB.out | apply below_alloc | apply pw_below_drewN | apply below_drew1 | refine below_set ?_ GE230.out) | exact HB.out)) hb); have n4_ := Aside0.mk (hbox); have n5_ := Aside0.mk ((by rw [hg]; exact (below_size (by repeat (first | (with_reducible first | exact HB.out | apply below_alloc | apply pw_below_drewN | apply below_drew1 | refine below_set ?_ GE230.out) | exact HB.out))) : w.heap.size ≤ gb239)); have n6_ := Aside0.mk ((by rw [hg]; exact (below_size (by repeat (first | (with_reducible first | exact HB.out | apply below_alloc | apply pw_below_drewN | apply below_drew1 | refine below_set ?_ GE230.out) | exact HB.out))) : w.heap.size ≤ gb239)); have n7_ := Aside0.mk ((by rw [hg]; exact Nat.ne_of_lt (blk_lt (g := gb230) (o := .cells #[.int .i64 t227, .int .i64 t228] 26 (0, 0)) (by (with_reducible repeat (first | refine blk_drewN ?_ _ | refine blk_drew ?_ | refine blk_alloc ?_ _)); exact BK230.out)) : gb230 ≠ gb239)); have n8_ := Aside0.mk ((by rw [hg]; exact Nat.ne_of_gt (blk_lt (g := gb230) (o := .cells #[.int .i64 t227, .int .i64 t228] 26 (0, 0)) (by (with_reducible repeat (first | refine blk_drewN ?_ _ | refine blk_drew ?_ | refine blk_alloc ?_ _)); exact BK230.out)) : gb239 ≠ gb230)); clear HO226; clear HO235; clear BK230; clear HB; have HO226 := n0_; have HO235 := n1_; have BK230 := n2_; have HB := n3_; have BK239 := n4_; have GW239 := n5_; have GE239 := n6_; have NB230_239 := n7_; have NB239_230 := n8_; clear n0_ n1_ n2_ n3_ n4_ n5_ n6_ n7_ n8_; clear hb hbox hg; have hnb17 := NB239_230.out; have hnc17 := NB230_239.out; have hcz18_0 : w16.cell? ⟨gb239, 0, none⟩ = some (.int .i64 0) := (blk_cell BK239.out 0).trans rfl; have hcz18_1 : w16.cell? ⟨gb239, 1, none⟩ = some (.int .i64 0) := (blk_cell BK239.out 1).trans rfl; have hfz18_0 := blk_frozen BK239.out 0; have hfz18_1 := blk_frozen BK239.out 1))
      repeat (go_quiet (first | (go_at_call 8; (with_reducible refine (lex_Lex.calls k a0 t224 t227 t228 t229 _ ?sG A5.out).mono ?_); (case sG => exact G0.at_ HG0.out (by repeat (first | (with_reducible first | exact HB.out | exact Below.refl _ _ | apply below_alloc | apply pw_below_drewN | apply below_drew1 | apply below_drew | exact Drawn0.below (by assumption)) | exact HB.out | (refine below_set ?_ (Aside0.out (by assumption)))))); rintro e w10 ⟨v225, rfl, ho0, hb⟩; have n0_ := Aside0.mk (Kd.R_lower ho0 (below_size (by repeat (first | (with_reducible first | exact HB.out | apply below_alloc | apply pw_below_drewN | apply below_drew1) | exact HB.out)))); have n1_ := Aside0.mk (below_step (by repeat (first | (with_reducible first | exact HB.out | apply below_alloc | apply pw_below_drewN | apply below_drew1) | exact HB.out)) hb); clear HB; have HO226 := n0_; have HB := n1_; clear n0_ n1_; (try clear hb); (try clear hb2); (try clear hk); (try clear hi); (try clear ho0)) | ((with_reducible refine gate_dst (N := 4) rfl ?_); (try (refine gate_guard (by rfl) ?_; dsimp only)); refine box_event ?hg (N := 4) ?hd (cs := #[.int .i64 0, .int .i64 0]) (t := 26) ?hr ?_; (case hd => rfl); (case hg => rfl); (case hr => first | (go_simp; done) | (go_simp; rfl)); intro gb230 hg w11 hbox hb; have n0_ := Aside0.mk (Kd.R_below (by (with_reducible repeat (first | apply Kd.R_alloc | apply Kd.R_drewN | apply Kd.R_drew)); exact HO226.out) hb); have n1_ := Aside0.mk (below_step (by repeat (first | (with_reducible first | exact HB.out | apply below_alloc | apply pw_below_drewN | apply below_drew1) | exact HB.out)) hb); have n2_ := Aside0.mk (hbox); have n3_ := Aside0.mk ((by rw [hg]; exact (below_size (by repeat (first | (with_reducible first | exact HB.out | apply below_alloc | apply pw_below_drewN | apply below_drew1) | exact HB.out))) : w.heap.size ≤ gb230)); have n4_ := Aside0.mk ((by rw [hg]; exact (below_size (by repeat (first | (with_reducible first | exact HB.out | apply below_alloc | apply pw_below_drewN | apply below_drew1) | exact HB.out))) : w.heap.size ≤ gb230)); clear HO226; clear HB; have HO226 := n0_; have HB := n1_; have BK230 := n2_; have GW230 := n3_; have GE230 := n4_; clear n0_ n1_ n2_ n3_ n4_; clear hb hbox hg; have hcz12_0 : w11.cell? ⟨gb230, 0, none⟩ = some (.int .i64 0) := (blk_cell BK230.out 0).trans rfl; have hcz12_1 : w11.cell? ⟨gb230, 1, none⟩ = some (.int .i64 0) := (blk_cell BK230.out 1).trans rfl; have hfz12_0 := blk_frozen BK230.out 0; have hfz12_1 := blk_frozen BK230.out 1; obtain ⟨Ao13, co13, eo13⟩ := Kd.R_slice HO226.out; subst eo13) | (go_at_call 13; (with_reducible refine (lex_Text.calls k _ _ t224 t232 _ ?side1 ?side2 A7.out).mono ?_); (case side1 => refine (Kd.R_reads' (e := 33) (base := w.heap.size) (ok := fun k_ => True) (n := t224.length) (c := co13) ?_).2.2; exact (by (with_reducible repeat (first | apply Kd.R_alloc | apply Kd.R_drewN | apply Kd.R_drew)); exact (Kd.R_mono (Kd.R_far (p := ⟨gb230, 1, none⟩) (Kd.R_far (p := ⟨gb230, 0, none⟩) (Kd.R_types HO226.out BK230.out (by decide)) (fun _ hk => hk.2) (.int .i64 t227)) (fun _ hk => hk.2) (.int .i64 t228)) (fun _ h_ => h_.1)))); (case side2 => exact (Kd.R_reads' HO226.out).2.1); rintro e w14 ⟨rfl, hb⟩; have n0_ := Aside0.mk (Kd.R_below (by (with_reducible repeat (first | apply Kd.R_alloc | apply Kd.R_drewN | apply Kd.R_drew)); exact (Kd.R_mono (Kd.R_far (p := ⟨gb230, 1, none⟩) (Kd.R_far (p := ⟨gb230, 0, none⟩) (Kd.R_types HO226.out BK230.out (by decide)) (fun _ hk => hk.2) (.int .i64 t227)) (fun _ hk => hk.2) (.int .i64 t228)) (fun _ h_ => h_.1))) hb); have n1_ := Aside0.mk (blk_below (g := gb230) (o := .cells #[.int .i64 t227, .int .i64 t228] 26 (0, 0)) (by (with_reducible repeat (first | refine blk_drewN ?_ _ | refine blk_drew ?_ | refine blk_alloc ?_ _)); refine blk_put (cs := #[.int .i64 t227, .int .i64 0]) ?_ 1 _ rfl; (with_reducible repeat (first | refine blk_drewN ?_ _ | refine blk_drew ?_ | refine blk_alloc ?_ _)); refine blk_put (cs := #[.int .i64 0, .int .i64 0]) ?_ 0 _ rfl; (with_reducible repeat (first | refine blk_drewN ?_ _ | refine blk_drew ?_ | refine blk_alloc ?_ _)); exact BK230.out) hb); have n2_ := Aside0.mk (below_step (by repeat (first | (with_reducible first | exact HB.out | apply below_alloc | apply pw_below_drewN | apply below_drew1 | refine below_set ?_ GE230.out) | exact HB.out)) hb); clear HO226; clear BK230; clear HB; have HO226 := n0_; have BK230 := n1_; have HB := n2_; clear n0_ n1_ n2_; (try clear hb); (try clear hb2); (try clear hk); (try clear hi)) | (go_at_call 8; (with_reducible refine (lex_Lex.calls k t232 t233 t236 t237 t238 _ ?sG A8.out).mono ?_); (case sG => exact G0.at_ HG0.out (by repeat (first | (with_reducible first | exact HB.out | exact Below.refl _ _ | apply below_alloc | apply pw_below_drewN | apply below_drew1 | apply below_drew | exact Drawn0.below (by assumption)) | exact HB.out | (refine below_set ?_ (Aside0.out (by assumption)))))); rintro e w15 ⟨v234, rfl, ho0, hb⟩; have n0_ := Aside0.mk (Kd.R_elder' (by (with_reducible repeat (first | apply Kd.R_alloc | apply Kd.R_drewN | apply Kd.R_drew)); exact HO226.out) (Kd.R_base ho0) hb); have n1_ := Aside0.mk (Kd.R_lower (Kd.R_new' ho0 (Kd.R_lt (by (with_reducible repeat (first | apply Kd.R_alloc | apply Kd.R_drewN | apply Kd.R_drew)); exact HO226.out))) (below_size (by repeat (first | (with_reducible first | exact HB.out | apply below_alloc | apply pw_below_drewN | apply below_drew1 | refine below_set ?_ GE230.out) | exact HB.out)))); have n2_ := Aside0.mk (blk_below (g := gb230) (o := .cells #[.int .i64 t227, .int .i64 t228] 26 (0, 0)) (by (with_reducible repeat (first | refine blk_drewN ?_ _ | refine blk_drew ?_ | refine blk_alloc ?_ _)); exact BK230.out) hb); have n3_ := Aside0.mk (below_step (by repeat (first | (with_reducible first | exact HB.out | apply below_alloc | apply pw_below_drewN | apply below_drew1 | refine below_set ?_ GE230.out) | exact HB.out)) hb); clear HO226; clear BK230; clear HB; have HO226 := n0_; have HO235 := n1_; have BK230 := n2_; have HB := n3_; clear n0_ n1_ n2_ n3_; (try clear hb); (try clear hb2); (try clear hk); (try clear hi); (try clear ho0)) | ((with_reducible refine gate_dst (N := 8) rfl ?_); (try (refine gate_guard (by rfl) ?_; dsimp only)); refine box_event ?hg (N := 8) ?hd (cs := #[.int .i64 0, .int .i64 0]) (t := 26) ?hr ?_; (case hd => rfl); (case hg => rfl); (case hr => first | (go_simp; done) | (go_simp; rfl)); intro gb239 hg w16 hbox hb; have n0_ := Aside0.mk (Kd.R_below (by (with_reducible repeat (first | apply Kd.R_alloc | apply Kd.R_drewN | apply Kd.R_drew)); exact HO226.out) hb); have n1_ := Aside0.mk (Kd.R_below (by (with_reducible repeat (first | apply Kd.R_alloc | apply Kd.R_drewN | apply Kd.R_drew)); exact HO235.out) hb); have n2_ := Aside0.mk (blk_below (g := gb230) (o := .cells #[.int .i64 t227, .int .i64 t228] 26 (0, 0)) (by (with_reducible repeat (first | refine blk_drewN ?_ _ | refine blk_drew ?_ | refine blk_alloc ?_ _)); exact BK230.out) hb); have n3_ := Aside0.mk (below_step (by repeat (first | (with_reducible first | exact HB.out | apply below_alloc | apply pw_below_drewN | apply below_drew1 | refine below_set ?_ GE230.out) | exact HB.out)) hb); have n4_ := Aside0.mk (hbox); have n5_ := Aside0.mk ((by rw [hg]; exact (below_size (by repeat (first | (with_reducible first | exact HB.out | apply below_alloc | apply pw_below_drewN | apply below_drew1 | refine below_set ?_ GE230.out) | exact HB.out))) : w.heap.size ≤ gb239)); have n6_ := Aside0.mk ((by rw [hg]; exact (below_size (by repeat (first | (with_reducible first | exact HB.out | apply below_alloc | apply pw_below_drewN | apply below_drew1 | refine below_set ?_ GE230.out) | exact HB.out))) : w.heap.size ≤ gb239)); have n7_ := Aside0.mk ((by rw [hg]; exact Nat.ne_of_lt (blk_lt (g := gb230) (o := .cells #[.int .i64 t227, .int .i64 t228] 26 (0, 0)) (by (with_reducible repeat (first | refine blk_drewN ?_ _ | refine blk_drew ?_ | refine blk_alloc ?_ _)); exact BK230.out)) : gb230 ≠ gb239)); have n8_ := Aside0.mk ((by rw [hg]; exact Nat.ne_of_gt (blk_lt (g := gb230) (o := .cells #[.int .i64 t227, .int .i64 t228] 26 (0, 0)) (by (with_reducible repeat (first | refine blk_drewN ?_ _ | refine blk_drew ?_ | refine blk_alloc ?_ _)); exact BK230.out)) : gb239 ≠ gb230)); clear HO226; clear HO235; clear BK230; clear HB; have HO226 := n0_; have HO235 := n1_; have BK230 := n2_; have HB := n3_; have BK239 := n4_; have GW239 := n5_; have GE239 := n6_; have NB230_239 := n7_; have NB239_230 := n8_; clear n0_ n1_ n2_ n3_ n4_ n5_ n6_ n7_ n8_; clear hb hbox hg; have hnb17 := NB239_230.out; have hnc17 := NB230_239.out; have hcz18_0 : w16.cell? ⟨gb239, 0, none⟩ = some (.int .i64 0) := (blk_cell BK239.out 0).trans rfl; have hcz18_1 : w16.cell? ⟨gb239, 1, none⟩ = some (.int .i64 0) := (blk_cell BK239.out 1).trans rfl; have hfz18_0 := blk_frozen BK239.out 0; have hfz18_1 := blk_frozen BK239.out 1)); go_upto_region 8 with (first | (go_at_call 8; (with_reducible refine (lex_Lex.calls k a0 t224 t227 t228 t229 _ ?sG A5.out).mono ?_); (case sG => exact G0.at_ HG0.out (by repeat (first | (with_reducible first | exact HB.out | exact Below.refl _ _ | apply below_alloc | apply pw_below_drewN | apply below_drew1 | apply below_drew | exact Drawn0.below (by assumption)) | exact HB.out | (refine below_set ?_ (Aside0.out (by assumption)))))); rintro e w10 ⟨v225, rfl, ho0, hb⟩; have n0_ := Aside0.mk (Kd.R_lower ho0 (below_size (by repeat (first | (with_reducible first | exact HB.out | apply below_alloc | apply pw_below_drewN | apply below_drew1) | exact HB.out)))); have n1_ := Aside0.mk (below_step (by repeat (first | (with_reducible first | exact HB.out | apply below_alloc | apply pw_below_drewN | apply below_drew1) | exact HB.out)) hb); clear HB; have HO226 := n0_; have HB := n1_; clear n0_ n1_; (try clear hb); (try clear hb2); (try clear hk); (try clear hi); (try clear ho0)) | ((with_reducible refine gate_dst (N := 4) rfl ?_); (try (refine gate_guard (by rfl) ?_; dsimp only)); refine box_event ?hg (N := 4) ?hd (cs := #[.int .i64 0, .int .i64 0]) (t := 26) ?hr ?_; (case hd => rfl); (case hg => rfl); (case hr => first | (go_simp; done) | (go_simp; rfl)); intro gb230 hg w11 hbox hb; have n0_ := Aside0.mk (Kd.R_below (by (with_reducible repeat (first | apply Kd.R_alloc | apply Kd.R_drewN | apply Kd.R_drew)); exact HO226.out) hb); have n1_ := Aside0.mk (below_step (by repeat (first | (with_reducible first | exact HB.out | apply below_alloc | apply pw_below_drewN | apply below_drew1) | exact HB.out)) hb); have n2_ := Aside0.mk (hbox); have n3_ := Aside0.mk ((by rw [hg]; exact (below_size (by repeat (first | (with_reducible first | exact HB.out | apply below_alloc | apply pw_below_drewN | apply below_drew1) | exact HB.out))) : w.heap.size ≤ gb230)); have n4_ := Aside0.mk ((by rw [hg]; exact (below_size (by repeat (first | (with_reducible first | exact HB.out | apply below_alloc | apply pw_below_drewN | apply below_drew1) | exact HB.out))) : w.heap.size ≤ gb230)); clear HO226; clear HB; have HO226 := n0_; have HB := n1_; have BK230 := n2_; have GW230 := n3_; have GE230 := n4_; clear n0_ n1_ n2_ n3_ n4_; clear hb hbox hg; have hcz12_0 : w11.cell? ⟨gb230, 0, none⟩ = some (.int .i64 0) := (blk_cell BK230.out 0).trans rfl; have hcz12_1 : w11.cell? ⟨gb230, 1, none⟩ = some (.int .i64 0) := (blk_cell BK230.out 1).trans rfl; have hfz12_0 := blk_frozen BK230.out 0; have hfz12_1 := blk_frozen BK230.out 1; obtain ⟨Ao13, co13, eo13⟩ := Kd.R_slice HO226.out; subst eo13) | (go_at_call 13; (with_reducible refine (lex_Text.calls k _ _ t224 t232 _ ?side1 ?side2 A7.out).mono ?_); (case side1 => refine (Kd.R_reads' (e := 33) (base := w.heap.size) (ok := fun k_ => True) (n := t224.length) (c := co13) ?_).2.2; exact (by (with_reducible repeat (first | apply Kd.R_alloc | apply Kd.R_drewN | apply Kd.R_drew)); exact (Kd.R_mono (Kd.R_far (p := ⟨gb230, 1, none⟩) (Kd.R_far (p := ⟨gb230, 0, none⟩) (Kd.R_types HO226.out BK230.out (by decide)) (fun _ hk => hk.2) (.int .i64 t227)) (fun _ hk => hk.2) (.int .i64 t228)) (fun _ h_ => h_.1)))); (case side2 => exact (Kd.R_reads' HO226.out).2.1); rintro e w14 ⟨rfl, hb⟩; have n0_ := Aside0.mk (Kd.R_below (by (with_reducible repeat (first | apply Kd.R_alloc | apply Kd.R_drewN | apply Kd.R_drew)); exact (Kd.R_mono (Kd.R_far (p := ⟨gb230, 1, none⟩) (Kd.R_far (p := ⟨gb230, 0, none⟩) (Kd.R_types HO226.out BK230.out (by decide)) (fun _ hk => hk.2) (.int .i64 t227)) (fun _ hk => hk.2) (.int .i64 t228)) (fun _ h_ => h_.1))) hb); have n1_ := Aside0.mk (blk_below (g := gb230) (o := .cells #[.int .i64 t227, .int .i64 t228] 26 (0, 0)) (by (with_reducible repeat (first | refine blk_drewN ?_ _ | refine blk_drew ?_ | refine blk_alloc ?_ _)); refine blk_put (cs := #[.int .i64 t227, .int .i64 0]) ?_ 1 _ rfl; (with_reducible repeat (first | refine blk_drewN ?_ _ | refine blk_drew ?_ | refine blk_alloc ?_ _)); refine blk_put (cs := #[.int .i64 0, .int .i64 0]) ?_ 0 _ rfl; (with_reducible repeat (first | refine blk_drewN ?_ _ | refine blk_drew ?_ | refine blk_alloc ?_ _)); exact BK230.out) hb); have n2_ := Aside0.mk (below_step (by repeat (first | (with_reducible first | exact HB.out | apply below_alloc | apply pw_below_drewN | apply below_drew1 | refine below_set ?_ GE230.out) | exact HB.out)) hb); clear HO226; clear BK230; clear HB; have HO226 := n0_; have BK230 := n1_; have HB := n2_; clear n0_ n1_ n2_; (try clear hb); (try clear hb2); (try clear hk); (try clear hi)) | (go_at_call 8; (with_reducible refine (lex_Lex.calls k t232 t233 t236 t237 t238 _ ?sG A8.out).mono ?_); (case sG => exact G0.at_ HG0.out (by repeat (first | (with_reducible first | exact HB.out | exact Below.refl _ _ | apply below_alloc | apply pw_below_drewN | apply below_drew1 | apply below_drew | exact Drawn0.below (by assumption)) | exact HB.out | (refine below_set ?_ (Aside0.out (by assumption)))))); rintro e w15 ⟨v234, rfl, ho0, hb⟩; have n0_ := Aside0.mk (Kd.R_elder' (by (with_reducible repeat (first | apply Kd.R_alloc | apply Kd.R_drewN | apply Kd.R_drew)); exact HO226.out) (Kd.R_base ho0) hb); have n1_ := Aside0.mk (Kd.R_lower (Kd.R_new' ho0 (Kd.R_lt (by (with_reducible repeat (first | apply Kd.R_alloc | apply Kd.R_drewN | apply Kd.R_drew)); exact HO226.out))) (below_size (by repeat (first | (with_reducible first | exact HB.out | apply below_alloc | apply pw_below_drewN | apply below_drew1 | refine below_set ?_ GE230.out) | exact HB.out)))); have n2_ := Aside0.mk (blk_below (g := gb230) (o := .cells #[.int .i64 t227, .int .i64 t228] 26 (0, 0)) (by (with_reducible repeat (first | refine blk_drewN ?_ _ | refine blk_drew ?_ | refine blk_alloc ?_ _)); exact BK230.out) hb); have n3_ := Aside0.mk (below_step (by repeat (first | (with_reducible first | exact HB.out | apply below_alloc | apply pw_below_drewN | apply below_drew1 | refine below_set ?_ GE230.out) | exact HB.out)) hb); clear HO226; clear BK230; clear HB; have HO226 := n0_; have HO235 := n1_; have BK230 := n2_; have HB := n3_; clear n0_ n1_ n2_ n3_; (try clear hb); (try clear hb2); (try clear hk); (try clear hi); (try clear ho0)) | ((with_reducible refine gate_dst (N := 8) rfl ?_); (try (refine gate_guard (by rfl) ?_; dsimp only)); refine box_event ?hg (N := 8) ?hd (cs := #[.int .i64 0, .int .i64 0]) (t := 26) ?hr ?_; (case hd => rfl); (case hg => rfl); (case hr => first | (go_simp; done) | (go_simp; rfl)); intro gb239 hg w16 hbox hb; have n0_ := Aside0.mk (Kd.R_below (by (with_reducible repeat (first | apply Kd.R_alloc | apply Kd.R_drewN | apply Kd.R_drew)); exact HO226.out) hb); have n1_ := Aside0.mk (Kd.R_below (by (with_reducible repeat (first | apply Kd.R_alloc | apply Kd.R_drewN | apply Kd.R_drew)); exact HO235.out) hb); have n2_ := Aside0.mk (blk_below (g := gb230) (o := .cells #[.int .i64 t227, .int .i64 t228] 26 (0, 0)) (by (with_reducible repeat (first | refine blk_drewN ?_ _ | refine blk_drew ?_ | refine blk_alloc ?_ _)); exact BK230.out) hb); have n3_ := Aside0.mk (below_step (by repeat (first | (with_reducible first | exact HB.out | apply below_alloc | apply pw_below_drewN | apply below_drew1 | refine below_set ?_ GE230.out) | exact HB.out)) hb); have n4_ := Aside0.mk (hbox); have n5_ := Aside0.mk ((by rw [hg]; exact (below_size (by repeat (first | (with_reducible first | exact HB.out | apply below_alloc | apply pw_below_drewN | apply below_drew1 | refine below_set ?_ GE230.out) | exact HB.out))) : w.heap.size ≤ gb239)); have n6_ := Aside0.mk ((by rw [hg]; exact (below_size (by repeat (first | (with_reducible first | exact HB.out | apply below_alloc | apply pw_below_drewN | apply below_drew1 | refine below_set ?_ GE230.out) | exact HB.out))) : w.heap.size ≤ gb239)); have n7_ := Aside0.mk ((by rw [hg]; exact Nat.ne_of_lt (blk_lt (g := gb230) (o := .cells #[.int .i64 t227, .int .i64 t228] 26 (0, 0)) (by (with_reducible repeat (first | refine blk_drewN ?_ _ | refine blk_drew ?_ | refine blk_alloc ?_ _)); exact BK230.out)) : gb230 ≠ gb239)); have n8_ := Aside0.mk ((by rw [hg]; exact Nat.ne_of_gt (blk_lt (g := gb230) (o := .cells #[.int .i64 t227, .int .i64 t228] 26 (0, 0)) (by (with_reducible repeat (first | refine blk_drewN ?_ _ | refine blk_drew ?_ | refine blk_alloc ?_ _)); exact BK230.out)) : gb239 ≠ gb230)); clear HO226; clear HO235; clear BK230; clear HB; have HO226 := n0_; have HO235 := n1_; have BK230 := n2_; have HB := n3_; have BK239 := n4_; have GW239 := n5_; have GE239 := n6_; have NB230_239 := n7_; have NB239_230 := n8_; clear n0_ n1_ n2_ n3_ n4_ n5_ n6_ n7_ n8_; clear hb hbox hg; have hnb17 := NB239_230.out; have hnc17 := NB230_239.out; have hcz18_0 : w16.cell? ⟨gb239, 0, none⟩ = some (.int .i64 0) := (blk_cell BK239.out 0).trans rfl; have hcz18_1 : w16.cell? ⟨gb239, 1, none⟩ = some (.int .i64 0) := (blk_cell BK239.out 1).trans rfl; have hfz18_0 := blk_frozen BK239.out 0; have hfz18_1 := blk_frozen BK239.out 1)))
      (try simp only [Act.put, List.setIfInBounds_toArray, List.set_cons_zero, List.set_cons_succ])
      go_cut [54] (fun v54 wc => ∃ (kq : Nat) (x54_8 : Bool), v54 = .bool x54_8 ∧ Aside0 (rushlightlaw07_LexBack.j0 kq t224 t233 x54_8 = some r) ∧ Aside0 (kq ≤ k) ∧ Aside0 (Kd.R k33 33 wc w.heap.size (fun k_ => some k_ ≠ (v234 : Value).ownBlock) (.slice Ao13 t224.length co13) t224) ∧ Aside0 (Kd.R k33 33 wc w.heap.size (fun k_ => some k_ ≠ ((.slice Ao13 t224.length co13) : Value).ownBlock) v234 t233) ∧ Aside0 (wc.heap[gb230]? = some (.cells #[.int .i64 t227, .int .i64 t228] 26 (0, 0))) ∧ Aside0 (wc.heap[gb239]? = some (.cells #[.int .i64 t236, .int .i64 t237] 26 (0, 0))) ∧ Aside0 (Below w.heap.size w wc))
      case first =>
        have H := HC9.out
        clear HC9
        by_cases c19 : t238 = 0
        · rw [if_pos c19] at H
          have c19b0 : (t238 == 0) = true := beq_iff_eq.mpr c19
          have c19b1 : (t238 != 0) = false := bne_eq_false_iff_eq.mpr c19
          clear c19
          (first | rw [c19b0] | (simp only [i64_w, i32_w]; rw [c19b0]) | skip)
          by_cases c20 : (t233.length : Int) = (t224.length : Int)
          · rw [if_pos c20] at H
            have c20b0 : ((t233.length : Int) == (t224.length : Int)) = true := beq_iff_eq.mpr c20
            have c20b1 : ((t233.length : Int) != (t224.length : Int)) = false := bne_eq_false_iff_eq.mpr c20
            have c20b2 : (t233.length == t224.length) = true := by first | simpa using c20 | (simp at c20 ⊢; omega)
            clear c20
            have H' := Aside0.mk H
            clear H
            obtain ⟨Ao21, co21, eo21⟩ := Kd.R_slice HO235.out
            subst eo21
            have hnb22 := NB239_230.out
            have hnc22 := NB230_239.out
            have hcz23_0 : w16.cell? ⟨gb239, 0, none⟩ = some (.int .i64 0) := (blk_cell BK239.out 0).trans rfl
            have hcz23_1 : w16.cell? ⟨gb239, 1, none⟩ = some (.int .i64 0) := (blk_cell BK239.out 1).trans rfl
            have hfz23_0 := blk_frozen BK239.out 0
            have hfz23_1 := blk_frozen BK239.out 1
            go_wp2
            repeat (go_quiet (fail); try go_wp2)
            go_meet
            case rel => exact ⟨_, ((!(t236 == 1) || (!(t237 == (wrap64 ((t232.size : Int) + 1)))))), (by first | rfl | (simp; done) | (simp [*]; done)), H', ⟨by first | omega | exact Nat.le_refl _⟩, ⟨by (with_reducible repeat (first | apply Kd.R_alloc | apply Kd.R_drewN | apply Kd.R_drew)); exact Kd.R_mono (Kd.R_far (p := ⟨gb239, 1, none⟩) (Kd.R_far (p := ⟨gb239, 0, none⟩) (Kd.R_types HO226.out BK239.out (by decide)) (fun _ hk => hk.2) (.int .i64 t236)) (fun _ hk => hk.2) (.int .i64 t237)) (fun _ hk => hk.1.2)⟩, ⟨by (with_reducible repeat (first | apply Kd.R_alloc | apply Kd.R_drewN | apply Kd.R_drew)); exact Kd.R_mono (Kd.R_far (p := ⟨gb239, 1, none⟩) (Kd.R_far (p := ⟨gb239, 0, none⟩) (Kd.R_types HO235.out BK239.out (by decide)) (fun _ hk => hk.2) (.int .i64 t236)) (fun _ hk => hk.2) (.int .i64 t237)) (fun _ hk => hk.1.2)⟩, ⟨by (with_reducible repeat (first | refine blk_drewN ?_ _ | refine blk_drew ?_ | refine blk_alloc ?_ _)); refine blk_far ?_ NB230_239.out _; (with_reducible repeat (first | refine blk_drewN ?_ _ | refine blk_drew ?_ | refine blk_alloc ?_ _)); refine blk_far ?_ NB230_239.out _; (with_reducible repeat (first | refine blk_drewN ?_ _ | refine blk_drew ?_ | refine blk_alloc ?_ _)); exact BK230.out⟩, ⟨by (with_reducible repeat (first | refine blk_drewN ?_ _ | refine blk_drew ?_ | refine blk_alloc ?_ _)); refine blk_put (cs := #[.int .i64 t236, .int .i64 0]) ?_ 1 _ rfl; (with_reducible repeat (first | refine blk_drewN ?_ _ | refine blk_drew ?_ | refine blk_alloc ?_ _)); refine blk_put (cs := #[.int .i64 0, .int .i64 0]) ?_ 0 _ rfl; (with_reducible repeat (first | refine blk_drewN ?_ _ | refine blk_drew ?_ | refine blk_alloc ?_ _)); exact BK239.out⟩, ⟨by repeat (first | (with_reducible first | exact HB.out | apply below_alloc | apply pw_below_drewN | apply below_drew1 | refine below_set ?_ GE230.out | refine below_set ?_ GE239.out) | exact HB.out)⟩⟩
          · rw [if_neg c20] at H
            have c20b0 : ((t233.length : Int) == (t224.length : Int)) = false := beq_eq_false_iff_ne.mpr c20
            have c20b1 : ((t233.length : Int) != (t224.length : Int)) = true := bne_iff_ne.mpr c20
            have c20b2 : (t233.length == t224.length) = false := by first | simpa using c20 | (simp at c20 ⊢; omega)
            have H' := Aside0.mk H
            clear H
            obtain ⟨Ao24, co24, eo24⟩ := Kd.R_slice HO235.out
            subst eo24
            go_wp2
            repeat (go_quiet (fail); try go_wp2)
            go_meet
            case rel => exact ⟨_, (true), (by first | rfl | (simp; done) | (simp [*]; done)), H', ⟨by first | omega | exact Nat.le_refl _⟩, ⟨by (with_reducible repeat (first | apply Kd.R_alloc | apply Kd.R_drewN | apply Kd.R_drew)); exact Kd.R_mono (Kd.R_far (p := ⟨gb239, 1, none⟩) (Kd.R_far (p := ⟨gb239, 0, none⟩) (Kd.R_types HO226.out BK239.out (by decide)) (fun _ hk => hk.2) (.int .i64 t236)) (fun _ hk => hk.2) (.int .i64 t237)) (fun _ hk => hk.1.2)⟩, ⟨by (with_reducible repeat (first | apply Kd.R_alloc | apply Kd.R_drewN | apply Kd.R_drew)); exact Kd.R_mono (Kd.R_far (p := ⟨gb239, 1, none⟩) (Kd.R_far (p := ⟨gb239, 0, none⟩) (Kd.R_types HO235.out BK239.out (by decide)) (fun _ hk => hk.2) (.int .i64 t236)) (fun _ hk => hk.2) (.int .i64 t237)) (fun _ hk => hk.1.2)⟩, ⟨by (with_reducible repeat (first | refine blk_drewN ?_ _ | refine blk_drew ?_ | refine blk_alloc ?_ _)); refine blk_far ?_ NB230_239.out _; (with_reducible repeat (first | refine blk_drewN ?_ _ | refine blk_drew ?_ | refine blk_alloc ?_ _)); refine blk_far ?_ NB230_239.out _; (with_reducible repeat (first | refine blk_drewN ?_ _ | refine blk_drew ?_ | refine blk_alloc ?_ _)); exact BK230.out⟩, ⟨by (with_reducible repeat (first | refine blk_drewN ?_ _ | refine blk_drew ?_ | refine blk_alloc ?_ _)); refine blk_put (cs := #[.int .i64 t236, .int .i64 0]) ?_ 1 _ rfl; (with_reducible repeat (first | refine blk_drewN ?_ _ | refine blk_drew ?_ | refine blk_alloc ?_ _)); refine blk_put (cs := #[.int .i64 0, .int .i64 0]) ?_ 0 _ rfl; (with_reducible repeat (first | refine blk_drewN ?_ _ | refine blk_drew ?_ | refine blk_alloc ?_ _)); exact BK239.out⟩, ⟨by repeat (first | (with_reducible first | exact HB.out | apply below_alloc | apply pw_below_drewN | apply below_drew1 | refine below_set ?_ GE230.out | refine below_set ?_ GE239.out) | exact HB.out)⟩⟩
        · rw [if_neg c19] at H
          have c19b0 : (t238 == 0) = false := beq_eq_false_iff_ne.mpr c19
          have c19b1 : (t238 != 0) = true := bne_iff_ne.mpr c19
          (first | rw [c19b0] | (simp only [i64_w, i32_w]; rw [c19b0]) | skip)
          have H' := Aside0.mk H
          clear H
          go_wp2
          repeat (go_quiet (fail); try go_wp2)
          go_meet
          case rel => exact ⟨_, (true), (by first | rfl | (simp; done) | (simp [*]; done)), H', ⟨by first | omega | exact Nat.le_refl _⟩, ⟨by (with_reducible repeat (first | apply Kd.R_alloc | apply Kd.R_drewN | apply Kd.R_drew)); exact Kd.R_mono (Kd.R_far (p := ⟨gb239, 1, none⟩) (Kd.R_far (p := ⟨gb239, 0, none⟩) (Kd.R_types HO226.out BK239.out (by decide)) (fun _ hk => hk.2) (.int .i64 t236)) (fun _ hk => hk.2) (.int .i64 t237)) (fun _ hk => hk.1.2)⟩, ⟨by (with_reducible repeat (first | apply Kd.R_alloc | apply Kd.R_drewN | apply Kd.R_drew)); exact Kd.R_mono (Kd.R_far (p := ⟨gb239, 1, none⟩) (Kd.R_far (p := ⟨gb239, 0, none⟩) (Kd.R_types HO235.out BK239.out (by decide)) (fun _ hk => hk.2) (.int .i64 t236)) (fun _ hk => hk.2) (.int .i64 t237)) (fun _ hk => hk.1.2)⟩, ⟨by (with_reducible repeat (first | refine blk_drewN ?_ _ | refine blk_drew ?_ | refine blk_alloc ?_ _)); refine blk_far ?_ NB230_239.out _; (with_reducible repeat (first | refine blk_drewN ?_ _ | refine blk_drew ?_ | refine blk_alloc ?_ _)); refine blk_far ?_ NB230_239.out _; (with_reducible repeat (first | refine blk_drewN ?_ _ | refine blk_drew ?_ | refine blk_alloc ?_ _)); exact BK230.out⟩, ⟨by (with_reducible repeat (first | refine blk_drewN ?_ _ | refine blk_drew ?_ | refine blk_alloc ?_ _)); refine blk_put (cs := #[.int .i64 t236, .int .i64 0]) ?_ 1 _ rfl; (with_reducible repeat (first | refine blk_drewN ?_ _ | refine blk_drew ?_ | refine blk_alloc ?_ _)); refine blk_put (cs := #[.int .i64 0, .int .i64 0]) ?_ 0 _ rfl; (with_reducible repeat (first | refine blk_drewN ?_ _ | refine blk_drew ?_ | refine blk_alloc ?_ _)); exact BK239.out⟩, ⟨by repeat (first | (with_reducible first | exact HB.out | apply below_alloc | apply pw_below_drewN | apply below_drew1 | refine below_set ?_ GE230.out | refine below_set ?_ GE239.out) | exact HB.out)⟩⟩
      case rest =>
        clear HC9
        try clear c1
        try clear c2
        try clear c2b0
        try clear c2b1
        try clear p2
        try clear c6
        try clear c6b0
        try clear c6b1
        try clear p6
        try clear c17
        try clear c19
        try clear c19b0
        try clear c19b1
        try clear c20
        try clear c20b0
        try clear c20b1
        try clear c20b2
        try clear c22
        try clear hcz12_0
        try clear hcz12_1
        try clear hcz18_0
        try clear hcz18_1
        try clear hcz23_0
        try clear hcz23_1
        try clear hfz12_0
        try clear hfz12_1
        try clear hfz18_0
        try clear hfz18_1
        try clear hfz23_0
        try clear hfz23_1
        obtain ⟨kq, x54_8, rfl, HA, HJ8, HO_3, HO_7, BK230, BK239, HB⟩ := hcut
        cases kq with
        | zero => exact absurd HA.out (by simp [rushlightlaw07_LexBack.j0])
        | succ kj8 =>
          have H := HA.out
          clear HA
          simp only [rushlightlaw07_LexBack.j0] at H
          by_cases c25 : x54_8 = true
          · subst c25
            have H1 : (some false) = some r := by rw [if_pos rfl] at H; exact H
            clear H
            have H := H1
            clear H1
            obtain rfl := Option.some.inj H
            go_wp2
            repeat (go_quiet (fail); try go_wp2)
            go_ret
            exact ⟨by first | rfl | (simp [errW_none, errW_some] <;> rfl) | (simp [*, errW_none, errW_some] <;> rfl), by repeat (first | (with_reducible first | exact HB.out | apply below_alloc | apply pw_below_drewN | apply below_drew1 | refine below_set ?_ GE230.out | refine below_set ?_ GE239.out) | exact HB.out)⟩
          · replace c25 := Bool.eq_false_iff.mpr c25
            subst c25
            have H1 : (rushlightlaw07_LexBack.l0 kj8 t224 t233 0 0) = some r := by rw [if_neg (show ¬ (false = true) by decide)] at H; exact H
            clear H
            have H := H1
            clear H1
            have H' := Aside0.mk H
            clear H
            go_wp2
            repeat (go_quiet (fail); try go_wp2)
            go_loopg [10, 11] kj8 (fun kq v10 v11 w' => ∃ (x10_2 : Int) (x11_2 : Int), v10 = .int .i64 x10_2 ∧ v11 = .int .i64 x11_2 ∧ Aside0 (rushlightlaw07_LexBack.l0 kq t224 t233 x10_2 x11_2 = some r) ∧ Aside0 (kq ≤ kj8) ∧ Aside0 (Kd.R k33 33 w' w.heap.size (fun k_ => some k_ ≠ (v234 : Value).ownBlock) (.slice Ao13 t224.length co13) t224) ∧ Aside0 (Kd.R k33 33 w' w.heap.size (fun k_ => some k_ ≠ ((.slice Ao13 t224.length co13) : Value).ownBlock) v234 t233) ∧ Aside0 (w'.heap[gb230]? = some (.cells #[.int .i64 t227, .int .i64 t228] 26 (0, 0))) ∧ Aside0 (w'.heap[gb239]? = some (.cells #[.int .i64 t236, .int .i64 t237] 26 (0, 0))) ∧ Aside0 (Below w.heap.size w w'))
            case atStart => exact ⟨(0), (0), (by first | rfl | (simp; done) | (simp [*]; done)), (by first | rfl | (simp; done) | (simp [*]; done)), H', ⟨Nat.le_refl _⟩, ⟨by (with_reducible repeat (first | apply Kd.R_alloc | apply Kd.R_drewN | apply Kd.R_drew)); exact HO_3.out⟩, ⟨by (with_reducible repeat (first | apply Kd.R_alloc | apply Kd.R_drewN | apply Kd.R_drew)); exact HO_7.out⟩, ⟨by (with_reducible repeat (first | refine blk_drewN ?_ _ | refine blk_drew ?_ | refine blk_alloc ?_ _)); exact BK230.out⟩, ⟨by (with_reducible repeat (first | refine blk_drewN ?_ _ | refine blk_drew ?_ | refine blk_alloc ?_ _)); exact BK239.out⟩, ⟨by repeat (first | (with_reducible first | exact HB.out | apply below_alloc | apply pw_below_drewN | apply below_drew1 | refine below_set ?_ GE230.out | refine below_set ?_ GE239.out) | exact HB.out)⟩⟩
            case round =>
              clear H'
              try clear c1
              try clear c2
              try clear c2b0
              try clear c2b1
              try clear p2
              try clear c6
              try clear c6b0
              try clear c6b1
              try clear p6
              try clear c17
              try clear c19
              try clear c19b0
              try clear c19b1
              try clear c20
              try clear c20b0
              try clear c20b1
              try clear c20b2
              try clear c22
              try clear c25
              try clear hcz12_0
              try clear hcz12_1
              try clear hcz18_0
              try clear hcz18_1
              try clear hcz23_0
              try clear hcz23_1
              try clear hfz12_0
              try clear hfz12_1
              try clear hfz18_0
              try clear hfz18_1
              try clear hfz23_0
              try clear hfz23_1
              try clear p2
              try clear p6
              obtain ⟨x10_2, x11_2, rfl, rfl, HA, HK2, HO_3, HO_7, BK230, BK239, HB⟩ := hrel
              cases gk with
              | zero => exact absurd HA.out (by simp [rushlightlaw07_LexBack.l0])
              | succ k2 =>
                have H := HA.out
                clear HA
                simp only [rushlightlaw07_LexBack.l0] at H
                by_cases c26 : x11_2 < (t233.length : Int)
                · rw [if_pos c26] at H
                  have c26b0 : decide (x11_2 < (t233.length : Int)) = true := decide_eq_true c26
                  clear c26
                  by_cases c27 : 0 ≤ x11_2
                  · rw [if_pos c27] at H
                    have c27b0 : decide (0 ≤ x11_2) = true := decide_eq_true c27
                    clear c27
                    by_cases c28 : x11_2 < (t224.length : Int)
                    · rw [if_pos c28] at H
                      have c28b0 : decide (x11_2 < (t224.length : Int)) = true := decide_eq_true c28
                      clear c28
                      by_cases c29 : ((rd_T33 t233 x11_2).f0) = ((rd_T33 t224 x11_2).f0)
                      · rw [if_pos c29] at H
                        have c29b0 : (((rd_T33 t233 x11_2).f0) == ((rd_T33 t224 x11_2).f0)) = true := beq_iff_eq.mpr c29
                        have c29b1 : (((rd_T33 t233 x11_2).f0) != ((rd_T33 t224 x11_2).f0)) = false := bne_eq_false_iff_eq.mpr c29
                        clear c29
                        by_cases c30 : ((rd_T33 t233 x11_2).f1).toList = ((rd_T33 t224 x11_2).f1).toList
                        · rw [if_pos c30] at H
                          have c30b0 : (((rd_T33 t233 x11_2).f1).toList == ((rd_T33 t224 x11_2).f1).toList) = true := beq_iff_eq.mpr c30
                          have c30b1 : (((rd_T33 t233 x11_2).f1).toList != ((rd_T33 t224 x11_2).f1).toList) = false := bne_eq_false_iff_eq.mpr c30
                          clear c30
                          by_cases c31 : ((rd_T33 t233 x11_2).f2) = ((rd_T33 t224 x11_2).f2)
                          · rw [if_pos c31] at H
                            have c31b0 : (((rd_T33 t233 x11_2).f2) == ((rd_T33 t224 x11_2).f2)) = true := beq_iff_eq.mpr c31
                            have c31b1 : (((rd_T33 t233 x11_2).f2) != ((rd_T33 t224 x11_2).f2)) = false := bne_eq_false_iff_eq.mpr c31
                            clear c31
                            by_cases c32 : (!(((rd_T33 t233 x11_2).f3.f0) == 1) || (!(((rd_T33 t233 x11_2).f3.f1) == (wrap64 (x10_2 + 1))))) = true
                            · rw [if_pos c32] at H
                              have c32b0 : (!(((rd_T33 t233 x11_2).f3.f0) == 1) || (!(((rd_T33 t233 x11_2).f3.f1) == (wrap64 (x10_2 + 1))))) = true := c32
                              clear c32
                              obtain rfl := Option.some.inj H
                              obtain ⟨Ao33, co33, eo33⟩ := Kd.R_slice HO_7.out
                              subst eo33
                              have p240 : 0 ≤ (x11_2 : Int) := of_decide_eq_true (by first | (with_reducible assumption) | assumption)
                              have q240 : x11_2 < (t233.length : Int) := of_decide_eq_true (by first | (with_reducible assumption) | assumption)
                              obtain ⟨ad240, e240, hx240_0, hx240_1, hx240_2, hx240_3, hx240_4⟩ := at_T33 (Kd.R_reads' HO_7.out).2.2 x11_2 p240 q240
                              cases e240
                              replace p240 := eq_true p240
                              replace q240 := eq_true q240
                              have p241 : 0 ≤ (x11_2 : Int) := of_decide_eq_true (by first | (with_reducible assumption) | assumption)
                              have q241 : x11_2 < (t224.length : Int) := of_decide_eq_true (by first | (with_reducible assumption) | assumption)
                              obtain ⟨ad241, e241, hx241_0, hx241_1, hx241_2, hx241_3, hx241_4⟩ := at_T33 (Kd.R_reads' HO_3.out).2.2 x11_2 p241 q241
                              cases e241
                              replace p241 := eq_true p241
                              replace q241 := eq_true q241
                              have p242 : 0 ≤ (x11_2 : Int) := of_decide_eq_true (by first | (with_reducible assumption) | assumption)
                              have q242 : x11_2 < (t233.length : Int) := of_decide_eq_true (by first | (with_reducible assumption) | assumption)
                              obtain ⟨ad242, e242, hx242_0, hx242_1, hx242_2, hx242_3, hx242_4⟩ := at_T33 (Kd.R_reads' HO_7.out).2.2 x11_2 p242 q242
                              obtain rfl : ad240 = ad242 := (by injection e242)
                              replace p242 := eq_true p242
                              replace q242 := eq_true q242
                              have p243 : 0 ≤ (x11_2 : Int) := of_decide_eq_true (by first | (with_reducible assumption) | assumption)
                              have q243 : x11_2 < (t224.length : Int) := of_decide_eq_true (by first | (with_reducible assumption) | assumption)
                              obtain ⟨ad243, e243, hx243_0, hx243_1, hx243_2, hx243_3, hx243_4⟩ := at_T33 (Kd.R_reads' HO_3.out).2.2 x11_2 p243 q243
                              obtain rfl : ad241 = ad243 := (by injection e243)
                              replace p243 := eq_true p243
                              replace q243 := eq_true q243
                              have p244 : 0 ≤ (x11_2 : Int) := of_decide_eq_true (by first | (with_reducible assumption) | assumption)
                              have q244 : x11_2 < (t233.length : Int) := of_decide_eq_true (by first | (with_reducible assumption) | assumption)
                              obtain ⟨ad244, e244, hx244_0, hx244_1, hx244_2, hx244_3, hx244_4⟩ := at_T33 (Kd.R_reads' HO_7.out).2.2 x11_2 p244 q244
                              obtain rfl : ad240 = ad244 := (by injection e244)
                              replace p244 := eq_true p244
                              replace q244 := eq_true q244
                              have p245 : 0 ≤ (x11_2 : Int) := of_decide_eq_true (by first | (with_reducible assumption) | assumption)
                              have q245 : x11_2 < (t224.length : Int) := of_decide_eq_true (by first | (with_reducible assumption) | assumption)
                              obtain ⟨ad245, e245, hx245_0, hx245_1, hx245_2, hx245_3, hx245_4⟩ := at_T33 (Kd.R_reads' HO_3.out).2.2 x11_2 p245 q245
                              obtain rfl : ad241 = ad245 := (by injection e245)
                              replace p245 := eq_true p245
                              replace q245 := eq_true q245
                              have p246 : 0 ≤ (x11_2 : Int) := of_decide_eq_true (by first | (with_reducible assumption) | assumption)
                              have q246 : x11_2 < (t233.length : Int) := of_decide_eq_true (by first | (with_reducible assumption) | assumption)
                              obtain ⟨ad246, e246, hx246_0, hx246_1, hx246_2, hx246_3, hx246_4⟩ := at_T33 (Kd.R_reads' HO_7.out).2.2 x11_2 p246 q246
                              obtain rfl : ad240 = ad246 := (by injection e246)
                              replace p246 := eq_true p246
                              replace q246 := eq_true q246
                              go_wp2
                              repeat (go_quiet (fail); try go_wp2)
                              go_ret
                              exact ⟨by first | rfl | (simp [errW_none, errW_some] <;> rfl) | (simp [*, errW_none, errW_some] <;> rfl), by repeat (first | (with_reducible first | exact HB.out | apply below_alloc | apply pw_below_drewN | apply below_drew1 | refine below_set ?_ GE230.out | refine below_set ?_ GE239.out) | exact HB.out)⟩
                            · rw [if_neg c32] at H
                              have c32b0 : (!(((rd_T33 t233 x11_2).f3.f0) == 1) || (!(((rd_T33 t233 x11_2).f3.f1) == (wrap64 (x10_2 + 1))))) = false := by simpa using c32
                              clear c32
                              have H' := Aside0.mk H
                              clear H
                              obtain ⟨Ao34, co34, eo34⟩ := Kd.R_slice HO_7.out
                              subst eo34
                              have p240 : 0 ≤ (x11_2 : Int) := of_decide_eq_true (by first | (with_reducible assumption) | assumption)
                              have q240 : x11_2 < (t233.length : Int) := of_decide_eq_true (by first | (with_reducible assumption) | assumption)
                              obtain ⟨ad240, e240, hx240_0, hx240_1, hx240_2, hx240_3, hx240_4⟩ := at_T33 (Kd.R_reads' HO_7.out).2.2 x11_2 p240 q240
                              cases e240
                              replace p240 := eq_true p240
                              replace q240 := eq_true q240
                              have p241 : 0 ≤ (x11_2 : Int) := of_decide_eq_true (by first | (with_reducible assumption) | assumption)
                              have q241 : x11_2 < (t224.length : Int) := of_decide_eq_true (by first | (with_reducible assumption) | assumption)
                              obtain ⟨ad241, e241, hx241_0, hx241_1, hx241_2, hx241_3, hx241_4⟩ := at_T33 (Kd.R_reads' HO_3.out).2.2 x11_2 p241 q241
                              cases e241
                              replace p241 := eq_true p241
                              replace q241 := eq_true q241
                              have p242 : 0 ≤ (x11_2 : Int) := of_decide_eq_true (by first | (with_reducible assumption) | assumption)
                              have q242 : x11_2 < (t233.length : Int) := of_decide_eq_true (by first | (with_reducible assumption) | assumption)
                              obtain ⟨ad242, e242, hx242_0, hx242_1, hx242_2, hx242_3, hx242_4⟩ := at_T33 (Kd.R_reads' HO_7.out).2.2 x11_2 p242 q242
                              obtain rfl : ad240 = ad242 := (by injection e242)
                              replace p242 := eq_true p242
                              replace q242 := eq_true q242
                              have p243 : 0 ≤ (x11_2 : Int) := of_decide_eq_true (by first | (with_reducible assumption) | assumption)
                              have q243 : x11_2 < (t224.length : Int) := of_decide_eq_true (by first | (with_reducible assumption) | assumption)
                              obtain ⟨ad243, e243, hx243_0, hx243_1, hx243_2, hx243_3, hx243_4⟩ := at_T33 (Kd.R_reads' HO_3.out).2.2 x11_2 p243 q243
                              obtain rfl : ad241 = ad243 := (by injection e243)
                              replace p243 := eq_true p243
                              replace q243 := eq_true q243
                              have p244 : 0 ≤ (x11_2 : Int) := of_decide_eq_true (by first | (with_reducible assumption) | assumption)
                              have q244 : x11_2 < (t233.length : Int) := of_decide_eq_true (by first | (with_reducible assumption) | assumption)
                              obtain ⟨ad244, e244, hx244_0, hx244_1, hx244_2, hx244_3, hx244_4⟩ := at_T33 (Kd.R_reads' HO_7.out).2.2 x11_2 p244 q244
                              obtain rfl : ad240 = ad244 := (by injection e244)
                              replace p244 := eq_true p244
                              replace q244 := eq_true q244
                              have p245 : 0 ≤ (x11_2 : Int) := of_decide_eq_true (by first | (with_reducible assumption) | assumption)
                              have q245 : x11_2 < (t224.length : Int) := of_decide_eq_true (by first | (with_reducible assumption) | assumption)
                              obtain ⟨ad245, e245, hx245_0, hx245_1, hx245_2, hx245_3, hx245_4⟩ := at_T33 (Kd.R_reads' HO_3.out).2.2 x11_2 p245 q245
                              obtain rfl : ad241 = ad245 := (by injection e245)
                              replace p245 := eq_true p245
                              replace q245 := eq_true q245
                              have p246 : 0 ≤ (x11_2 : Int) := of_decide_eq_true (by first | (with_reducible assumption) | assumption)
                              have q246 : x11_2 < (t233.length : Int) := of_decide_eq_true (by first | (with_reducible assumption) | assumption)
                              obtain ⟨ad246, e246, hx246_0, hx246_1, hx246_2, hx246_3, hx246_4⟩ := at_T33 (Kd.R_reads' HO_7.out).2.2 x11_2 p246 q246
                              obtain rfl : ad240 = ad246 := (by injection e246)
                              replace p246 := eq_true p246
                              replace q246 := eq_true q246
                              have p247 : 0 ≤ (x11_2 : Int) := of_decide_eq_true (by first | (with_reducible assumption) | assumption)
                              have q247 : x11_2 < (t224.length : Int) := of_decide_eq_true (by first | (with_reducible assumption) | assumption)
                              obtain ⟨ad247, e247, hx247_0, hx247_1, hx247_2, hx247_3, hx247_4⟩ := at_T33 (Kd.R_reads' HO_3.out).2.2 x11_2 p247 q247
                              obtain rfl : ad241 = ad247 := (by injection e247)
                              replace p247 := eq_true p247
                              replace q247 := eq_true q247
                              go_wp2
                              repeat (go_quiet (fail); try go_wp2)
                              go_roundg k2
                              case measure => have := HJ8.out; have := HK2.out; omega
                              case rel => exact ⟨(wrap64 ((wrap64 (x10_2 + (((rd_T33 t224 x11_2).f1).size : Int))) + 1)), (wrap64 (x11_2 + 1)), (by first | rfl | (simp; done) | (simp [*]; done)), (by first | rfl | (simp; done) | (simp [*]; done)), H', ⟨by have := HJ8.out; have := HK2.out; omega⟩, ⟨by (with_reducible repeat (first | apply Kd.R_alloc | apply Kd.R_drewN | apply Kd.R_drew)); exact HO_3.out⟩, ⟨by (with_reducible repeat (first | apply Kd.R_alloc | apply Kd.R_drewN | apply Kd.R_drew)); exact HO_7.out⟩, ⟨by (with_reducible repeat (first | refine blk_drewN ?_ _ | refine blk_drew ?_ | refine blk_alloc ?_ _)); exact BK230.out⟩, ⟨by (with_reducible repeat (first | refine blk_drewN ?_ _ | refine blk_drew ?_ | refine blk_alloc ?_ _)); exact BK239.out⟩, ⟨by repeat (first | (with_reducible first | exact HB.out | apply below_alloc | apply pw_below_drewN | apply below_drew1 | refine below_set ?_ GE230.out | refine below_set ?_ GE239.out) | exact HB.out)⟩⟩
                          · rw [if_neg c31] at H
                            have c31b0 : (((rd_T33 t233 x11_2).f2) == ((rd_T33 t224 x11_2).f2)) = false := beq_eq_false_iff_ne.mpr c31
                            have c31b1 : (((rd_T33 t233 x11_2).f2) != ((rd_T33 t224 x11_2).f2)) = true := bne_iff_ne.mpr c31
                            obtain rfl := Option.some.inj H
                            obtain ⟨Ao35, co35, eo35⟩ := Kd.R_slice HO_7.out
                            subst eo35
                            have p240 : 0 ≤ (x11_2 : Int) := of_decide_eq_true (by first | (with_reducible assumption) | assumption)
                            have q240 : x11_2 < (t233.length : Int) := of_decide_eq_true (by first | (with_reducible assumption) | assumption)
                            obtain ⟨ad240, e240, hx240_0, hx240_1, hx240_2, hx240_3, hx240_4⟩ := at_T33 (Kd.R_reads' HO_7.out).2.2 x11_2 p240 q240
                            cases e240
                            replace p240 := eq_true p240
                            replace q240 := eq_true q240
                            have p241 : 0 ≤ (x11_2 : Int) := of_decide_eq_true (by first | (with_reducible assumption) | assumption)
                            have q241 : x11_2 < (t224.length : Int) := of_decide_eq_true (by first | (with_reducible assumption) | assumption)
                            obtain ⟨ad241, e241, hx241_0, hx241_1, hx241_2, hx241_3, hx241_4⟩ := at_T33 (Kd.R_reads' HO_3.out).2.2 x11_2 p241 q241
                            cases e241
                            replace p241 := eq_true p241
                            replace q241 := eq_true q241
                            have p242 : 0 ≤ (x11_2 : Int) := of_decide_eq_true (by first | (with_reducible assumption) | assumption)
                            have q242 : x11_2 < (t233.length : Int) := of_decide_eq_true (by first | (with_reducible assumption) | assumption)
                            obtain ⟨ad242, e242, hx242_0, hx242_1, hx242_2, hx242_3, hx242_4⟩ := at_T33 (Kd.R_reads' HO_7.out).2.2 x11_2 p242 q242
                            obtain rfl : ad240 = ad242 := (by injection e242)
                            replace p242 := eq_true p242
                            replace q242 := eq_true q242
                            have p243 : 0 ≤ (x11_2 : Int) := of_decide_eq_true (by first | (with_reducible assumption) | assumption)
                            have q243 : x11_2 < (t224.length : Int) := of_decide_eq_true (by first | (with_reducible assumption) | assumption)
                            obtain ⟨ad243, e243, hx243_0, hx243_1, hx243_2, hx243_3, hx243_4⟩ := at_T33 (Kd.R_reads' HO_3.out).2.2 x11_2 p243 q243
                            obtain rfl : ad241 = ad243 := (by injection e243)
                            replace p243 := eq_true p243
                            replace q243 := eq_true q243
                            have p244 : 0 ≤ (x11_2 : Int) := of_decide_eq_true (by first | (with_reducible assumption) | assumption)
                            have q244 : x11_2 < (t233.length : Int) := of_decide_eq_true (by first | (with_reducible assumption) | assumption)
                            obtain ⟨ad244, e244, hx244_0, hx244_1, hx244_2, hx244_3, hx244_4⟩ := at_T33 (Kd.R_reads' HO_7.out).2.2 x11_2 p244 q244
                            obtain rfl : ad240 = ad244 := (by injection e244)
                            replace p244 := eq_true p244
                            replace q244 := eq_true q244
                            have p245 : 0 ≤ (x11_2 : Int) := of_decide_eq_true (by first | (with_reducible assumption) | assumption)
                            have q245 : x11_2 < (t224.length : Int) := of_decide_eq_true (by first | (with_reducible assumption) | assumption)
                            obtain ⟨ad245, e245, hx245_0, hx245_1, hx245_2, hx245_3, hx245_4⟩ := at_T33 (Kd.R_reads' HO_3.out).2.2 x11_2 p245 q245
                            obtain rfl : ad241 = ad245 := (by injection e245)
                            replace p245 := eq_true p245
                            replace q245 := eq_true q245
                            go_wp2
                            repeat (go_quiet (fail); try go_wp2)
                            go_ret
                            exact ⟨by first | rfl | (simp [errW_none, errW_some] <;> rfl) | (simp [*, errW_none, errW_some] <;> rfl), by repeat (first | (with_reducible first | exact HB.out | apply below_alloc | apply pw_below_drewN | apply below_drew1 | refine below_set ?_ GE230.out | refine below_set ?_ GE239.out) | exact HB.out)⟩
                        · rw [if_neg c30] at H
                          have c30b0 : (((rd_T33 t233 x11_2).f1).toList == ((rd_T33 t224 x11_2).f1).toList) = false := beq_eq_false_iff_ne.mpr c30
                          have c30b1 : (((rd_T33 t233 x11_2).f1).toList != ((rd_T33 t224 x11_2).f1).toList) = true := bne_iff_ne.mpr c30
                          obtain rfl := Option.some.inj H
                          obtain ⟨Ao36, co36, eo36⟩ := Kd.R_slice HO_7.out
                          subst eo36
                          have p240 : 0 ≤ (x11_2 : Int) := of_decide_eq_true (by first | (with_reducible assumption) | assumption)
                          have q240 : x11_2 < (t233.length : Int) := of_decide_eq_true (by first | (with_reducible assumption) | assumption)
                          obtain ⟨ad240, e240, hx240_0, hx240_1, hx240_2, hx240_3, hx240_4⟩ := at_T33 (Kd.R_reads' HO_7.out).2.2 x11_2 p240 q240
                          cases e240
                          replace p240 := eq_true p240
                          replace q240 := eq_true q240
                          have p241 : 0 ≤ (x11_2 : Int) := of_decide_eq_true (by first | (with_reducible assumption) | assumption)
                          have q241 : x11_2 < (t224.length : Int) := of_decide_eq_true (by first | (with_reducible assumption) | assumption)
                          obtain ⟨ad241, e241, hx241_0, hx241_1, hx241_2, hx241_3, hx241_4⟩ := at_T33 (Kd.R_reads' HO_3.out).2.2 x11_2 p241 q241
                          cases e241
                          replace p241 := eq_true p241
                          replace q241 := eq_true q241
                          have p242 : 0 ≤ (x11_2 : Int) := of_decide_eq_true (by first | (with_reducible assumption) | assumption)
                          have q242 : x11_2 < (t233.length : Int) := of_decide_eq_true (by first | (with_reducible assumption) | assumption)
                          obtain ⟨ad242, e242, hx242_0, hx242_1, hx242_2, hx242_3, hx242_4⟩ := at_T33 (Kd.R_reads' HO_7.out).2.2 x11_2 p242 q242
                          obtain rfl : ad240 = ad242 := (by injection e242)
                          replace p242 := eq_true p242
                          replace q242 := eq_true q242
                          have p243 : 0 ≤ (x11_2 : Int) := of_decide_eq_true (by first | (with_reducible assumption) | assumption)
                          have q243 : x11_2 < (t224.length : Int) := of_decide_eq_true (by first | (with_reducible assumption) | assumption)
                          obtain ⟨ad243, e243, hx243_0, hx243_1, hx243_2, hx243_3, hx243_4⟩ := at_T33 (Kd.R_reads' HO_3.out).2.2 x11_2 p243 q243
                          obtain rfl : ad241 = ad243 := (by injection e243)
                          replace p243 := eq_true p243
                          replace q243 := eq_true q243
                          go_wp2
                          repeat (go_quiet (fail); try go_wp2)
                          go_ret
                          exact ⟨by first | rfl | (simp [errW_none, errW_some] <;> rfl) | (simp [*, errW_none, errW_some] <;> rfl), by repeat (first | (with_reducible first | exact HB.out | apply below_alloc | apply pw_below_drewN | apply below_drew1 | refine below_set ?_ GE230.out | refine below_set ?_ GE239.out) | exact HB.out)⟩
                      · rw [if_neg c29] at H
                        have c29b0 : (((rd_T33 t233 x11_2).f0) == ((rd_T33 t224 x11_2).f0)) = false := beq_eq_false_iff_ne.mpr c29
                        have c29b1 : (((rd_T33 t233 x11_2).f0) != ((rd_T33 t224 x11_2).f0)) = true := bne_iff_ne.mpr c29
                        obtain rfl := Option.some.inj H
                        obtain ⟨Ao37, co37, eo37⟩ := Kd.R_slice HO_7.out
                        subst eo37
                        have p240 : 0 ≤ (x11_2 : Int) := of_decide_eq_true (by first | (with_reducible assumption) | assumption)
                        have q240 : x11_2 < (t233.length : Int) := of_decide_eq_true (by first | (with_reducible assumption) | assumption)
                        obtain ⟨ad240, e240, hx240_0, hx240_1, hx240_2, hx240_3, hx240_4⟩ := at_T33 (Kd.R_reads' HO_7.out).2.2 x11_2 p240 q240
                        cases e240
                        replace p240 := eq_true p240
                        replace q240 := eq_true q240
                        have p241 : 0 ≤ (x11_2 : Int) := of_decide_eq_true (by first | (with_reducible assumption) | assumption)
                        have q241 : x11_2 < (t224.length : Int) := of_decide_eq_true (by first | (with_reducible assumption) | assumption)
                        obtain ⟨ad241, e241, hx241_0, hx241_1, hx241_2, hx241_3, hx241_4⟩ := at_T33 (Kd.R_reads' HO_3.out).2.2 x11_2 p241 q241
                        cases e241
                        replace p241 := eq_true p241
                        replace q241 := eq_true q241
                        go_wp2
                        repeat (go_quiet (fail); try go_wp2)
                        go_ret
                        exact ⟨by first | rfl | (simp [errW_none, errW_some] <;> rfl) | (simp [*, errW_none, errW_some] <;> rfl), by repeat (first | (with_reducible first | exact HB.out | apply below_alloc | apply pw_below_drewN | apply below_drew1 | refine below_set ?_ GE230.out | refine below_set ?_ GE239.out) | exact HB.out)⟩
                    · rw [if_neg c28] at H
                      exact absurd H (by simp)
                  · rw [if_neg c27] at H
                    exact absurd H (by simp)
                · rw [if_neg c26] at H
                  have c26b0 : decide (x11_2 < (t233.length : Int)) = false := decide_eq_false c26
                  clear c26
                  replace H := Option.bind_eq_some_iff.mp H
                  obtain ⟨t248, A380, H⟩ := H
                  replace H : (some t248) = some r := H
                  have A38 := Aside0.mk A380
                  clear A380
                  obtain rfl := Option.some.inj H
                  obtain ⟨Ao39, co39, eo39⟩ := Kd.R_slice HO_7.out
                  subst eo39
                  go_wp2_with (first | (go_at_call 7; (with_reducible refine (rushlightlaw07_awake.calls k2  t248 _ ?sG A38.out).mono ?_); (case sG => exact G0.at_ HG0.out (by repeat (first | (with_reducible first | exact HB.out | exact Below.refl _ _ | apply below_alloc | apply pw_below_drewN | apply below_drew1 | apply below_drew | exact Drawn0.below (by assumption)) | exact HB.out | (refine below_set ?_ (Aside0.out (by assumption)))))); rintro e w40 ⟨rfl, hb⟩; have n0_ := Aside0.mk (Kd.R_below (by (with_reducible repeat (first | apply Kd.R_alloc | apply Kd.R_drewN | apply Kd.R_drew)); exact HO_3.out) hb); have n1_ := Aside0.mk (Kd.R_below (by (with_reducible repeat (first | apply Kd.R_alloc | apply Kd.R_drewN | apply Kd.R_drew)); exact HO_7.out) hb); have n2_ := Aside0.mk (blk_below (g := gb230) (o := .cells #[.int .i64 t227, .int .i64 t228] 26 (0, 0)) (by (with_reducible repeat (first | refine blk_drewN ?_ _ | refine blk_drew ?_ | refine blk_alloc ?_ _)); exact BK230.out) hb); have n3_ := Aside0.mk (blk_below (g := gb239) (o := .cells #[.int .i64 t236, .int .i64 t237] 26 (0, 0)) (by (with_reducible repeat (first | refine blk_drewN ?_ _ | refine blk_drew ?_ | refine blk_alloc ?_ _)); exact BK239.out) hb); have n4_ := Aside0.mk (below_step (by repeat (first | (with_reducible first | exact HB.out | apply below_alloc | apply pw_below_drewN | apply below_drew1 | refine below_set ?_ GE230.out | refine below_set ?_ GE239.out) | exact HB.out)) hb); clear HO_3; clear HO_7; clear BK230; clear BK239; clear HB; have HO_3 := n0_; have HO_7 := n1_; have BK230 := n2_; have BK239 := n3_; have HB := n4_; clear n0_ n1_ n2_ n3_ n4_; (try clear hb); (try clear hb2); (try clear hk); (try clear hi)))
                  repeat (go_quiet (first | (go_at_call 7; (with_reducible refine (rushlightlaw07_awake.calls k2  t248 _ ?sG A38.out).mono ?_); (case sG => exact G0.at_ HG0.out (by repeat (first | (with_reducible first | exact HB.out | exact Below.refl _ _ | apply below_alloc | apply pw_below_drewN | apply below_drew1 | apply below_drew | exact Drawn0.below (by assumption)) | exact HB.out | (refine below_set ?_ (Aside0.out (by assumption)))))); rintro e w40 ⟨rfl, hb⟩; have n0_ := Aside0.mk (Kd.R_below (by (with_reducible repeat (first | apply Kd.R_alloc | apply Kd.R_drewN | apply Kd.R_drew)); exact HO_3.out) hb); have n1_ := Aside0.mk (Kd.R_below (by (with_reducible repeat (first | apply Kd.R_alloc | apply Kd.R_drewN | apply Kd.R_drew)); exact HO_7.out) hb); have n2_ := Aside0.mk (blk_below (g := gb230) (o := .cells #[.int .i64 t227, .int .i64 t228] 26 (0, 0)) (by (with_reducible repeat (first | refine blk_drewN ?_ _ | refine blk_drew ?_ | refine blk_alloc ?_ _)); exact BK230.out) hb); have n3_ := Aside0.mk (blk_below (g := gb239) (o := .cells #[.int .i64 t236, .int .i64 t237] 26 (0, 0)) (by (with_reducible repeat (first | refine blk_drewN ?_ _ | refine blk_drew ?_ | refine blk_alloc ?_ _)); exact BK239.out) hb); have n4_ := Aside0.mk (below_step (by repeat (first | (with_reducible first | exact HB.out | apply below_alloc | apply pw_below_drewN | apply below_drew1 | refine below_set ?_ GE230.out | refine below_set ?_ GE239.out) | exact HB.out)) hb); clear HO_3; clear HO_7; clear BK230; clear BK239; clear HB; have HO_3 := n0_; have HO_7 := n1_; have BK230 := n2_; have BK239 := n3_; have HB := n4_; clear n0_ n1_ n2_ n3_ n4_; (try clear hb); (try clear hb2); (try clear hk); (try clear hi))); try go_wp2_with (first | (go_at_call 7; (with_reducible refine (rushlightlaw07_awake.calls k2  t248 _ ?sG A38.out).mono ?_); (case sG => exact G0.at_ HG0.out (by repeat (first | (with_reducible first | exact HB.out | exact Below.refl _ _ | apply below_alloc | apply pw_below_drewN | apply below_drew1 | apply below_drew | exact Drawn0.below (by assumption)) | exact HB.out | (refine below_set ?_ (Aside0.out (by assumption)))))); rintro e w40 ⟨rfl, hb⟩; have n0_ := Aside0.mk (Kd.R_below (by (with_reducible repeat (first | apply Kd.R_alloc | apply Kd.R_drewN | apply Kd.R_drew)); exact HO_3.out) hb); have n1_ := Aside0.mk (Kd.R_below (by (with_reducible repeat (first | apply Kd.R_alloc | apply Kd.R_drewN | apply Kd.R_drew)); exact HO_7.out) hb); have n2_ := Aside0.mk (blk_below (g := gb230) (o := .cells #[.int .i64 t227, .int .i64 t228] 26 (0, 0)) (by (with_reducible repeat (first | refine blk_drewN ?_ _ | refine blk_drew ?_ | refine blk_alloc ?_ _)); exact BK230.out) hb); have n3_ := Aside0.mk (blk_below (g := gb239) (o := .cells #[.int .i64 t236, .int .i64 t237] 26 (0, 0)) (by (with_reducible repeat (first | refine blk_drewN ?_ _ | refine blk_drew ?_ | refine blk_alloc ?_ _)); exact BK239.out) hb); have n4_ := Aside0.mk (below_step (by repeat (first | (with_reducible first | exact HB.out | apply below_alloc | apply pw_below_drewN | apply below_drew1 | refine below_set ?_ GE230.out | refine below_set ?_ GE239.out) | exact HB.out)) hb); clear HO_3; clear HO_7; clear BK230; clear BK239; clear HB; have HO_3 := n0_; have HO_7 := n1_; have BK230 := n2_; have BK239 := n3_; have HB := n4_; clear n0_ n1_ n2_ n3_ n4_; (try clear hb); (try clear hb2); (try clear hk); (try clear hi))))
                  go_ret
                  exact ⟨by first | rfl | (simp [errW_none, errW_some] <;> rfl) | (simp [*, errW_none, errW_some] <;> rfl), by repeat (first | (with_reducible first | exact HB.out | apply below_alloc | apply pw_below_drewN | apply below_drew1 | refine below_set ?_ GE230.out | refine below_set ?_ GE239.out) | exact HB.out)⟩
    · rw [if_neg c6] at H
      have c6b0 : (t229 == 0) = false := beq_eq_false_iff_ne.mpr c6
      have c6b1 : (t229 != 0) = true := bne_iff_ne.mpr c6
      replace H := Option.bind_eq_some_iff.mp H
      obtain ⟨t231, A410, H⟩ := H
      replace H : (if t231 = true then (some ((t224.length : Int) == 0)) else (some false)) = some r := H
      have A41 := Aside0.mk A410
      clear A410
      by_cases c42 : t231 = true
      · subst c42
        have H1 : (some ((t224.length : Int) == 0)) = some r := by rw [if_pos rfl] at H; exact H
        clear H
        have H := H1
        clear H1
        obtain rfl := Option.some.inj H
        go_enter Try.func6, Try.ntmps6
        go_wp2_with (first | (go_at_call 8; (with_reducible refine (lex_Lex.calls k a0 t224 t227 t228 t229 _ ?sG A5.out).mono ?_); (case sG => exact G0.at_ HG0.out (by repeat (first | (with_reducible first | exact HB.out | exact Below.refl _ _ | apply below_alloc | apply pw_below_drewN | apply below_drew1 | apply below_drew | exact Drawn0.below (by assumption)) | exact HB.out | (refine below_set ?_ (Aside0.out (by assumption)))))); rintro e w43 ⟨v225, rfl, ho0, hb⟩; have n0_ := Aside0.mk (Kd.R_lower ho0 (below_size (by repeat (first | (with_reducible first | exact HB.out | apply below_alloc | apply pw_below_drewN | apply below_drew1) | exact HB.out)))); have n1_ := Aside0.mk (below_step (by repeat (first | (with_reducible first | exact HB.out | apply below_alloc | apply pw_below_drewN | apply below_drew1) | exact HB.out)) hb); clear HB; have HO226 := n0_; have HB := n1_; clear n0_ n1_; (try clear hb); (try clear hb2); (try clear hk); (try clear hi); (try clear ho0)) | ((with_reducible refine gate_dst (N := 4) rfl ?_); (try (refine gate_guard (by rfl) ?_; dsimp only)); refine box_event ?hg (N := 4) ?hd (cs := #[.int .i64 0, .int .i64 0]) (t := 26) ?hr ?_; (case hd => rfl); (case hg => rfl); (case hr => first | (go_simp; done) | (go_simp; rfl)); intro gb230 hg w44 hbox hb; have n0_ := Aside0.mk (Kd.R_below (by (with_reducible repeat (first | apply Kd.R_alloc | apply Kd.R_drewN | apply Kd.R_drew)); exact HO226.out) hb); have n1_ := Aside0.mk (below_step (by repeat (first | (with_reducible first | exact HB.out | apply below_alloc | apply pw_below_drewN | apply below_drew1) | exact HB.out)) hb); have n2_ := Aside0.mk (hbox); have n3_ := Aside0.mk ((by rw [hg]; exact (below_size (by repeat (first | (with_reducible first | exact HB.out | apply below_alloc | apply pw_below_drewN | apply below_drew1) | exact HB.out))) : w.heap.size ≤ gb230)); have n4_ := Aside0.mk ((by rw [hg]; exact (below_size (by repeat (first | (with_reducible first | exact HB.out | apply below_alloc | apply pw_below_drewN | apply below_drew1) | exact HB.out))) : w.heap.size ≤ gb230)); clear HO226; clear HB; have HO226 := n0_; have HB := n1_; have BK230 := n2_; have GW230 := n3_; have GE230 := n4_; clear n0_ n1_ n2_ n3_ n4_; clear hb hbox hg; have hcz45_0 : w44.cell? ⟨gb230, 0, none⟩ = some (.int .i64 0) := (blk_cell BK230.out 0).trans rfl; have hcz45_1 : w44.cell? ⟨gb230, 1, none⟩ = some (.int .i64 0) := (blk_cell BK230.out 1).trans rfl; have hfz45_0 := blk_frozen BK230.out 0; have hfz45_1 := blk_frozen BK230.out 1) | (go_at_call 7; (with_reducible refine (rushlightlaw07_awake.calls k  true _ ?sG A41.out).mono ?_); (case sG => exact G0.at_ HG0.out (by repeat (first | (with_reducible first | exact HB.out | exact Below.refl _ _ | apply below_alloc | apply pw_below_drewN | apply below_drew1 | apply below_drew | exact Drawn0.below (by assumption)) | exact HB.out | (refine below_set ?_ (Aside0.out (by assumption)))))); rintro e w46 ⟨rfl, hb⟩; have n0_ := Aside0.mk (Kd.R_below (by (with_reducible repeat (first | apply Kd.R_alloc | apply Kd.R_drewN | apply Kd.R_drew)); exact (Kd.R_mono (Kd.R_far (p := ⟨gb230, 1, none⟩) (Kd.R_far (p := ⟨gb230, 0, none⟩) (Kd.R_types HO226.out BK230.out (by decide)) (fun _ hk => hk.2) (.int .i64 t227)) (fun _ hk => hk.2) (.int .i64 t228)) (fun _ h_ => h_.1))) hb); have n1_ := Aside0.mk (blk_below (g := gb230) (o := .cells #[.int .i64 t227, .int .i64 t228] 26 (0, 0)) (by (with_reducible repeat (first | refine blk_drewN ?_ _ | refine blk_drew ?_ | refine blk_alloc ?_ _)); refine blk_put (cs := #[.int .i64 t227, .int .i64 0]) ?_ 1 _ rfl; (with_reducible repeat (first | refine blk_drewN ?_ _ | refine blk_drew ?_ | refine blk_alloc ?_ _)); refine blk_put (cs := #[.int .i64 0, .int .i64 0]) ?_ 0 _ rfl; (with_reducible repeat (first | refine blk_drewN ?_ _ | refine blk_drew ?_ | refine blk_alloc ?_ _)); exact BK230.out) hb); have n2_ := Aside0.mk (below_step (by repeat (first | (with_reducible first | exact HB.out | apply below_alloc | apply pw_below_drewN | apply below_drew1 | refine below_set ?_ GE230.out) | exact HB.out)) hb); clear HO226; clear BK230; clear HB; have HO226 := n0_; have BK230 := n1_; have HB := n2_; clear n0_ n1_ n2_; (try clear hb); (try clear hb2); (try clear hk); (try clear hi); obtain ⟨Ao47, co47, eo47⟩ := Kd.R_slice HO226.out; subst eo47))
        repeat (go_quiet (first | (go_at_call 8; (with_reducible refine (lex_Lex.calls k a0 t224 t227 t228 t229 _ ?sG A5.out).mono ?_); (case sG => exact G0.at_ HG0.out (by repeat (first | (with_reducible first | exact HB.out | exact Below.refl _ _ | apply below_alloc | apply pw_below_drewN | apply below_drew1 | apply below_drew | exact Drawn0.below (by assumption)) | exact HB.out | (refine below_set ?_ (Aside0.out (by assumption)))))); rintro e w43 ⟨v225, rfl, ho0, hb⟩; have n0_ := Aside0.mk (Kd.R_lower ho0 (below_size (by repeat (first | (with_reducible first | exact HB.out | apply below_alloc | apply pw_below_drewN | apply below_drew1) | exact HB.out)))); have n1_ := Aside0.mk (below_step (by repeat (first | (with_reducible first | exact HB.out | apply below_alloc | apply pw_below_drewN | apply below_drew1) | exact HB.out)) hb); clear HB; have HO226 := n0_; have HB := n1_; clear n0_ n1_; (try clear hb); (try clear hb2); (try clear hk); (try clear hi); (try clear ho0)) | ((with_reducible refine gate_dst (N := 4) rfl ?_); (try (refine gate_guard (by rfl) ?_; dsimp only)); refine box_event ?hg (N := 4) ?hd (cs := #[.int .i64 0, .int .i64 0]) (t := 26) ?hr ?_; (case hd => rfl); (case hg => rfl); (case hr => first | (go_simp; done) | (go_simp; rfl)); intro gb230 hg w44 hbox hb; have n0_ := Aside0.mk (Kd.R_below (by (with_reducible repeat (first | apply Kd.R_alloc | apply Kd.R_drewN | apply Kd.R_drew)); exact HO226.out) hb); have n1_ := Aside0.mk (below_step (by repeat (first | (with_reducible first | exact HB.out | apply below_alloc | apply pw_below_drewN | apply below_drew1) | exact HB.out)) hb); have n2_ := Aside0.mk (hbox); have n3_ := Aside0.mk ((by rw [hg]; exact (below_size (by repeat (first | (with_reducible first | exact HB.out | apply below_alloc | apply pw_below_drewN | apply below_drew1) | exact HB.out))) : w.heap.size ≤ gb230)); have n4_ := Aside0.mk ((by rw [hg]; exact (below_size (by repeat (first | (with_reducible first | exact HB.out | apply below_alloc | apply pw_below_drewN | apply below_drew1) | exact HB.out))) : w.heap.size ≤ gb230)); clear HO226; clear HB; have HO226 := n0_; have HB := n1_; have BK230 := n2_; have GW230 := n3_; have GE230 := n4_; clear n0_ n1_ n2_ n3_ n4_; clear hb hbox hg; have hcz45_0 : w44.cell? ⟨gb230, 0, none⟩ = some (.int .i64 0) := (blk_cell BK230.out 0).trans rfl; have hcz45_1 : w44.cell? ⟨gb230, 1, none⟩ = some (.int .i64 0) := (blk_cell BK230.out 1).trans rfl; have hfz45_0 := blk_frozen BK230.out 0; have hfz45_1 := blk_frozen BK230.out 1) | (go_at_call 7; (with_reducible refine (rushlightlaw07_awake.calls k  true _ ?sG A41.out).mono ?_); (case sG => exact G0.at_ HG0.out (by repeat (first | (with_reducible first | exact HB.out | exact Below.refl _ _ | apply below_alloc | apply pw_below_drewN | apply below_drew1 | apply below_drew | exact Drawn0.below (by assumption)) | exact HB.out | (refine below_set ?_ (Aside0.out (by assumption)))))); rintro e w46 ⟨rfl, hb⟩; have n0_ := Aside0.mk (Kd.R_below (by (with_reducible repeat (first | apply Kd.R_alloc | apply Kd.R_drewN | apply Kd.R_drew)); exact (Kd.R_mono (Kd.R_far (p := ⟨gb230, 1, none⟩) (Kd.R_far (p := ⟨gb230, 0, none⟩) (Kd.R_types HO226.out BK230.out (by decide)) (fun _ hk => hk.2) (.int .i64 t227)) (fun _ hk => hk.2) (.int .i64 t228)) (fun _ h_ => h_.1))) hb); have n1_ := Aside0.mk (blk_below (g := gb230) (o := .cells #[.int .i64 t227, .int .i64 t228] 26 (0, 0)) (by (with_reducible repeat (first | refine blk_drewN ?_ _ | refine blk_drew ?_ | refine blk_alloc ?_ _)); refine blk_put (cs := #[.int .i64 t227, .int .i64 0]) ?_ 1 _ rfl; (with_reducible repeat (first | refine blk_drewN ?_ _ | refine blk_drew ?_ | refine blk_alloc ?_ _)); refine blk_put (cs := #[.int .i64 0, .int .i64 0]) ?_ 0 _ rfl; (with_reducible repeat (first | refine blk_drewN ?_ _ | refine blk_drew ?_ | refine blk_alloc ?_ _)); exact BK230.out) hb); have n2_ := Aside0.mk (below_step (by repeat (first | (with_reducible first | exact HB.out | apply below_alloc | apply pw_below_drewN | apply below_drew1 | refine below_set ?_ GE230.out) | exact HB.out)) hb); clear HO226; clear BK230; clear HB; have HO226 := n0_; have BK230 := n1_; have HB := n2_; clear n0_ n1_ n2_; (try clear hb); (try clear hb2); (try clear hk); (try clear hi); obtain ⟨Ao47, co47, eo47⟩ := Kd.R_slice HO226.out; subst eo47)); try go_wp2_with (first | (go_at_call 8; (with_reducible refine (lex_Lex.calls k a0 t224 t227 t228 t229 _ ?sG A5.out).mono ?_); (case sG => exact G0.at_ HG0.out (by repeat (first | (with_reducible first | exact HB.out | exact Below.refl _ _ | apply below_alloc | apply pw_below_drewN | apply below_drew1 | apply below_drew | exact Drawn0.below (by assumption)) | exact HB.out | (refine below_set ?_ (Aside0.out (by assumption)))))); rintro e w43 ⟨v225, rfl, ho0, hb⟩; have n0_ := Aside0.mk (Kd.R_lower ho0 (below_size (by repeat (first | (with_reducible first | exact HB.out | apply below_alloc | apply pw_below_drewN | apply below_drew1) | exact HB.out)))); have n1_ := Aside0.mk (below_step (by repeat (first | (with_reducible first | exact HB.out | apply below_alloc | apply pw_below_drewN | apply below_drew1) | exact HB.out)) hb); clear HB; have HO226 := n0_; have HB := n1_; clear n0_ n1_; (try clear hb); (try clear hb2); (try clear hk); (try clear hi); (try clear ho0)) | ((with_reducible refine gate_dst (N := 4) rfl ?_); (try (refine gate_guard (by rfl) ?_; dsimp only)); refine box_event ?hg (N := 4) ?hd (cs := #[.int .i64 0, .int .i64 0]) (t := 26) ?hr ?_; (case hd => rfl); (case hg => rfl); (case hr => first | (go_simp; done) | (go_simp; rfl)); intro gb230 hg w44 hbox hb; have n0_ := Aside0.mk (Kd.R_below (by (with_reducible repeat (first | apply Kd.R_alloc | apply Kd.R_drewN | apply Kd.R_drew)); exact HO226.out) hb); have n1_ := Aside0.mk (below_step (by repeat (first | (with_reducible first | exact HB.out | apply below_alloc | apply pw_below_drewN | apply below_drew1) | exact HB.out)) hb); have n2_ := Aside0.mk (hbox); have n3_ := Aside0.mk ((by rw [hg]; exact (below_size (by repeat (first | (with_reducible first | exact HB.out | apply below_alloc | apply pw_below_drewN | apply below_drew1) | exact HB.out))) : w.heap.size ≤ gb230)); have n4_ := Aside0.mk ((by rw [hg]; exact (below_size (by repeat (first | (with_reducible first | exact HB.out | apply below_alloc | apply pw_below_drewN | apply below_drew1) | exact HB.out))) : w.heap.size ≤ gb230)); clear HO226; clear HB; have HO226 := n0_; have HB := n1_; have BK230 := n2_; have GW230 := n3_; have GE230 := n4_; clear n0_ n1_ n2_ n3_ n4_; clear hb hbox hg; have hcz45_0 : w44.cell? ⟨gb230, 0, none⟩ = some (.int .i64 0) := (blk_cell BK230.out 0).trans rfl; have hcz45_1 : w44.cell? ⟨gb230, 1, none⟩ = some (.int .i64 0) := (blk_cell BK230.out 1).trans rfl; have hfz45_0 := blk_frozen BK230.out 0; have hfz45_1 := blk_frozen BK230.out 1) | (go_at_call 7; (with_reducible refine (rushlightlaw07_awake.calls k  true _ ?sG A41.out).mono ?_); (case sG => exact G0.at_ HG0.out (by repeat (first | (with_reducible first | exact HB.out | exact Below.refl _ _ | apply below_alloc | apply pw_below_drewN | apply below_drew1 | apply below_drew | exact Drawn0.below (by assumption)) | exact HB.out | (refine below_set ?_ (Aside0.out (by assumption)))))); rintro e w46 ⟨rfl, hb⟩; have n0_ := Aside0.mk (Kd.R_below (by (with_reducible repeat (first | apply Kd.R_alloc | apply Kd.R_drewN | apply Kd.R_drew)); exact (Kd.R_mono (Kd.R_far (p := ⟨gb230, 1, none⟩) (Kd.R_far (p := ⟨gb230, 0, none⟩) (Kd.R_types HO226.out BK230.out (by decide)) (fun _ hk => hk.2) (.int .i64 t227)) (fun _ hk => hk.2) (.int .i64 t228)) (fun _ h_ => h_.1))) hb); have n1_ := Aside0.mk (blk_below (g := gb230) (o := .cells #[.int .i64 t227, .int .i64 t228] 26 (0, 0)) (by (with_reducible repeat (first | refine blk_drewN ?_ _ | refine blk_drew ?_ | refine blk_alloc ?_ _)); refine blk_put (cs := #[.int .i64 t227, .int .i64 0]) ?_ 1 _ rfl; (with_reducible repeat (first | refine blk_drewN ?_ _ | refine blk_drew ?_ | refine blk_alloc ?_ _)); refine blk_put (cs := #[.int .i64 0, .int .i64 0]) ?_ 0 _ rfl; (with_reducible repeat (first | refine blk_drewN ?_ _ | refine blk_drew ?_ | refine blk_alloc ?_ _)); exact BK230.out) hb); have n2_ := Aside0.mk (below_step (by repeat (first | (with_reducible first | exact HB.out | apply below_alloc | apply pw_below_drewN | apply below_drew1 | refine below_set ?_ GE230.out) | exact HB.out)) hb); clear HO226; clear BK230; clear HB; have HO226 := n0_; have BK230 := n1_; have HB := n2_; clear n0_ n1_ n2_; (try clear hb); (try clear hb2); (try clear hk); (try clear hi); obtain ⟨Ao47, co47, eo47⟩ := Kd.R_slice HO226.out; subst eo47)))
        go_ret
        exact ⟨by first | rfl | (simp [errW_none, errW_some] <;> rfl) | (simp [*, errW_none, errW_some] <;> rfl), by repeat (first | (with_reducible first | exact HB.out | apply below_alloc | apply pw_below_drewN | apply below_drew1 | refine below_set ?_ GE230.out) | exact HB.out)⟩
      · replace c42 := Bool.eq_false_iff.mpr c42
        subst c42
        have H1 : (some false) = some r := by rw [if_neg (show ¬ (false = true) by decide)] at H; exact H
        clear H
        have H := H1
        clear H1
        obtain rfl := Option.some.inj H
        go_enter Try.func6, Try.ntmps6
        go_wp2_with (first | (go_at_call 8; (with_reducible refine (lex_Lex.calls k a0 t224 t227 t228 t229 _ ?sG A5.out).mono ?_); (case sG => exact G0.at_ HG0.out (by repeat (first | (with_reducible first | exact HB.out | exact Below.refl _ _ | apply below_alloc | apply pw_below_drewN | apply below_drew1 | apply below_drew | exact Drawn0.below (by assumption)) | exact HB.out | (refine below_set ?_ (Aside0.out (by assumption)))))); rintro e w48 ⟨v225, rfl, ho0, hb⟩; have n0_ := Aside0.mk (Kd.R_lower ho0 (below_size (by repeat (first | (with_reducible first | exact HB.out | apply below_alloc | apply pw_below_drewN | apply below_drew1) | exact HB.out)))); have n1_ := Aside0.mk (below_step (by repeat (first | (with_reducible first | exact HB.out | apply below_alloc | apply pw_below_drewN | apply below_drew1) | exact HB.out)) hb); clear HB; have HO226 := n0_; have HB := n1_; clear n0_ n1_; (try clear hb); (try clear hb2); (try clear hk); (try clear hi); (try clear ho0)) | ((with_reducible refine gate_dst (N := 4) rfl ?_); (try (refine gate_guard (by rfl) ?_; dsimp only)); refine box_event ?hg (N := 4) ?hd (cs := #[.int .i64 0, .int .i64 0]) (t := 26) ?hr ?_; (case hd => rfl); (case hg => rfl); (case hr => first | (go_simp; done) | (go_simp; rfl)); intro gb230 hg w49 hbox hb; have n0_ := Aside0.mk (Kd.R_below (by (with_reducible repeat (first | apply Kd.R_alloc | apply Kd.R_drewN | apply Kd.R_drew)); exact HO226.out) hb); have n1_ := Aside0.mk (below_step (by repeat (first | (with_reducible first | exact HB.out | apply below_alloc | apply pw_below_drewN | apply below_drew1) | exact HB.out)) hb); have n2_ := Aside0.mk (hbox); have n3_ := Aside0.mk ((by rw [hg]; exact (below_size (by repeat (first | (with_reducible first | exact HB.out | apply below_alloc | apply pw_below_drewN | apply below_drew1) | exact HB.out))) : w.heap.size ≤ gb230)); have n4_ := Aside0.mk ((by rw [hg]; exact (below_size (by repeat (first | (with_reducible first | exact HB.out | apply below_alloc | apply pw_below_drewN | apply below_drew1) | exact HB.out))) : w.heap.size ≤ gb230)); clear HO226; clear HB; have HO226 := n0_; have HB := n1_; have BK230 := n2_; have GW230 := n3_; have GE230 := n4_; clear n0_ n1_ n2_ n3_ n4_; clear hb hbox hg; have hcz50_0 : w49.cell? ⟨gb230, 0, none⟩ = some (.int .i64 0) := (blk_cell BK230.out 0).trans rfl; have hcz50_1 : w49.cell? ⟨gb230, 1, none⟩ = some (.int .i64 0) := (blk_cell BK230.out 1).trans rfl; have hfz50_0 := blk_frozen BK230.out 0; have hfz50_1 := blk_frozen BK230.out 1) | (go_at_call 7; (with_reducible refine (rushlightlaw07_awake.calls k  false _ ?sG A41.out).mono ?_); (case sG => exact G0.at_ HG0.out (by repeat (first | (with_reducible first | exact HB.out | exact Below.refl _ _ | apply below_alloc | apply pw_below_drewN | apply below_drew1 | apply below_drew | exact Drawn0.below (by assumption)) | exact HB.out | (refine below_set ?_ (Aside0.out (by assumption)))))); rintro e w51 ⟨rfl, hb⟩; have n0_ := Aside0.mk (Kd.R_below (by (with_reducible repeat (first | apply Kd.R_alloc | apply Kd.R_drewN | apply Kd.R_drew)); exact (Kd.R_mono (Kd.R_far (p := ⟨gb230, 1, none⟩) (Kd.R_far (p := ⟨gb230, 0, none⟩) (Kd.R_types HO226.out BK230.out (by decide)) (fun _ hk => hk.2) (.int .i64 t227)) (fun _ hk => hk.2) (.int .i64 t228)) (fun _ h_ => h_.1))) hb); have n1_ := Aside0.mk (blk_below (g := gb230) (o := .cells #[.int .i64 t227, .int .i64 t228] 26 (0, 0)) (by (with_reducible repeat (first | refine blk_drewN ?_ _ | refine blk_drew ?_ | refine blk_alloc ?_ _)); refine blk_put (cs := #[.int .i64 t227, .int .i64 0]) ?_ 1 _ rfl; (with_reducible repeat (first | refine blk_drewN ?_ _ | refine blk_drew ?_ | refine blk_alloc ?_ _)); refine blk_put (cs := #[.int .i64 0, .int .i64 0]) ?_ 0 _ rfl; (with_reducible repeat (first | refine blk_drewN ?_ _ | refine blk_drew ?_ | refine blk_alloc ?_ _)); exact BK230.out) hb); have n2_ := Aside0.mk (below_step (by repeat (first | (with_reducible first | exact HB.out | apply below_alloc | apply pw_below_drewN | apply below_drew1 | refine below_set ?_ GE230.out) | exact HB.out)) hb); clear HO226; clear BK230; clear HB; have HO226 := n0_; have BK230 := n1_; have HB := n2_; clear n0_ n1_ n2_; (try clear hb); (try clear hb2); (try clear hk); (try clear hi)))
        repeat (go_quiet (first | (go_at_call 8; (with_reducible refine (lex_Lex.calls k a0 t224 t227 t228 t229 _ ?sG A5.out).mono ?_); (case sG => exact G0.at_ HG0.out (by repeat (first | (with_reducible first | exact HB.out | exact Below.refl _ _ | apply below_alloc | apply pw_below_drewN | apply below_drew1 | apply below_drew | exact Drawn0.below (by assumption)) | exact HB.out | (refine below_set ?_ (Aside0.out (by assumption)))))); rintro e w48 ⟨v225, rfl, ho0, hb⟩; have n0_ := Aside0.mk (Kd.R_lower ho0 (below_size (by repeat (first | (with_reducible first | exact HB.out | apply below_alloc | apply pw_below_drewN | apply below_drew1) | exact HB.out)))); have n1_ := Aside0.mk (below_step (by repeat (first | (with_reducible first | exact HB.out | apply below_alloc | apply pw_below_drewN | apply below_drew1) | exact HB.out)) hb); clear HB; have HO226 := n0_; have HB := n1_; clear n0_ n1_; (try clear hb); (try clear hb2); (try clear hk); (try clear hi); (try clear ho0)) | ((with_reducible refine gate_dst (N := 4) rfl ?_); (try (refine gate_guard (by rfl) ?_; dsimp only)); refine box_event ?hg (N := 4) ?hd (cs := #[.int .i64 0, .int .i64 0]) (t := 26) ?hr ?_; (case hd => rfl); (case hg => rfl); (case hr => first | (go_simp; done) | (go_simp; rfl)); intro gb230 hg w49 hbox hb; have n0_ := Aside0.mk (Kd.R_below (by (with_reducible repeat (first | apply Kd.R_alloc | apply Kd.R_drewN | apply Kd.R_drew)); exact HO226.out) hb); have n1_ := Aside0.mk (below_step (by repeat (first | (with_reducible first | exact HB.out | apply below_alloc | apply pw_below_drewN | apply below_drew1) | exact HB.out)) hb); have n2_ := Aside0.mk (hbox); have n3_ := Aside0.mk ((by rw [hg]; exact (below_size (by repeat (first | (with_reducible first | exact HB.out | apply below_alloc | apply pw_below_drewN | apply below_drew1) | exact HB.out))) : w.heap.size ≤ gb230)); have n4_ := Aside0.mk ((by rw [hg]; exact (below_size (by repeat (first | (with_reducible first | exact HB.out | apply below_alloc | apply pw_below_drewN | apply below_drew1) | exact HB.out))) : w.heap.size ≤ gb230)); clear HO226; clear HB; have HO226 := n0_; have HB := n1_; have BK230 := n2_; have GW230 := n3_; have GE230 := n4_; clear n0_ n1_ n2_ n3_ n4_; clear hb hbox hg; have hcz50_0 : w49.cell? ⟨gb230, 0, none⟩ = some (.int .i64 0) := (blk_cell BK230.out 0).trans rfl; have hcz50_1 : w49.cell? ⟨gb230, 1, none⟩ = some (.int .i64 0) := (blk_cell BK230.out 1).trans rfl; have hfz50_0 := blk_frozen BK230.out 0; have hfz50_1 := blk_frozen BK230.out 1) | (go_at_call 7; (with_reducible refine (rushlightlaw07_awake.calls k  false _ ?sG A41.out).mono ?_); (case sG => exact G0.at_ HG0.out (by repeat (first | (with_reducible first | exact HB.out | exact Below.refl _ _ | apply below_alloc | apply pw_below_drewN | apply below_drew1 | apply below_drew | exact Drawn0.below (by assumption)) | exact HB.out | (refine below_set ?_ (Aside0.out (by assumption)))))); rintro e w51 ⟨rfl, hb⟩; have n0_ := Aside0.mk (Kd.R_below (by (with_reducible repeat (first | apply Kd.R_alloc | apply Kd.R_drewN | apply Kd.R_drew)); exact (Kd.R_mono (Kd.R_far (p := ⟨gb230, 1, none⟩) (Kd.R_far (p := ⟨gb230, 0, none⟩) (Kd.R_types HO226.out BK230.out (by decide)) (fun _ hk => hk.2) (.int .i64 t227)) (fun _ hk => hk.2) (.int .i64 t228)) (fun _ h_ => h_.1))) hb); have n1_ := Aside0.mk (blk_below (g := gb230) (o := .cells #[.int .i64 t227, .int .i64 t228] 26 (0, 0)) (by (with_reducible repeat (first | refine blk_drewN ?_ _ | refine blk_drew ?_ | refine blk_alloc ?_ _)); refine blk_put (cs := #[.int .i64 t227, .int .i64 0]) ?_ 1 _ rfl; (with_reducible repeat (first | refine blk_drewN ?_ _ | refine blk_drew ?_ | refine blk_alloc ?_ _)); refine blk_put (cs := #[.int .i64 0, .int .i64 0]) ?_ 0 _ rfl; (with_reducible repeat (first | refine blk_drewN ?_ _ | refine blk_drew ?_ | refine blk_alloc ?_ _)); exact BK230.out) hb); have n2_ := Aside0.mk (below_step (by repeat (first | (with_reducible first | exact HB.out | apply below_alloc | apply pw_below_drewN | apply below_drew1 | refine below_set ?_ GE230.out) | exact HB.out)) hb); clear HO226; clear BK230; clear HB; have HO226 := n0_; have BK230 := n1_; have HB := n2_; clear n0_ n1_ n2_; (try clear hb); (try clear hb2); (try clear hk); (try clear hi))); try go_wp2_with (first | (go_at_call 8; (with_reducible refine (lex_Lex.calls k a0 t224 t227 t228 t229 _ ?sG A5.out).mono ?_); (case sG => exact G0.at_ HG0.out (by repeat (first | (with_reducible first | exact HB.out | exact Below.refl _ _ | apply below_alloc | apply pw_below_drewN | apply below_drew1 | apply below_drew | exact Drawn0.below (by assumption)) | exact HB.out | (refine below_set ?_ (Aside0.out (by assumption)))))); rintro e w48 ⟨v225, rfl, ho0, hb⟩; have n0_ := Aside0.mk (Kd.R_lower ho0 (below_size (by repeat (first | (with_reducible first | exact HB.out | apply below_alloc | apply pw_below_drewN | apply below_drew1) | exact HB.out)))); have n1_ := Aside0.mk (below_step (by repeat (first | (with_reducible first | exact HB.out | apply below_alloc | apply pw_below_drewN | apply below_drew1) | exact HB.out)) hb); clear HB; have HO226 := n0_; have HB := n1_; clear n0_ n1_; (try clear hb); (try clear hb2); (try clear hk); (try clear hi); (try clear ho0)) | ((with_reducible refine gate_dst (N := 4) rfl ?_); (try (refine gate_guard (by rfl) ?_; dsimp only)); refine box_event ?hg (N := 4) ?hd (cs := #[.int .i64 0, .int .i64 0]) (t := 26) ?hr ?_; (case hd => rfl); (case hg => rfl); (case hr => first | (go_simp; done) | (go_simp; rfl)); intro gb230 hg w49 hbox hb; have n0_ := Aside0.mk (Kd.R_below (by (with_reducible repeat (first | apply Kd.R_alloc | apply Kd.R_drewN | apply Kd.R_drew)); exact HO226.out) hb); have n1_ := Aside0.mk (below_step (by repeat (first | (with_reducible first | exact HB.out | apply below_alloc | apply pw_below_drewN | apply below_drew1) | exact HB.out)) hb); have n2_ := Aside0.mk (hbox); have n3_ := Aside0.mk ((by rw [hg]; exact (below_size (by repeat (first | (with_reducible first | exact HB.out | apply below_alloc | apply pw_below_drewN | apply below_drew1) | exact HB.out))) : w.heap.size ≤ gb230)); have n4_ := Aside0.mk ((by rw [hg]; exact (below_size (by repeat (first | (with_reducible first | exact HB.out | apply below_alloc | apply pw_below_drewN | apply below_drew1) | exact HB.out))) : w.heap.size ≤ gb230)); clear HO226; clear HB; have HO226 := n0_; have HB := n1_; have BK230 := n2_; have GW230 := n3_; have GE230 := n4_; clear n0_ n1_ n2_ n3_ n4_; clear hb hbox hg; have hcz50_0 : w49.cell? ⟨gb230, 0, none⟩ = some (.int .i64 0) := (blk_cell BK230.out 0).trans rfl; have hcz50_1 : w49.cell? ⟨gb230, 1, none⟩ = some (.int .i64 0) := (blk_cell BK230.out 1).trans rfl; have hfz50_0 := blk_frozen BK230.out 0; have hfz50_1 := blk_frozen BK230.out 1) | (go_at_call 7; (with_reducible refine (rushlightlaw07_awake.calls k  false _ ?sG A41.out).mono ?_); (case sG => exact G0.at_ HG0.out (by repeat (first | (with_reducible first | exact HB.out | exact Below.refl _ _ | apply below_alloc | apply pw_below_drewN | apply below_drew1 | apply below_drew | exact Drawn0.below (by assumption)) | exact HB.out | (refine below_set ?_ (Aside0.out (by assumption)))))); rintro e w51 ⟨rfl, hb⟩; have n0_ := Aside0.mk (Kd.R_below (by (with_reducible repeat (first | apply Kd.R_alloc | apply Kd.R_drewN | apply Kd.R_drew)); exact (Kd.R_mono (Kd.R_far (p := ⟨gb230, 1, none⟩) (Kd.R_far (p := ⟨gb230, 0, none⟩) (Kd.R_types HO226.out BK230.out (by decide)) (fun _ hk => hk.2) (.int .i64 t227)) (fun _ hk => hk.2) (.int .i64 t228)) (fun _ h_ => h_.1))) hb); have n1_ := Aside0.mk (blk_below (g := gb230) (o := .cells #[.int .i64 t227, .int .i64 t228] 26 (0, 0)) (by (with_reducible repeat (first | refine blk_drewN ?_ _ | refine blk_drew ?_ | refine blk_alloc ?_ _)); refine blk_put (cs := #[.int .i64 t227, .int .i64 0]) ?_ 1 _ rfl; (with_reducible repeat (first | refine blk_drewN ?_ _ | refine blk_drew ?_ | refine blk_alloc ?_ _)); refine blk_put (cs := #[.int .i64 0, .int .i64 0]) ?_ 0 _ rfl; (with_reducible repeat (first | refine blk_drewN ?_ _ | refine blk_drew ?_ | refine blk_alloc ?_ _)); exact BK230.out) hb); have n2_ := Aside0.mk (below_step (by repeat (first | (with_reducible first | exact HB.out | apply below_alloc | apply pw_below_drewN | apply below_drew1 | refine below_set ?_ GE230.out) | exact HB.out)) hb); clear HO226; clear BK230; clear HB; have HO226 := n0_; have BK230 := n1_; have HB := n2_; clear n0_ n1_ n2_; (try clear hb); (try clear hb2); (try clear hk); (try clear hi))))
        go_ret
        exact ⟨by first | rfl | (simp [errW_none, errW_some] <;> rfl) | (simp [*, errW_none, errW_some] <;> rfl), by repeat (first | (with_reducible first | exact HB.out | apply below_alloc | apply pw_below_drewN | apply below_drew1 | refine below_set ?_ GE230.out) | exact HB.out)⟩
def rushlightlaw07_LexBack.Pure : Prop := ∀ (a0 : ByteArray), a0.size ≤ 140737488351232 → ∃ k, rushlightlaw07_LexBack.f k a0 = some true
theorem rushlightlaw07_LexBack.walk (P : rushlightlaw07_LexBack.Pure) (a0 : ByteArray) (w : World) (hG : G0 w) (w0 : a0.size ≤ 140737488351232) :
    Calls Try.prog 6 #[.string a0] w fun e w' => e = .returned (.bool true) ∧ Below w.heap.size w w' := by
  have HG0 := Aside0.mk hG
  clear hG
  obtain ⟨k, h⟩ := P a0 w0
  refine (rushlightlaw07_LexBack.calls k a0 true w HG0.out h).mono ?_
  rintro e w' ⟨rfl, hd⟩
  exact ⟨rfl, hd⟩
end Go.Proofs.Ytgelabhiebmadaa.P
end
section
namespace Go.Proofs.Ytgelabhiebmadaa.P
open Go.RowKit Go.Proofs.YtgelabhiebmadaaW.PrintWords Go.Proofs.YtgelabhiebmadaaW.PrintLast Go.Proofs.YtgelabhiebmadaaW.PrintMore
attribute [local go_sem] max2_int min2_int max_two min_two max_three min_three max_four min_four   
set_option linter.unusedVariables false
set_option linter.unusedSimpArgs false
attribute [local go_sem high] eqA26
end Go.Proofs.Ytgelabhiebmadaa.P
end
section
namespace Go.Proofs.Ytgelabhiebmadaa.Pure
open Go.RowKit Go.Proofs.Ytgelabhiebmadaa.P Go.Proofs.YtgelabhiebmadaaW.PrintWords Go.Proofs.YtgelabhiebmadaaW.PrintLast
set_option linter.unusedVariables false
def ofL (l : List UInt8) : ByteArray := ⟨l.toArray⟩
theorem ofL_list (s : ByteArray) : ofL s.data.toList = s := rfl
theorem ofL_data (l : List UInt8) : (ofL l).data.toList = l := by simp [ofL]
theorem ofL_toList (l : List UInt8) : (ofL l).toList = l := by rw [ByteArray.toList_eq, ofL_data]
theorem ofL_size (l : List UInt8) : (ofL l).size = l.length := by rw [← data_length, ofL_data]
theorem ofL_inj {a b : List UInt8} (h : ofL a = ofL b) : a = b := by rw [← ofL_data a, h, ofL_data]
theorem bt_ofL (l : List UInt8) (i : Nat) : bt (ofL l) (i : Int) = ((l.getD i 0).toNat : Int) := by
  unfold bt
  simp only [Int.toNat_natCast]
  by_cases h : i < l.length
  · rw [dif_pos (by rw [ofL_size]; exact h)]
    simp [ofL, List.getD, h]
    rfl
  · rw [dif_neg (by rw [ofL_size]; exact h)]
    simp [List.getD, List.getElem?_eq_none (Nat.le_of_not_lt h)]
theorem ofL_extract (l : List UInt8) (a b : Nat) : (ofL l).extract a b = ofL ((l.take b).drop a) := by
  apply ByteArray.ext
  simp [ofL, List.drop_take]
theorem span_ofL (p : Int → Bool) (l : List UInt8) : spanFrom p (ofL l) 0 = (l.takeWhile fun b => p (b.toNat : Int)).length := by
  unfold spanFrom
  rw [ofL_data, List.drop_zero]
def blankC (c : UInt8) : Bool := blankB (c.toNat : Int)
def moreC (c : UInt8) : Bool := moreB (c.toNat : Int)
def Sep (r : List UInt8) : Prop := ∀ c, r.head? = some c → blankC c = true
theorem all_bytes {p : UInt8 → Prop} (h : ∀ n : Fin 256, p (UInt8.ofNat n.val)) (c : UInt8) : p c := by
  have := h ⟨c.toNat, c.toNat_lt⟩
  simpa using this
theorem blank_no_more : ∀ c : UInt8, blankC c = true → moreC c = false := all_bytes (p := fun c => blankC c = true → moreC c = false) (by decide +kernel)
theorem takeWhile_sep (p : UInt8 → Bool) (t r : List UInt8) (ht : ∀ c ∈ t, p c = true) (hr : ∀ c, r.head? = some c → p c = false) : (t ++ r).takeWhile p = t := by
  rw [List.takeWhile_append_of_pos ht]
  cases r with
  | nil => simp
  | cons c r => simp [hr c rfl]
theorem letter_some (c : Int) : ∃ b, lex_letter.f c = some b := by
  unfold lex_letter.f
  repeat' split
  all_goals exact ⟨_, rfl⟩
theorem ite_any (p : Prop) [Decidable p] (r : Bool) : (if p then some true else some r) = some (decide p || r) := by
  by_cases h : p <;> simp [h]
theorem word_some (x : ByteArray) : ∃ b, lex_Word.f x = some b := by
  unfold lex_Word.f
  simp only [ite_any]
  exact ⟨_, rfl⟩
theorem letter_more (c : Int) (h : lex_letter.f c = some true) : moreB c = true := by
  have := more_some c
  unfold lex_more.f at this
  rw [h, Option.bind_some, if_pos rfl] at this
  exact (Option.some.inj this).symm
theorem digit_more (c : Int) (h : lex_letter.f c = some false) (h2 : lex_digit.f c = some true) : moreB c = true := by
  have := more_some c
  unfold lex_more.f at this
  rw [h, Option.bind_some, if_neg (by simp), h2, Option.bind_some] at this
  exact (Option.some.inj this).symm
theorem take_while (p : UInt8 → Bool) (l : List UInt8) : l.take (l.takeWhile p).length = l.takeWhile p := (List.prefix_iff_eq_take.mp (List.takeWhile_prefix p)).symm
theorem bt_head (c : UInt8) (l : List UInt8) : bt (ofL (c :: l)) 0 = (c.toNat : Int) := by
  have := bt_ofL (c :: l) 0
  simpa using this
theorem more_plain : ∀ c : UInt8, moreC c = true → c ≠ 10 ∧ blankC c = false := all_bytes (p := fun c => moreC c = true → c ≠ 10 ∧ blankC c = false) (by decide +kernel)
theorem num_text (all : ByteArray) (a : Int) (b : ByteArray) (c d e : Int) (h : numAll all = (a, b, c, d, e, 0)) : b = all := by
  have key : ∀ dg base, numOf all dg base = (a, b, c, d, e, 0) → b = all := by
    intro dg base h
    unfold numOf at h
    split at h
    · simp at h
    · generalize numL base dg.data.toList 0 false = o at h
      cases o with
      | none => simp [numTok] at h
      | some q =>
        obtain ⟨n, far⟩ := q
        cases far with
        | true => simp [numTok] at h
        | false =>
          simp only [numTok, if_neg (show ¬ (false = true) by decide), Prod.mk.injEq] at h
          exact h.2.1.symm
  unfold numAll at h
  split at h
  · exact key _ _ h
  · exact key _ _ h
def markOk (m : List UInt8) : Bool := match m with
  | [] => false
  | c :: m' => m.all (fun c => !blankC c) && (markFrom 0 (ofL m) == m) && (lex_letter.f (c.toNat : Int) == some false) && (lex_digit.f (c.toNat : Int) == some false) && (c != 39)
theorem marks_ok : marks.all markOk = true := by decide +kernel
theorem marks_plain (m : List UInt8) (hm : m ∈ marks) : m ≠ [] ∧ (∀ c ∈ m, blankC c = false) ∧ markFrom 0 (ofL m) = m ∧ (∃ c m', m = c :: m' ∧ lex_letter.f (c.toNat : Int) = some false ∧ lex_digit.f (c.toNat : Int) = some false ∧ c ≠ 39) := by
  have h := List.all_eq_true.mp marks_ok m hm
  unfold markOk at h
  cases m with
  | nil => cases h
  | cons c m' =>
    simp only [Bool.and_eq_true, beq_iff_eq, bne_iff_ne, List.all_eq_true, Bool.not_eq_true'] at h
    obtain ⟨⟨⟨⟨h1, h2⟩, h3⟩, h4⟩, h5⟩ := h
    exact ⟨by simp, h1, h2, c, m', rfl, h3, h4, h5⟩
theorem pref_sep (m' m r : List UInt8) (hm : ∀ c ∈ m', blankC c = false) (hr : Sep r) : prefB m' (ofL (m ++ r)) = prefB m' (ofL m) := by
  unfold prefB
  rw [ofL_size, ofL_size, ofL_data, ofL_data]
  by_cases h : m'.length ≤ m.length
  · rw [decide_eq_true h, decide_eq_true (show m'.length ≤ (m ++ r).length by simp; omega), List.take_append_of_le_length h]
  · rw [decide_eq_false h, Bool.false_and]
    cases r with
    | nil => rw [List.append_nil, decide_eq_false h, Bool.false_and]
    | cons c r =>
      have hc := hr c rfl
      by_cases h2 : (m ++ c :: r).take m'.length = m'
      · exfalso
        have hin : c ∈ m' := by
          rw [← h2, List.take_append]
          refine List.mem_append_right _ ?_
          obtain ⟨j, hj⟩ : ∃ j, m'.length - m.length = j + 1 := ⟨m'.length - m.length - 1, by omega⟩
          rw [hj]
          simp
        rw [hm c hin] at hc
        cases hc
      · rw [Bool.and_eq_false_iff]
        exact .inr (by simpa using h2)
theorem mark_sep (m r : List UInt8) (hm : m ∈ marks) (hr : Sep r) : markFrom 0 (ofL (m ++ r)) = m := by
  have h := (marks_plain m hm).2.2.1
  rw [← h]
  conv => rhs; rw [h]
  have : markFrom 0 (ofL (m ++ r)) = markFrom 0 (ofL m) := by
    unfold markFrom
    rw [List.drop_zero]
    have hf : ∀ ms : List (List UInt8), (∀ x ∈ ms, x ∈ marks) → ms.find? (fun x => prefB x (ofL (m ++ r))) = ms.find? (fun x => prefB x (ofL m)) := by
      intro ms
      induction ms with
      | nil => intro _; rfl
      | cons x ms ih =>
        intro hx
        rw [List.find?_cons, List.find?_cons, pref_sep x m r (marks_plain x (hx x (by simp))).2.1 hr, ih (fun y hy => hx y (by simp [hy]))]
    rw [hf marks (fun _ h => h)]
  rw [h] at this ⊢
  exact this
theorem mark_mem (s : ByteArray) (h : markFrom 0 s ≠ []) : markFrom 0 s ∈ marks ∧ prefB (markFrom 0 s) s = true := by
  unfold markFrom at h ⊢
  rw [List.drop_zero] at h ⊢
  cases hf : marks.find? (fun m => prefB m s) with
  | none => rw [hf] at h; exact absurd rfl h
  | some m => exact ⟨List.mem_of_find?_eq_some hf, by simpa using List.find?_some hf⟩
def badTok : Int × ByteArray × Int × Int × Int × Int := (0, ⟨#[]⟩, 0, 0, 0, 3)
theorem j0_false (s : ByteArray) (l : List UInt8) (a b : UInt8) (hs : s = ofL (39 :: a :: b :: l)) : lex_char.j0 1 s false = if b = 39 ∧ 32 ≤ a.toNat ∧ a.toNat ≤ 126 ∧ a ≠ 39 ∧ a ≠ 92 then some (3, ofL [39, a, b], ((a.toNat : Int)) % 4294967296, 0, 0, 0) else some badTok := by
  have h1 : bt s 1 = (a.toNat : Int) := by rw [hs]; simpa using bt_ofL (39 :: a :: b :: l) 1
  have h2 : bt s 2 = (b.toNat : Int) := by rw [hs]; simpa using bt_ofL (39 :: a :: b :: l) 2
  have hz : (s.size : Int) = l.length + 3 := by rw [hs, ofL_size]; simp; omega
  have e39 : ∀ c : UInt8, ((c.toNat : Nat) : Int) = 39 ↔ c = 39 := fun c => ⟨fun e => UInt8.toNat_inj.mp (by show c.toNat = 39; omega), fun e => by rw [e]; decide⟩
  have e92 : ∀ c : UInt8, ((c.toNat : Nat) : Int) = 92 ↔ c = 92 := fun c => ⟨fun e => UInt8.toNat_inj.mp (by show c.toNat = 92; omega), fun e => by rw [e]; decide⟩
  show lex_char.j0 (0 + 1) s false = _
  rw [lex_char.j0, if_neg (by simp), if_pos (by omega), if_pos (by omega), h1, h2]
  by_cases c1 : b = 39
  · rw [if_pos ((e39 b).2 c1), if_pos (by omega)]
    by_cases c2 : 32 ≤ a.toNat
    · rw [if_pos (by omega)]
      by_cases c3 : a.toNat ≤ 126
      · rw [if_pos (by omega)]
        by_cases c4 : a = 39
        · rw [if_pos ((e39 a).2 c4), if_neg (by simp [c4])]
          rfl
        · rw [if_neg (fun e => c4 ((e39 a).1 e))]
          by_cases c5 : a = 92
          · rw [if_pos ((e92 a).2 c5), if_neg (by simp [c5])]
            rfl
          · rw [if_neg (fun e => c5 ((e92 a).1 e)), if_pos (by decide), if_pos (by omega), if_pos ⟨c1, c2, c3, c4, c5⟩, hs, ofL_extract]
            rfl
      · rw [if_neg (by omega), if_neg (fun e => c3 e.2.2.1)]
        rfl
    · rw [if_neg (by omega), if_neg (fun e => c2 e.2.1)]
      rfl
  · rw [if_neg (fun e => c1 ((e39 b).1 e)), if_neg (fun e => c1 e.1)]
    rfl
theorem j0_true (s : ByteArray) (l : List UInt8) (b d : UInt8) (hs : s = ofL (39 :: 92 :: b :: d :: l)) : lex_char.j0 1 s true = (lex_escape.f (b.toNat : Int)).bind fun r => if r.2 = true then some (3, ofL [39, 92, b, d], r.1 % 4294967296, 0, 0, 0) else some badTok := by
  have h2 : bt s 2 = (b.toNat : Int) := by rw [hs]; simpa using bt_ofL (39 :: 92 :: b :: d :: l) 2
  have hz : (s.size : Int) = l.length + 4 := by rw [hs, ofL_size]; simp; omega
  show lex_char.j0 (0 + 1) s true = _
  rw [lex_char.j0, if_pos rfl, if_pos (by omega), h2]
  congr 1
  funext r
  by_cases hr : r.2 = true
  · rw [if_pos hr, if_pos hr, if_pos (by decide), if_pos (by omega), hs, ofL_extract]
    rfl
  · rw [if_neg hr, if_neg hr]
    rfl
theorem char_short (x : List UInt8) (hx : x.length ≤ 1) : lex_char.f 1 (ofL (39 :: x)) = some badTok := by
  have hz : ((ofL (39 :: x)).size : Int) ≤ 2 := by rw [ofL_size]; simp; omega
  unfold lex_char.f
  rw [if_neg (by omega)]
  show lex_char.j0 (0 + 1) _ false = _
  rw [lex_char.j0, if_neg (by simp), if_neg (by omega)]
  rfl
theorem char_plain (a b : UInt8) (l : List UInt8) (ha : a ≠ 92) : lex_char.f 1 (ofL (39 :: a :: b :: l)) = lex_char.j0 1 (ofL (39 :: a :: b :: l)) false := by
  have h1 : bt (ofL (39 :: a :: b :: l)) 1 = (a.toNat : Int) := by simpa using bt_ofL (39 :: a :: b :: l) 1
  have hn : ¬ ((a.toNat : Nat) : Int) = 92 := fun e => ha (UInt8.toNat_inj.mp (by show a.toNat = 92; omega))
  unfold lex_char.f
  split
  · rw [if_pos (by omega), h1, if_neg hn]
  · rfl
theorem char_esc (b d : UInt8) (l : List UInt8) : lex_char.f 1 (ofL (39 :: 92 :: b :: d :: l)) = lex_char.j0 1 (ofL (39 :: 92 :: b :: d :: l)) (d == 39) := by
  have h1 : bt (ofL (39 :: 92 :: b :: d :: l)) 1 = 92 := by simpa using bt_ofL (39 :: 92 :: b :: d :: l) 1
  have h3 : bt (ofL (39 :: 92 :: b :: d :: l)) 3 = (d.toNat : Int) := by simpa using bt_ofL (39 :: 92 :: b :: d :: l) 3
  have hz : ((ofL (39 :: 92 :: b :: d :: l)).size : Int) = l.length + 4 := by rw [ofL_size]; simp; omega
  have e : (((d.toNat : Nat) : Int) == 39) = (d == 39) := by
    rw [Bool.eq_iff_iff, beq_iff_eq, beq_iff_eq]
    exact ⟨fun e => UInt8.toNat_inj.mp (by show d.toNat = 39; omega), fun e => by rw [e]; decide⟩
  unfold lex_char.f
  rw [if_pos (by omega), if_pos (by omega), h1, if_pos rfl, if_pos (by omega), h3, e]
theorem char_esc3 (b : UInt8) : lex_char.f 1 (ofL [39, 92, b]) = some badTok := by
  have hz : ((ofL [39, 92, b]).size : Int) = 3 := by rw [ofL_size]; rfl
  unfold lex_char.f
  rw [if_neg (by omega), j0_false _ [] 92 b rfl, if_neg (by simp)]
theorem escape_some (c : Int) : ∃ r, lex_escape.f c = some r ∧ (r.2 = true → c = 110 ∨ c = 116 ∨ c = 114 ∨ c = 48 ∨ c = 92 ∨ c = 39) := by
  unfold lex_escape.f
  repeat' split
  all_goals exact ⟨_, rfl, fun _ => by first | omega | simp_all⟩
theorem char_total (x : List UInt8) : ∃ r, lex_char.f 1 (ofL (39 :: x)) = some r := by
  match x with
  | [] => exact ⟨_, char_short [] (by simp)⟩
  | [a] => exact ⟨_, char_short [a] (by simp)⟩
  | a :: b :: l =>
    by_cases ha : a = 92
    · subst ha
      match l with
      | [] => exact ⟨_, char_esc3 b⟩
      | d :: l =>
        rw [char_esc]
        cases d == 39 with
        | true =>
          rw [j0_true _ l b d rfl]
          obtain ⟨r, hr, _⟩ := escape_some (b.toNat : Int)
          rw [hr, Option.bind_some]
          split <;> exact ⟨_, rfl⟩
        | false =>
          rw [j0_false _ (d :: l) 92 b rfl]
          split <;> exact ⟨_, rfl⟩
    · rw [char_plain a b l ha, j0_false _ l a b rfl]
      split <;> exact ⟨_, rfl⟩
theorem char_ctx (x : List UInt8) (kd nm p q : Int) (t : ByteArray) (h : lex_char.f 1 (ofL (39 :: x)) = some (kd, t, nm, p, q, 0)) :
    ∃ tl, t = ofL (39 :: tl) ∧ 39 :: tl <+: 39 :: x ∧ (∀ c ∈ tl, c ≠ 10) ∧ ∀ r, lex_char.f 1 (ofL (39 :: tl ++ r)) = some (kd, t, nm, p, q, 0) := by
  have hbad : some badTok ≠ some (kd, t, nm, p, q, 0) := by
    intro e
    simp [badTok] at e
  have three : ∀ (a b : UInt8) (l : List UInt8), lex_char.j0 1 (ofL (39 :: a :: b :: l)) false = some (kd, t, nm, p, q, 0) → a ≠ 92 ∧ ∃ tl, t = ofL (39 :: tl) ∧ 39 :: tl <+: 39 :: a :: b :: l ∧ (∀ c ∈ tl, c ≠ 10) ∧ ∀ r, lex_char.f 1 (ofL (39 :: tl ++ r)) = some (kd, t, nm, p, q, 0) := by
    intro a b l h
    rw [j0_false _ l a b rfl] at h
    split at h
    · rename_i hc
      obtain ⟨rfl, h1, h2, h3, h4⟩ := hc
      simp only [Option.some.injEq, Prod.mk.injEq] at h
      obtain ⟨rfl, rfl, rfl, rfl, rfl, _⟩ := h
      refine ⟨h4, [a, 39], rfl, ⟨l, rfl⟩, ?_, fun r => ?_⟩
      · intro c hc e
        subst e
        simp only [List.mem_cons, List.not_mem_nil, or_false] at hc
        rcases hc with rfl | hc
        · exact absurd h1 (by decide)
        · exact absurd hc (by decide)
      · show lex_char.f 1 (ofL (39 :: a :: 39 :: r)) = _
        rw [char_plain a 39 r h4, j0_false _ r a 39 rfl, if_pos ⟨rfl, h1, h2, h3, h4⟩]
    · exact absurd h hbad
  match x with
  | [] => rw [char_short [] (by simp)] at h; exact absurd h hbad
  | [a] => rw [char_short [a] (by simp)] at h; exact absurd h hbad
  | a :: b :: l =>
    by_cases ha : a = 92
    · subst ha
      match l with
      | [] => rw [char_esc3] at h; exact absurd h hbad
      | d :: l =>
        rw [char_esc] at h
        cases hd : d == 39 with
        | true =>
          obtain rfl : d = 39 := by simpa using hd
          rw [hd, j0_true _ l b 39 rfl] at h
          obtain ⟨r, hr, hesc⟩ := escape_some (b.toNat : Int)
          rw [hr, Option.bind_some] at h
          split at h
          · rename_i h2
            simp only [Option.some.injEq, Prod.mk.injEq] at h
            obtain ⟨rfl, rfl, rfl, rfl, rfl, _⟩ := h
            refine ⟨[92, b, 39], rfl, ⟨l, rfl⟩, ?_, fun r' => ?_⟩
            · intro c hc e
              subst e
              have hb := hesc h2
              simp only [List.mem_cons, List.not_mem_nil, or_false] at hc
              rcases hc with hc | rfl | hc
              · exact absurd hc (by decide)
              · revert hb
                decide
              · exact absurd hc (by decide)
            · show lex_char.f 1 (ofL (39 :: 92 :: b :: 39 :: r')) = _
              rw [char_esc, hd, j0_true _ r' b 39 rfl, hr, Option.bind_some, if_pos h2]
          · exact absurd h hbad
        | false =>
          rw [hd] at h
          exact absurd rfl (three 92 b (d :: l) h).1
    · rw [char_plain a b l ha] at h
      exact (three a b l h).2
theorem span_all (x : List UInt8) (hx : x.length ≤ 70000) : lex_span_more.f (ofL x) = some (((x.takeWhile moreC).length : Nat) : Int) := by
  unfold lex_span_more.f
  rw [if_pos (by rw [ofL_size]; omega), span_ofL]
  rfl
theorem tw_len (x : List UInt8) (p : UInt8 → Bool) : (x.takeWhile p).length ≤ x.length := (List.takeWhile_prefix p).length_le
def wordTok (tl : List UInt8) : Option (Int × ByteArray × Int × Int × Int × Int) := if ((tl.length : Nat) : Int) > 31 then some (1, ofL tl, 0, 0, 0, 2) else (lex_Word.f (ofL tl)).bind fun t => if t = true then some (2, ofL tl, 0, 0, 0, 0) else some (1, ofL tl, 0, 0, 0, 0)
theorem tok_letter (k : Nat) (c : UInt8) (x : List UInt8) (hx : (c :: x).length ≤ 70000) (hb : lex_letter.f (c.toNat : Int) = some true) : lex_token.f k (ofL (c :: x)) = wordTok ((c :: x).takeWhile moreC) := by
  unfold lex_token.f
  rw [if_pos (by rw [ofL_size]; simp <;> omega), bt_head, hb, Option.bind_some, if_pos rfl, span_all _ hx, Option.bind_some, if_pos (by omega), if_pos (by rw [ofL_size]; have := tw_len (c :: x) moreC; omega)]
  simp only [Int.toNat_natCast]
  rw [ofL_extract, List.drop_zero, take_while]
  rfl
theorem tok_digit (k : Nat) (c : UInt8) (x : List UInt8) (hx : (c :: x).length ≤ 70000) (hb : lex_letter.f (c.toNat : Int) = some false) (hd : lex_digit.f (c.toNat : Int) = some true) : lex_token.f k (ofL (c :: x)) = some (numAll (ofL ((c :: x).takeWhile moreC))) := by
  unfold lex_token.f
  rw [if_pos (by rw [ofL_size]; simp <;> omega), bt_head, hb, Option.bind_some, if_neg (by simp), hd, Option.bind_some, if_pos rfl]
  unfold lex_number.f
  rw [if_pos (by rw [ofL_size]; omega), Option.bind_some, span_ofL, ofL_extract, List.drop_zero]
  rw [show ((c :: x).takeWhile fun b => moreB (b.toNat : Int)) = (c :: x).takeWhile moreC from rfl, take_while]
theorem tok_char (k : Nat) (x : List UInt8) (hx : (39 :: x).length ≤ 70000) : lex_token.f (k + 1) (ofL (39 :: x)) = lex_char.f (k + 1) (ofL (39 :: x)) := by
  have h1 : lex_letter.f (((39 : UInt8).toNat : Nat) : Int) = some false := by decide +kernel
  have h2 : lex_digit.f (((39 : UInt8).toNat : Nat) : Int) = some false := by decide +kernel
  unfold lex_token.f
  rw [if_pos (by rw [ofL_size]; simp <;> omega), bt_head, h1, Option.bind_some, if_neg (by simp), h2, Option.bind_some, if_neg (by simp), if_pos (by decide)]
  cases lex_char.f (k + 1) (ofL (39 :: x)) with
  | none => rfl
  | some r => rfl
def markTok (m : List UInt8) : Option (Int × ByteArray × Int × Int × Int × Int) := if m = [] then some (0, ⟨#[]⟩, 0, 0, 0, 3) else some (4, ofL m, 0, 0, 0, 0)
theorem tok_mark (k : Nat) (c : UInt8) (x : List UInt8) (hx : (c :: x).length ≤ 70000) (hb : lex_letter.f (c.toNat : Int) = some false) (hd : lex_digit.f (c.toNat : Int) = some false) (h39 : c ≠ 39) : lex_token.f k (ofL (c :: x)) = markTok (markFrom 0 (ofL (c :: x))) := by
  have hc : ¬ ((c.toNat : Nat) : Int) = 39 := by
    intro e
    apply h39
    apply UInt8.toNat_inj.mp
    show c.toNat = 39
    omega
  unfold lex_token.f
  rw [if_pos (by rw [ofL_size]; simp <;> omega), bt_head, hb, Option.bind_some, if_neg (by simp), hd, Option.bind_some, if_neg (by simp), if_neg hc]
  unfold lex_mark.f
  rw [if_pos (by rw [ofL_size]; omega), Option.bind_some]
  unfold markTok
  rw [show (⟨(markFrom 0 (ofL (c :: x))).toArray⟩ : ByteArray) = ofL (markFrom 0 (ofL (c :: x))) from rfl, ofL_toList]
theorem digit_some (c : Int) : ∃ b, lex_digit.f c = some b := by
  unfold lex_digit.f
  split <;> exact ⟨_, rfl⟩
theorem tok_ctx (l : List UInt8) (hl : l.length ≤ 70000) (kd nm p q : Int) (t : ByteArray) (h : lex_token.f 1 (ofL l) = some (kd, t, nm, p, q, 0)) :
    ∃ tl, t = ofL tl ∧ tl <+: l ∧ (∀ c ∈ tl, c ≠ 10) ∧ (∃ c tl', tl = c :: tl' ∧ blankC c = false) ∧ ∀ r, Sep r → (tl ++ r).length ≤ 70000 → lex_token.f 1 (ofL (tl ++ r)) = some (kd, t, nm, p, q, 0) := by
  cases l with
  | nil =>
    unfold lex_token.f at h
    rw [if_neg (by rw [ofL_size]; simp)] at h
    cases h
  | cons c l =>
  obtain ⟨b, hb⟩ := letter_some (c.toNat : Int)
  have hsep : ∀ r, Sep r → moreC c = true → ((c :: l).takeWhile moreC ++ r).takeWhile moreC = (c :: l).takeWhile moreC := fun r hr _ =>
    takeWhile_sep moreC _ r (fun d hd => List.all_eq_true.mp List.all_takeWhile d hd) (fun d hd => blank_no_more d (hr d hd))
  have hplain : ∀ d ∈ (c :: l).takeWhile moreC, d ≠ 10 := fun d hd => (more_plain d (List.all_eq_true.mp List.all_takeWhile d hd)).1
  cases b with
  | true =>
    have hmc : moreC c = true := letter_more _ hb
    have htl : (c :: l).takeWhile moreC = c :: l.takeWhile moreC := by rw [List.takeWhile_cons, if_pos hmc]
    rw [tok_letter 1 c l hl hb] at h
    refine ⟨(c :: l).takeWhile moreC, ?_, List.takeWhile_prefix _, hplain, ⟨c, _, htl, (more_plain c hmc).2⟩, fun r hr hlen => ?_⟩
    · unfold wordTok at h
      split at h
      · simp at h
      · obtain ⟨v, hv⟩ := word_some (ofL ((c :: l).takeWhile moreC))
        rw [hv, Option.bind_some] at h
        split at h
        · simp only [Option.some.injEq, Prod.mk.injEq] at h
          exact h.2.1.symm
        · simp only [Option.some.injEq, Prod.mk.injEq] at h
          exact h.2.1.symm
    · have hs := hsep r hr hmc
      rw [htl, List.cons_append] at hs hlen ⊢
      rw [tok_letter 1 c _ hlen hb, hs, ← htl]
      exact h
  | false =>
    obtain ⟨b2, hd⟩ := digit_some (c.toNat : Int)
    cases b2 with
    | true =>
      have hmc : moreC c = true := digit_more _ hb hd
      have htl : (c :: l).takeWhile moreC = c :: l.takeWhile moreC := by rw [List.takeWhile_cons, if_pos hmc]
      rw [tok_digit 1 c l hl hb hd] at h
      refine ⟨(c :: l).takeWhile moreC, num_text _ _ _ _ _ _ (Option.some.inj h), List.takeWhile_prefix _, hplain, ⟨c, _, htl, (more_plain c hmc).2⟩, fun r hr hlen => ?_⟩
      have hs := hsep r hr hmc
      rw [htl, List.cons_append] at hs hlen ⊢
      rw [tok_digit 1 c _ hlen hb hd, hs, ← htl]
      exact h
    | false =>
      by_cases h39 : c = 39
      · subst h39
        rw [tok_char 0 l hl] at h
        obtain ⟨tl, rfl, hpre, h10, hr⟩ := char_ctx l kd nm p q t h
        refine ⟨39 :: tl, rfl, hpre, ?_, ⟨39, tl, rfl, by decide +kernel⟩, fun r _ hlen => ?_⟩
        · intro d hd
          rcases List.mem_cons.mp hd with rfl | hd
          · decide
          · exact h10 d hd
        · rw [List.cons_append] at hlen ⊢
          rw [tok_char 0 _ hlen]
          exact hr r
      · rw [tok_mark 1 c l hl hb hd h39] at h
        unfold markTok at h
        split at h
        · simp at h
        · rename_i hm
          obtain ⟨hmem, hpre⟩ := mark_mem _ hm
          generalize hg : markFrom 0 (ofL (c :: l)) = m at *
          obtain ⟨c', m', hc', hb', hd', h39'⟩ := (marks_plain m hmem).2.2.2
          have hpl := (marks_plain m hmem).2.1
          simp only [Option.some.injEq, Prod.mk.injEq] at h
          obtain ⟨rfl, rfl, rfl, rfl, rfl, _⟩ := h
          refine ⟨m, rfl, ?_, ?_, ⟨c', m', hc', hpl c' (by rw [hc']; simp)⟩, fun r hr hlen => ?_⟩
          · unfold prefB at hpre
            rw [Bool.and_eq_true, ofL_data] at hpre
            have := eq_of_beq hpre.2
            rw [← this]
            exact List.take_prefix _ _
          · intro d hd e
            have := hpl d hd
            rw [e] at this
            revert this
            decide +kernel
          · have hs := mark_sep m r hmem hr
            subst hc'
            rw [List.cons_append] at hs hlen ⊢
            rw [tok_mark 1 c' _ hlen hb' hd' h39', hs]
            unfold markTok
            rw [if_neg (by simp)]
theorem pref_some (s : ByteArray) (m : List UInt8) : strings_HasPrefix.f s ⟨m.toArray⟩ = some (prefB m s) := by
  have hm : (⟨m.toArray⟩ : ByteArray).size = m.length := rfl
  unfold strings_HasPrefix.f stringslite_HasPrefix.f prefB
  rw [hm]
  by_cases h : m.length ≤ s.size
  · rw [if_pos (by omega), if_pos (by omega), if_pos (by omega), Option.bind_some, decide_eq_true h, Bool.true_and]
    simp [ByteArray.toList_eq]
  · rw [if_neg (by omega), Option.bind_some, decide_eq_false h, Bool.false_and]
def blankF (l : List UInt8) : Int := if prefB [47, 47] (ofL l) = true then (if Lib.index l [10] ≥ 0 then Lib.index l [10] else l.length) else if prefB [47, 42] (ofL l) = true then (if Lib.index (l.drop 2) [42, 47] < 0 then -1 else Lib.index (l.drop 2) [42, 47] + 4) else ((l.takeWhile blankC).length : Nat)
theorem index_le (sub : List UInt8) (hs : sub ≠ []) : ∀ l : List UInt8, Lib.index l sub = -1 ∨ (0 ≤ Lib.index l sub ∧ Lib.index l sub + sub.length ≤ l.length)
  | [] => by
    cases sub with
    | nil => exact absurd rfl hs
    | cons a t => exact .inl rfl
  | b :: l => by
    unfold Lib.index
    split
    · rename_i h
      have := (List.isPrefixOf_iff_prefix.mp h).length_le
      right
      simp only [List.length_cons] at this ⊢
      omega
    · split
      · exact .inl rfl
      · rename_i h
        rcases index_le sub hs l with h2 | ⟨h2, h3⟩
        · rw [h2] at h
          exact absurd rfl h
        · right
          simp only [List.length_cons]
          omega
theorem pref_len (m : List UInt8) (l : List UInt8) (h : prefB m (ofL l) = true) : m.length ≤ l.length ∧ l.take m.length = m := by
  unfold prefB at h
  rw [Bool.and_eq_true, ofL_size, ofL_data] at h
  exact ⟨of_decide_eq_true h.1, eq_of_beq h.2⟩
theorem pref_of (m l : List UInt8) (h : m <+: l) : prefB m (ofL l) = true := by
  unfold prefB
  rw [ofL_size, ofL_data, decide_eq_true h.length_le, Bool.true_and, beq_iff_eq]
  exact (List.prefix_iff_eq_take.mp h).symm
theorem pref_prefix (m l : List UInt8) (h : prefB m (ofL l) = true) : m <+: l := by
  rw [← (pref_len m l h).2]
  exact List.take_prefix _ _
theorem blank_eq (l : List UInt8) (hl : l.length ≤ 70000) : lex_blank.f (ofL l) = some (blankF l) := by
  unfold lex_blank.f blankF
  rw [show (⟨#[47, 47]⟩ : ByteArray) = ⟨([47, 47] : List UInt8).toArray⟩ from rfl, show (⟨#[47, 42]⟩ : ByteArray) = ⟨([47, 42] : List UInt8).toArray⟩ from rfl, pref_some, pref_some, Option.bind_some]
  cases h1 : prefB [47, 47] (ofL l) with
  | true =>
    rw [if_pos rfl, if_pos rfl]
    unfold strings_Index.f
    rw [if_pos (by rw [ofL_size]; omega), Option.bind_some, ofL_data, ofL_size]
    show (if Lib.index l [10] ≥ 0 then _ else _) = _
    split <;> rfl
  | false =>
    rw [if_neg (show ¬ (false = true) by decide), if_neg (show ¬ (false = true) by decide), Option.bind_some]
    cases h2 : prefB [47, 42] (ofL l) with
    | true =>
      have h3 := (pref_len _ _ h2).1
      simp only [List.length_cons, List.length_nil] at h3
      rw [if_pos (show true = true from rfl), if_pos (show true = true from rfl), if_pos (show 2 ≤ ((ofL l).size : Int) by rw [ofL_size]; omega)]
      unfold strings_Index.f
      rw [ofL_size, ofL_extract, if_pos (by rw [ofL_size]; simp; omega), Option.bind_some, ofL_data, List.take_of_length_le (Nat.le_refl _)]
      show (if Lib.index (l.drop 2) [42, 47] < 0 then _ else _) = _
      have h4 := index_le [42, 47] (by simp) (l.drop 2)
      rw [List.length_drop] at h4
      split
      · rfl
      · have h5 : wrap64 (Lib.index (l.drop 2) [42, 47] + 4) = Lib.index (l.drop 2) [42, 47] + 4 := by unfold wrap64; omega
        show some (wrap64 (Lib.index (l.drop 2) [42, 47] + 4)) = _
        rw [h5]
    | false =>
      rw [if_neg (show ¬ (false = true) by decide), if_neg (show ¬ (false = true) by decide)]
      unfold lex_span_blank.f
      rw [if_pos (by rw [ofL_size]; omega), Option.bind_some, span_ofL]
      rfl
theorem blank_le (l : List UInt8) : blankF l ≤ l.length := by
  unfold blankF
  have h1 := index_le [10] (by simp) l
  have h2 := index_le [42, 47] (by simp) (l.drop 2)
  have h3 := tw_len l blankC
  rw [List.length_drop] at h2
  simp only [List.length_cons, List.length_nil] at h1 h2
  split
  · split <;> omega
  · split
    · rename_i h
      have := (pref_len _ _ h).1
      simp only [List.length_cons, List.length_nil] at this
      split <;> omega
    · omega
theorem blank_run (ws r : List UInt8) (hw : ws ≠ []) (hb : ∀ c ∈ ws, blankC c = true) (hr : ∀ c, r.head? = some c → blankC c = false) : blankF (ws ++ r) = (ws.length : Nat) := by
  cases ws with
  | nil => exact absurd rfl hw
  | cons c ws =>
    have hc := hb c (by simp)
    have hne : ∀ d : UInt8, prefB [47, d] (ofL (c :: ws ++ r)) = false := by
      intro d
      cases h : prefB [47, d] (ofL (c :: ws ++ r)) with
      | false => rfl
      | true =>
        have := (pref_prefix _ _ h)
        rw [List.cons_append, List.cons_prefix_cons] at this
        rw [← this.1] at hc
        exact absurd hc (by decide +kernel)
    unfold blankF
    rw [if_neg (by rw [hne]; simp), if_neg (by rw [hne]; simp), takeWhile_sep blankC _ _ hb hr]
theorem blank_zero_iff (l : List UInt8) (h : blankF l = 0) : prefB [47, 47] (ofL l) = false ∧ prefB [47, 42] (ofL l) = false := by
  unfold blankF at h
  cases h1 : prefB [47, 47] (ofL l) with
  | true =>
    exfalso
    rw [h1, if_pos rfl] at h
    obtain ⟨r, hr⟩ := pref_prefix _ _ h1
    subst hr
    have h2 : Lib.index ([47, 47] ++ r) [10] ≠ 0 := by
      show Lib.index (47 :: 47 :: r) [10] ≠ 0
      unfold Lib.index
      rw [if_neg (by simp)]
      have := Lib.index_ge (47 :: r) [10]
      split
      · omega
      · rename_i h3
        intro e
        have : Lib.index (47 :: r) [10] = -1 := by omega
        rw [this] at h3
        exact h3 rfl
    split at h
    · exact h2 h
    · simp at h
      omega
  | false =>
    refine ⟨rfl, ?_⟩
    rw [h1, if_neg (by simp)] at h
    cases h2 : prefB [47, 42] (ofL l) with
    | true =>
      exfalso
      rw [h2, if_pos rfl] at h
      split at h <;> omega
    | false => rfl
theorem blank_tok (l tl r : List UInt8) (h : blankF l = 0) (hp : tl <+: l) (hc : ∃ c tl', tl = c :: tl' ∧ blankC c = false) (hr : Sep r) : blankF (tl ++ r) = 0 := by
  obtain ⟨h1, h2⟩ := blank_zero_iff l h
  have key : ∀ d : UInt8, blankC d = false → prefB [47, d] (ofL l) = false → prefB [47, d] (ofL (tl ++ r)) = false := by
    intro d hd hl
    rw [pref_sep [47, d] tl r (by
      intro c hc
      simp only [List.mem_cons, List.not_mem_nil, or_false] at hc
      rcases hc with rfl | rfl
      · decide +kernel
      · exact hd) hr]
    cases hq : prefB [47, d] (ofL tl) with
    | false => rfl
    | true =>
      rw [pref_of [47, d] l ((pref_prefix _ _ hq).trans hp)] at hl
      cases hl
  unfold blankF
  rw [if_neg (by rw [key 47 (by decide +kernel) h1]; simp), if_neg (by rw [key 42 (by decide +kernel) h2]; simp)]
  obtain ⟨c, tl', rfl, hcb⟩ := hc
  rw [List.cons_append, List.takeWhile_cons, if_neg (by rw [hcb]; simp)]
  rfl
inductive Lx : List UInt8 → Int → Int → List S33 → Int → Int → Prop
  | nil (a b : Int) : Lx [] a b [] a b
  | skip (l : List UInt8) (a b : Int) (out : List S33) (a' b' : Int) (n : Nat) (hb : blankF l = (n : Int)) (h0 : 0 < n) (hn : n ≤ l.length) (h : Lx (l.drop n) (posL (l.take n) a b).1 (posL (l.take n) a b).2 out a' b') : Lx l a b out a' b'
  | tok (l : List UInt8) (a b : Int) (tl : List UInt8) (kd nm p q : Int) (out : List S33) (a' b' : Int) (hb : blankF l = 0) (hl : l.length ≤ 65536) (ht : lex_token.f 1 (ofL l) = some (kd, ofL tl, nm, p, q, 0)) (hp : tl <+: l) (hne : tl ≠ []) (h : Lx (l.drop tl.length) (posL tl a b).1 (posL tl a b).2 out a' b') : Lx l a b (⟨kd, ofL tl, nm, ⟨a, b⟩⟩ :: out) a' b'
theorem token_total (l : List UInt8) (hl : l.length ≤ 70000) (hne : l ≠ []) : ∃ r, lex_token.f 1 (ofL l) = some r := by
  cases l with
  | nil => exact absurd rfl hne
  | cons c l =>
    obtain ⟨b, hb⟩ := letter_some (c.toNat : Int)
    cases b with
    | true =>
      rw [tok_letter 1 c l hl hb]
      unfold wordTok
      obtain ⟨v, hv⟩ := word_some (ofL ((c :: l).takeWhile moreC))
      rw [hv, Option.bind_some]
      repeat' split
      all_goals exact ⟨_, rfl⟩
    | false =>
      obtain ⟨b2, hd⟩ := digit_some (c.toNat : Int)
      cases b2 with
      | true => exact ⟨_, tok_digit 1 c l hl hb hd⟩
      | false =>
        by_cases h39 : c = 39
        · subst h39
          rw [tok_char 0 l hl]
          exact char_total l
        · rw [tok_mark 1 c l hl hb hd h39]
          unfold markTok
          split <;> exact ⟨_, rfl⟩
theorem drop_ofL (l : List UInt8) (n : Nat) : (ofL l).extract n (ofL l).size = ofL (l.drop n) := by
  rw [ofL_size, ofL_extract, List.take_of_length_le (Nat.le_refl _)]
theorem lex_total : ∀ (N : Nat) (l : List UInt8) (a b : Int) (acc : List S33), l.length ≤ N → l.length ≤ 65536 → acc.length + l.length < 100000 →
    (∃ out a' b', Lx l a b out a' b' ∧ out.length ≤ l.length ∧ ∀ k, N < k → lexL k (ofL l) a b acc = some (acc ++ out, a', b', 0)) ∨
    (∃ a' b' e, e ≠ 0 ∧ ∀ k, N < k → lexL k (ofL l) a b acc = some ([], a', b', e))
  | 0, l, a, b, acc, hN, hl, ha => by
    obtain rfl : l = [] := List.length_eq_zero_iff.mp (by omega)
    refine .inl ⟨[], a, b, .nil a b, Nat.le_refl _, fun k hk => ?_⟩
    obtain ⟨k, rfl⟩ : ∃ m, k = m + 1 := ⟨k - 1, by omega⟩
    simp only [lexL]
    rw [if_pos (by rw [ofL_size]; rfl), List.append_nil]
  | N + 1, l, a, b, acc, hN, hl, ha => by
    by_cases hz : l = []
    · subst hz
      refine .inl ⟨[], a, b, .nil a b, Nat.le_refl _, fun k hk => ?_⟩
      obtain ⟨k, rfl⟩ : ∃ m, k = m + 1 := ⟨k - 1, by omega⟩
      simp only [lexL]
      rw [if_pos (by rw [ofL_size]; rfl), List.append_nil]
    have hp : 0 < l.length := List.length_pos_iff.mpr hz
    have hbe := blank_eq l (by omega)
    have hble := blank_le l
    have hstep : ∀ k, lexL (k + 1) (ofL l) a b acc = (if blankF l < 0 then some ([], a, b, 3) else if 0 < blankF l then (if blankF l ≤ ((ofL l).size : Int) then lexL k ((ofL l).extract (blankF l).toNat (ofL l).size) (posL ((ofL l).data.toList.take (blankF l).toNat) a b).1 (posL ((ofL l).data.toList.take (blankF l).toNat) a b).2 acc else none) else
      (lex_token.f k (ofL l)).bind fun t => if t.2.2.2.2.2 = 0 then (if t.2.1.size ≤ (ofL l).size then (if acc.length < 100000 then lexL k ((ofL l).extract t.2.1.size (ofL l).size) (posL ((ofL l).data.toList.take t.2.1.size) a b).1 (posL ((ofL l).data.toList.take t.2.1.size) a b).2 (acc ++ [⟨t.1, t.2.1, t.2.2.1, ⟨a, b⟩⟩]) else none) else none) else some ([], a, b, t.2.2.2.2.2)) := by
      intro k
      conv => lhs; unfold lexL
      rw [if_neg (by rw [ofL_size]; omega), hbe, Option.bind_some]
    by_cases h1 : blankF l < 0
    · refine .inr ⟨a, b, 3, by decide, fun k hk => ?_⟩
      obtain ⟨k, rfl⟩ : ∃ m, k = m + 1 := ⟨k - 1, by omega⟩
      rw [hstep, if_pos h1]
    by_cases h2 : 0 < blankF l
    · obtain ⟨n, hn⟩ := Int.eq_ofNat_of_zero_le (show 0 ≤ blankF l by omega)
      have hd : (l.drop n).length ≤ N := by rw [List.length_drop]; omega
      have ih := lex_total N (l.drop n) (posL (l.take n) a b).1 (posL (l.take n) a b).2 acc hd (by rw [List.length_drop]; omega) (by rw [List.length_drop]; omega)
      have hk : ∀ k, N + 1 < k → ∃ m, k = m + 1 ∧ N < m ∧ lexL k (ofL l) a b acc = lexL m (ofL (l.drop n)) (posL (l.take n) a b).1 (posL (l.take n) a b).2 acc := by
        intro k hk
        refine ⟨k - 1, by omega, by omega, ?_⟩
        obtain ⟨m, rfl⟩ : ∃ m, k = m + 1 := ⟨k - 1, by omega⟩
        rw [hstep, if_neg h1, if_pos h2, if_pos (by rw [ofL_size]; exact hble), hn, Int.toNat_natCast, drop_ofL, ofL_data]
        rfl
      rcases ih with ⟨out, a', b', hL, hol, hr⟩ | ⟨a', b', e, he, hr⟩
      · refine .inl ⟨out, a', b', .skip l a b out a' b' n hn (by omega) (by omega) hL, by rw [List.length_drop] at hol; omega, fun k hk' => ?_⟩
        obtain ⟨m, rfl, hm, e⟩ := hk k hk'
        rw [e, hr m hm]
      · refine .inr ⟨a', b', e, he, fun k hk' => ?_⟩
        obtain ⟨m, rfl, hm, e2⟩ := hk k hk'
        rw [e2, hr m hm]
    · have hb0 : blankF l = 0 := by omega
      obtain ⟨⟨kd, t, nm, p, q, e⟩, ht⟩ := token_total l (by omega) hz
      have htk : ∀ k, N + 1 < k + 1 → lex_token.f k (ofL l) = some (kd, t, nm, p, q, e) := fun k hk => at_rounds (fun k => lex_token.mono (ofL l) k) (show 1 ≤ k by omega) ht
      by_cases he : e = 0
      · subst he
        obtain ⟨tl, rfl, htp, _, ⟨c, tl', htl, _⟩, _⟩ := tok_ctx l (by omega) kd nm p q t ht
        have hne : tl ≠ [] := by rw [htl]; simp
        have htlen := htp.length_le
        have htpos : 0 < tl.length := List.length_pos_iff.mpr hne
        have htake : l.take tl.length = tl := (List.prefix_iff_eq_take.mp htp).symm
        have hd : (l.drop tl.length).length ≤ N := by rw [List.length_drop]; omega
        have ih := lex_total N (l.drop tl.length) (posL tl a b).1 (posL tl a b).2 (acc ++ [⟨kd, ofL tl, nm, ⟨a, b⟩⟩]) hd (by rw [List.length_drop]; omega) (by rw [List.length_drop, List.length_append]; simp; omega)
        have hk : ∀ k, N + 1 < k → ∃ m, k = m + 1 ∧ N < m ∧ lexL k (ofL l) a b acc = lexL m (ofL (l.drop tl.length)) (posL tl a b).1 (posL tl a b).2 (acc ++ [⟨kd, ofL tl, nm, ⟨a, b⟩⟩]) := by
          intro k hk
          refine ⟨k - 1, by omega, by omega, ?_⟩
          obtain ⟨m, rfl⟩ : ∃ m, k = m + 1 := ⟨k - 1, by omega⟩
          rw [hstep, if_neg h1, if_neg h2, htk m hk, Option.bind_some]
          dsimp only
          rw [if_pos rfl, if_pos (by rw [ofL_size, ofL_size]; exact htlen), if_pos (by omega), ofL_size tl, drop_ofL, ofL_data, htake]
          rfl
        rcases ih with ⟨out, a', b', hL, hol, hr⟩ | ⟨a', b', e, he, hr⟩
        · refine .inl ⟨⟨kd, ofL tl, nm, ⟨a, b⟩⟩ :: out, a', b', .tok l a b tl kd nm p q out a' b' hb0 hl ht htp hne hL, by rw [List.length_drop] at hol; simp; omega, fun k hk' => ?_⟩
          obtain ⟨m, rfl, hm, e⟩ := hk k hk'
          rw [e, hr m hm, List.append_assoc]
          rfl
        · refine .inr ⟨a', b', e, he, fun k hk' => ?_⟩
          obtain ⟨m, rfl, hm, e2⟩ := hk k hk'
          rw [e2, hr m hm]
      · refine .inr ⟨a, b, e, he, fun k hk' => ?_⟩
        obtain ⟨m, rfl⟩ : ∃ m, k = m + 1 := ⟨k - 1, by omega⟩
        rw [hstep, if_neg h1, if_neg h2, htk m hk', Option.bind_some]
        dsimp only
        rw [if_neg he]
def bytes (t : S33) : List UInt8 := t.f1.data.toList
def txt : List S33 → List UInt8
  | [] => []
  | [t] => bytes t
  | t :: u :: r => bytes t ++ 32 :: txt (u :: r)
def tailT : List S33 → List UInt8
  | [] => []
  | u :: r => 32 :: txt (u :: r)
theorem txt_cons (t : S33) (r : List S33) : txt (t :: r) = bytes t ++ tailT r := by
  cases r <;> simp [txt, tailT]
theorem join_txt : ∀ l : List S33, Lib.join (l.map fun t => t.f1.data.toList) [32] = txt l
  | [] => rfl
  | [t] => by rw [List.map_cons, List.map_nil, Lib.join_one]; rfl
  | t :: u :: r => by
    have ih := join_txt (u :: r)
    rw [List.map_cons, Lib.join_cons] at ih ⊢
    rw [txt, ← ih, List.map_cons]
    simp [Lib.joinTail, bytes]
def relabel : Int → List S33 → List S33
  | _, [] => []
  | c, t :: r => ⟨t.f0, t.f1, t.f2, ⟨1, c⟩⟩ :: relabel (c + (bytes t).length + 1) r
theorem posL_plain (l : List UInt8) (h : ∀ c ∈ l, c ≠ 10) : ∀ a b, posL l a b = (a, b + l.length) := by
  induction l with
  | nil => intro a b; simp [posL]
  | cons c l ih =>
    intro a b
    have hc : ¬ c.toNat = 10 := fun e => h c (by simp) (UInt8.toNat_inj.mp e)
    unfold posL
    rw [if_neg hc, ih (fun d hd => h d (by simp [hd]))]
    simp only [List.length_cons, Prod.mk.injEq, true_and]
    omega
def total (l : List S33) : Nat := (l.map fun t => (bytes t).length).sum
theorem txt_len : ∀ l : List S33, (txt l).length ≤ total l + l.length
  | [] => by simp [txt, total]
  | [t] => by simp [txt, total]
  | t :: u :: r => by
    have := txt_len (u :: r)
    simp only [txt, List.length_append, List.length_cons, total, List.map_cons, List.sum_cons] at this ⊢
    omega
theorem lx_total {l : List UInt8} {a b : Int} {out : List S33} {a' b' : Int} (h : Lx l a b out a' b') : total out ≤ l.length ∧ out.length ≤ l.length := by
  induction h with
  | nil => simp [total]
  | skip l a b out a' b' n hb h0 hn h ih => rw [List.length_drop] at ih; omega
  | tok l a b tl kd nm p q out a' b' hb hl ht hp hne h ih =>
    rw [List.length_drop] at ih
    have h1 := hp.length_le
    have h2 := List.length_pos_iff.mpr hne
    simp only [total, List.map_cons, List.sum_cons, bytes, ofL_data, List.length_cons] at ih ⊢
    omega
theorem lx_back {l : List UInt8} {a b : Int} {out : List S33} {a' b' : Int} (h : Lx l a b out a' b') : (txt out).length ≤ 65536 → ∀ c : Int, Lx (txt out) 1 c (relabel c out) 1 (c + (txt out).length) ∧ ∀ d, (txt out).head? = some d → blankC d = false := by
  induction h with
  | nil => intro _ c; exact ⟨by simpa [txt, relabel] using Lx.nil 1 c, fun d hd => by simp [txt] at hd⟩
  | skip l a b out a' b' n hb h0 hn h ih => exact ih
  | tok l a b tl kd nm p q out a' b' hb hl ht hp hne h ih =>
    intro hlen c
    obtain ⟨tl', e, _, h10, ⟨c0, r0, htl, hc0⟩, hctx⟩ := tok_ctx l (by omega) kd nm p q _ ht
    have e := ofL_inj e
    subst e
    rw [txt_cons] at hlen ⊢
    have hby : bytes ⟨kd, ofL tl, nm, ⟨a, b⟩⟩ = tl := ofL_data tl
    rw [hby] at hlen ⊢
    rw [List.length_append] at hlen
    have hsep : Sep (tailT out) := by
      intro d hd
      cases out with
      | nil => simp [tailT] at hd
      | cons u r =>
        simp only [tailT, List.head?_cons, Option.some.injEq] at hd
        subst hd
        decide +kernel
    have hrest : Lx (tailT out) 1 (c + tl.length) (relabel (c + tl.length + 1) out) 1 (c + tl.length + (tailT out).length) := by
      cases out with
      | nil => simpa [tailT, relabel] using Lx.nil 1 (c + tl.length)
      | cons u r =>
        simp only [tailT, List.length_cons] at hlen ⊢
        obtain ⟨hL, hhd⟩ := ih (by omega) (c + tl.length + 1)
        have hbl : blankF (32 :: txt (u :: r)) = ((1 : Nat) : Int) := blank_run [32] (txt (u :: r)) (by simp) (by intro d hd; simp only [List.mem_cons, List.not_mem_nil, or_false] at hd; subst hd; decide +kernel) hhd
        have h2 := Lx.skip (32 :: txt (u :: r)) 1 (c + tl.length) (relabel (c + tl.length + 1) (u :: r)) 1 (c + tl.length + 1 + (txt (u :: r)).length) 1 hbl (by omega) (by simp)
        rw [show ((32 : UInt8) :: txt (u :: r)).drop 1 = txt (u :: r) from rfl, show ((32 : UInt8) :: txt (u :: r)).take 1 = [32] from rfl, posL_plain [32] (by simp)] at h2
        have h3 := h2 (by simpa using hL)
        rw [show c + (tl.length : Int) + (((txt (u :: r)).length + 1 : Nat) : Int) = c + tl.length + 1 + (txt (u :: r)).length by omega]
        exact h3
    have htok := Lx.tok (tl ++ tailT out) 1 c tl kd nm p q (relabel (c + tl.length + 1) out) 1 (c + tl.length + (tailT out).length) (blank_tok l tl _ hb hp ⟨c0, r0, htl, hc0⟩ hsep) (by rw [List.length_append]; omega) (hctx _ hsep (by rw [List.length_append]; omega)) (List.prefix_append _ _) hne
    rw [List.drop_left, posL_plain tl h10] at htok
    refine ⟨?_, ?_⟩
    · have h4 := htok hrest
      rw [List.length_append, show c + ((tl.length + (tailT out).length : Nat) : Int) = c + tl.length + (tailT out).length by omega]
      unfold relabel
      rw [hby]
      exact h4
    · intro d hd
      rw [htl] at hd
      simp only [List.cons_append, List.head?_cons, Option.some.injEq] at hd
      subst hd
      exact hc0
theorem lx_run {l : List UInt8} {a b : Int} {out : List S33} {a' b' : Int} (h : Lx l a b out a' b') : l.length ≤ 65536 → ∀ acc k, l.length < k → acc.length + l.length < 100000 → lexL k (ofL l) a b acc = some (acc ++ out, a', b', 0) := by
  induction h with
  | nil a b =>
    intro _ acc k hk _
    obtain ⟨k, rfl⟩ : ∃ m, k = m + 1 := ⟨k - 1, by omega⟩
    simp only [lexL]
    rw [if_pos (by rw [ofL_size]; rfl), List.append_nil]
  | skip l a b out a' b' n hb h0 hn h ih =>
    intro hl acc k hk ha
    obtain ⟨k, rfl⟩ : ∃ m, k = m + 1 := ⟨k - 1, by omega⟩
    have ih := ih (by rw [List.length_drop]; omega) acc k (by rw [List.length_drop]; omega) (by rw [List.length_drop]; omega)
    conv => lhs; unfold lexL
    rw [if_neg (by rw [ofL_size]; omega), blank_eq l (by omega), Option.bind_some, hb, if_neg (by omega), if_pos (by omega), if_pos (by rw [ofL_size]; omega), Int.toNat_natCast, drop_ofL, ofL_data]
    exact ih
  | tok l a b tl kd nm p q out a' b' hb hl' ht hp hne h ih =>
    intro hl acc k hk ha
    obtain ⟨k, rfl⟩ : ∃ m, k = m + 1 := ⟨k - 1, by omega⟩
    have htlen := hp.length_le
    have htpos : 0 < tl.length := List.length_pos_iff.mpr hne
    have htake : l.take tl.length = tl := (List.prefix_iff_eq_take.mp hp).symm
    have htk : lex_token.f k (ofL l) = some (kd, ofL tl, nm, p, q, 0) := at_rounds (fun k => lex_token.mono (ofL l) k) (show 1 ≤ k by omega) ht
    have ih := ih (by rw [List.length_drop]; omega) (acc ++ [⟨kd, ofL tl, nm, ⟨a, b⟩⟩]) k (by rw [List.length_drop]; omega) (by rw [List.length_drop, List.length_append]; simp; omega)
    conv => lhs; unfold lexL
    rw [if_neg (by rw [ofL_size]; omega), blank_eq l (by omega), Option.bind_some, hb, if_neg (by omega), if_neg (by omega), htk, Option.bind_some]
    dsimp only
    rw [if_pos rfl, if_pos (by rw [ofL_size, ofL_size]; exact htlen), if_pos (by omega), ofL_size tl, drop_ofL, ofL_data, htake, ih, List.append_assoc]
    rfl
end Go.Proofs.Ytgelabhiebmadaa.Pure
end
section
namespace Go.Proofs.Ytgelabhiebmadaa.Pure
open Go.RowKit Go.Proofs.Ytgelabhiebmadaa.P Go.Proofs.YtgelabhiebmadaaW.PrintWords Go.Proofs.YtgelabhiebmadaaW.PrintLast
set_option linter.unusedVariables false
theorem awake_ge (k : Nat) (h : 60 ≤ k) : rushlightlaw07_awake.f k = some true := at_rounds (fun k => rushlightlaw07_awake.mono k) h (by kernel_rfl)
theorem text_loop (l : List S33) (hl : l.length ≤ 100000) : ∀ (d k i : Nat) (acc : List ByteArray), l.length = i + d → d < k → acc.length = i → lex_Text.l0 k acc l (l.length : Int) i = (strings_Join.f (acc ++ (l.drop i).map (·.f1)) (⟨#[32]⟩ : ByteArray))
  | 0, k, i, acc, hi, hk, ha => by
    obtain ⟨k, rfl⟩ : ∃ m, k = m + 1 := ⟨k - 1, by omega⟩
    simp only [lex_Text.l0]
    rw [if_neg (by omega), List.drop_eq_nil_of_le (by omega), List.map_nil, List.append_nil]
    generalize strings_Join.f acc (⟨#[32]⟩ : ByteArray) = o
    cases o <;> rfl
  | d + 1, k, i, acc, hi, hk, ha => by
    obtain ⟨k, rfl⟩ : ∃ m, k = m + 1 := ⟨k - 1, by omega⟩
    have hlt : i < l.length := by omega
    simp only [lex_Text.l0]
    have e : rd_T33 l (i : Int) = l[i] := by simp [rd_T33, List.getD, hlt]
    have e2 : wrap64 ((i : Int) + 1) = ((i + 1 : Nat) : Int) := by unfold wrap64; omega
    rw [if_pos (by omega), if_pos (by omega), if_pos (by omega), if_pos (by omega), e, e2, text_loop l hl d k (i + 1) _ (by omega) (by omega) (by simp [ha]), List.drop_eq_getElem_cons hlt, List.map_cons, List.append_assoc]
    rfl
theorem text_eq (l : List S33) (hl : l.length ≤ 100000) (ht : (txt l).length ≤ 100000) (k : Nat) (hk : l.length < k) : lex_Text.f k l = some (ofL (txt l)) := by
  unfold lex_Text.f
  have := text_loop l hl l.length k 0 [] (by omega) hk rfl
  rw [show ((0 : Nat) : Int) = 0 from rfl] at this
  rw [this, List.nil_append, List.drop_zero]
  unfold strings_Join.f
  have hj : Lib.join ((l.map (·.f1)).map (·.data.toList)) (⟨#[32]⟩ : ByteArray).data.toList = txt l := by
    rw [List.map_map]
    exact join_txt l
  rw [hj, if_pos ⟨by rw [List.length_map]; omega, by omega⟩]
  rfl
def atOf (l : List S33) (i : Nat) : Nat := ((l.take i).map fun t => (bytes t).length + 1).sum
theorem relabel_len : ∀ (l : List S33) (c : Int), (relabel c l).length = l.length
  | [], _ => rfl
  | t :: r, c => by simp [relabel, relabel_len r]
theorem relabel_get : ∀ (l : List S33) (c : Int) (i : Nat) (h : i < l.length), (relabel c l)[i]? = some ⟨l[i].f0, l[i].f1, l[i].f2, ⟨1, c + atOf l i⟩⟩
  | t :: r, c, 0, h => by simp [relabel, atOf]
  | t :: r, c, i + 1, h => by
    have := relabel_get r (c + (bytes t).length + 1) i (by simpa using h)
    have e : c + ((bytes t).length : Int) + 1 + (atOf r i : Nat) = c + (atOf (t :: r) (i + 1) : Nat) := by
      simp only [atOf, List.take_succ_cons, List.map_cons, List.sum_cons]
      omega
    rw [e] at this
    simp only [relabel, List.getElem?_cons_succ, this, List.getElem_cons_succ]
theorem atOf_succ (l : List S33) (i : Nat) (h : i < l.length) : atOf l (i + 1) = atOf l i + (bytes l[i]).length + 1 := by
  unfold atOf
  rw [List.take_succ_eq_append_getElem h, List.map_append, List.sum_append]
  simp
  omega
theorem atOf_le (l : List S33) : ∀ i, atOf l i ≤ total l + l.length := by
  intro i
  unfold atOf
  have h1 : ∀ m : List S33, (m.map fun t => (bytes t).length + 1).sum = total m + m.length := by
    intro m
    induction m with
    | nil => simp [total]
    | cons t r ih => simp only [List.map_cons, List.sum_cons, total, List.length_cons] at ih ⊢; omega
  rw [h1]
  have h2 : ∀ m n : List S33, total (m ++ n) = total m + total n := by
    intro m n
    simp [total]
  have h3 := h2 (l.take i) (l.drop i)
  rw [List.take_append_drop] at h3
  have h4 : (l.take i).length ≤ l.length := by rw [List.length_take]; omega
  omega
theorem wrap_small (x : Int) (h0 : 0 ≤ x) (h1 : x ≤ 1000000) : wrap64 x = x := by
  unfold wrap64
  omega
theorem back_arith (x y z x1 : Nat) (hz : z = y) (hs : x1 = x + y + 1) (hb : x1 ≤ 100000) : wrap64 ((x : Int) + (z : Int)) = (x : Int) + (z : Int) ∧ wrap64 ((x : Int) + (z : Int) + 1) = (x1 : Int) ∧ wrap64 ((x : Int) + 1) = 1 + (x : Int) := by
  refine ⟨wrap_small _ (by omega) (by omega), ?_, ?_⟩
  · rw [wrap_small _ (by omega) (by omega)]; omega
  · rw [wrap_small _ (by omega) (by omega)]; omega
theorem back_loop (l : List S33) (hl : total l + l.length ≤ 100000) : ∀ (d k i : Nat), l.length = i + d → d + 60 < k → rushlightlaw07_LexBack.l0 k l (relabel 1 l) (atOf l i) i = some true
  | 0, k, i, hi, hk => by
    obtain ⟨k, rfl⟩ : ∃ m, k = m + 1 := ⟨k - 1, by omega⟩
    simp only [rushlightlaw07_LexBack.l0]
    rw [if_neg (by rw [relabel_len]; omega), awake_ge k (by omega), Option.bind_some]
  | d + 1, k, i, hi, hk => by
    obtain ⟨k, rfl⟩ : ∃ m, k = m + 1 := ⟨k - 1, by omega⟩
    have hlt : i < l.length := by omega
    have e : rd_T33 l (i : Int) = l[i] := by simp [rd_T33, List.getD, hlt]
    have e1 : rd_T33 (relabel 1 l) (i : Int) = ⟨l[i].f0, l[i].f1, l[i].f2, ⟨1, 1 + atOf l i⟩⟩ := by
      simp only [rd_T33, List.getD, Int.toNat_natCast, relabel_get l 1 i hlt, Option.getD_some]
    have e2 : wrap64 ((i : Int) + 1) = ((i + 1 : Nat) : Int) := by unfold wrap64; omega
    obtain ⟨e4, e5, e3⟩ := back_arith (atOf l i) (bytes l[i]).length l[i].f1.size (atOf l (i + 1)) (data_length _).symm (atOf_succ l i hlt) (Nat.le_trans (atOf_le l (i + 1)) hl)
    simp only [rushlightlaw07_LexBack.l0]
    have q1 : (i : Int) < ((relabel 1 l).length : Int) := by rw [relabel_len]; exact Int.ofNat_lt.mpr hlt
    have q2 : (i : Int) < (l.length : Int) := Int.ofNat_lt.mpr hlt
    rw [if_pos q1, if_pos (Int.natCast_nonneg i), if_pos q2, e, e1, if_pos rfl, if_pos rfl, if_pos rfl, e3, if_neg (by simp), e4, e5, e2]
    exact back_loop l hl d k (i + 1) (by omega) (by omega)
theorem LexBack : rushlightlaw07_LexBack.Pure := by
  intro s hs
  refine ⟨20000, ?_⟩
  unfold rushlightlaw07_LexBack.f
  by_cases h : (s.size : Int) > 3000
  · rw [if_pos h, awake_ge _ (by omega), Option.bind_some]
  rw [if_neg h]
  have hz : s.data.toList.length ≤ 3000 := by rw [data_length]; omega
  have hf : ∀ l : List UInt8, l.length ≤ 65536 → ∀ k, lex_Lex.f k (ofL l) = lexL k (ofL l) 1 1 [] := fun l hl k => by
    unfold lex_Lex.f
    rw [if_neg (by rw [ofL_size]; omega)]
  rcases lex_total s.data.toList.length s.data.toList 1 1 [] (Nat.le_refl _) (by omega) (by simp; omega) with ⟨out, a', b', hL, hol, hr⟩ | ⟨a', b', e, he, hr⟩
  · have h1 : lex_Lex.f 20000 s = some (out, a', b', 0) := by
      have := hf s.data.toList (by omega) 20000
      rw [ofL_list] at this
      rw [this]
      have := hr 20000 (by omega)
      rw [ofL_list, List.nil_append] at this
      exact this
    obtain ⟨ht, hn⟩ := lx_total hL
    have htx := txt_len out
    obtain ⟨hB, _⟩ := lx_back hL (by omega) 1
    have h2 : lex_Lex.f 20000 (ofL (txt out)) = some (relabel 1 out, 1, 1 + ((txt out).length : Int), 0) := by
      rw [hf _ (by omega), lx_run hB (by omega) [] 20000 (by omega) (by simp; omega), List.nil_append]
    rw [h1, Option.bind_some]
    dsimp only
    rw [if_pos rfl, text_eq out (by omega) (by omega) 20000 (by omega), Option.bind_some, h2, Option.bind_some]
    dsimp only
    have e1 : wrap64 (((ofL (txt out)).size : Int) + 1) = 1 + ((txt out).length : Int) := by rw [ofL_size, wrap_small _ (by omega) (by omega)]; omega
    rw [if_pos rfl, if_pos (by rw [relabel_len]), e1]
    show rushlightlaw07_LexBack.j0 (19999 + 1) _ _ _ = _
    rw [rushlightlaw07_LexBack.j0, if_neg (by simp)]
    have := back_loop out (by omega) out.length 19999 0 (by omega) (by omega)
    simpa [atOf] using this
  · have h1 : lex_Lex.f 20000 s = some ([], a', b', e) := by
      have := hf s.data.toList (by omega) 20000
      rw [ofL_list] at this
      rw [this]
      have := hr 20000 (by omega)
      rw [ofL_list] at this
      exact this
    rw [h1, Option.bind_some]
    dsimp only
    rw [if_neg he, awake_ge _ (by omega), Option.bind_some, if_pos rfl]
    rfl
end Go.Proofs.Ytgelabhiebmadaa.Pure
end
