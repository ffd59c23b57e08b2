/- A claim's text, put together by a program of this session (wip/tools/shake.py): the declarations that the claim needs. -/
import Derived.Test.YtecbponmpinnoaaNb0
import Derived.Test.YtecbponmpinnoaaNb1
import Derived.Test.YtecbponmpinnoaaNb2
import Derived.Test.YtecbponmpinnoaaNb3
import Derived.Test.YtecbponmpinnoaaNb4
import Derived.Test.YtecbponmpinnoaaNb5
import Derived.Test.YtecbponmpinnoaaNb6
import Derived.Test.YtecbponmpinnoaaProg
import Derived.Below
import Derived.Deep.Draws
import Derived.Deep.AppendLies
import Derived.Maps.AppendAt
import Derived.OwnWalk
import Derived.Laws.BytesArg
import Derived.Laws.MakeOwn
import Derived.Laws.OwnMore
import Derived.Deep.OwnRows
import Derived.Tactics
import Derived.Lib.ConvBytes
import Derived.Laws.Slices
import Derived.WalkKit
import Derived.KernelRfl
import Derived.RowKit3
import Derived.Deep.LoopGhost
import Derived.Deep.QuietTactic
import Derived.BigQuiet
import Derived.WideLaws
import Derived.Deep.DeepCutAuto
import Derived.Deep.CutBlock
import Derived.Deep.RegionHeld3
import Derived.Laws.Rows
import Derived.Lib.AppendStr
import Derived.ArgAppend
import Derived.Laws.IdiomCopy
import Derived.OrdersHeld
import Derived.Laws.BitsLemmas
import Derived.RowKit
import Derived.Deep.WholeRow
import Derived.Outline
import Derived.WalkMore
import Derived.ScopeJumps
import Derived.Deep.DeepFit
import Derived.Maps.OwnOps
import Derived.Maps.Views
import Derived.Carry
import Derived.WalkArith
import Derived.Laws.StructEq
set_option linter.unusedVariables false
set_option linter.unusedSimpArgs false
section
namespace Go.Proofs.Ytecbponmpinnoaa.P
open Go.RowKit Go.Proofs.YtecbponmpinnoaaW.PrintWords Go.Proofs.YtecbponmpinnoaaW.PrintLast Go.Proofs.YtecbponmpinnoaaW.PrintMore
attribute [local go_sem] max2_int min2_int max_two min_two max_three min_three max_four min_four   
set_option linter.unusedVariables false
set_option linter.unusedSimpArgs false
theorem wp_scope_ghost {P : Program} {a : Act} {w : World} {Q : Exit → Act → World → Prop} {c rest R : Code} (l : Nat) (J : Nat → Act → World → Prop) (hf : findLabel c l = some rest)
    (hc : ∀ (Q : Exit → Act → World → Prop) (a : Act) (w : World), R.wp P Q a w → c.wp P Q a w) (hr : ∀ (Q : Exit → Act → World → Prop) (a : Act) (w : World), R.wp P Q a w → rest.wp P Q a w) (k0 : Nat) (h0 : J k0 a w)
    (pass : ∀ k a w, J k a w → R.wp P (Exit.jump l (fun a' w' => ∃ k', k' < k ∧ J k' a' w') Q) a w) : (Code.scope c).wp P Q a w := by
  classical
  have first : c.wp P (Exit.jump l (fun a w => ∃ k, J k a w) Q) a w := by
    refine hc _ _ _ (wp_mono (pass k0 a w h0) ?_)
    intro e a' w' he
    cases e with
    | goto l' =>
      obtain ⟨hl, k', _, hk'⟩ := he
      exact ⟨hl, k', hk'⟩
    | _ => exact he
  have least : ∀ (a : Act) (w : World), (∃ k, J k a w) → ∃ k, J k a w ∧ ∀ k', J k' a w → k ≤ k' := by
    intro a w ⟨k, hk⟩
    induction k using Nat.strongRecOn with
    | _ k ih =>
      by_cases h : ∃ k', k' < k ∧ J k' a w
      · obtain ⟨k', hlt, hk'⟩ := h
        exact ih k' hlt hk'
      · exact ⟨k, hk, fun k' hk' => Nat.le_of_not_lt fun hlt => h ⟨k', hlt, hk'⟩⟩
  refine wp_scope_jumps l (fun a w => ∃ k, J k a w) (fun a w => if h : ∃ k, J k a w then Classical.choose (least a w h) else 0) hf first ?_
  intro a w hJ
  have hs := Classical.choose_spec (least a w hJ)
  refine hr _ _ _ (wp_mono (pass _ a w hs.1) ?_)
  intro e a' w' he
  cases e with
  | goto l' =>
    obtain ⟨hl, k', hlt, hk'⟩ := he
    refine ⟨hl, ⟨k', hk'⟩, ?_⟩
    have hJ' : ∃ k, J k a' w' := ⟨k', hk'⟩
    rw [dif_pos hJ', dif_pos hJ]
    exact Nat.lt_of_le_of_lt ((Classical.choose_spec (least a' w' hJ')).2 k' hk') hlt
  | _ => exact he
def asm_grow.l1 : Nat → List S41 → List Bool → List Int → List Int → Bool → Nat → Option (List Bool × Bool)
  | 0, _, _, _, _, _, _ => none
  | k + 1, xs, far, at_, lab, grew, i => if i < xs.length then
      (if (rd_T41 xs i).f0 ≠ 3 ∨ far.getD i false = true then asm_grow.l1 k xs far at_ lab grew (i + 1)
      else if ¬ (0 ≤ (rd_T41 xs i).f2 ∧ (rd_T41 xs i).f2 < lab.length) then none
      else if wrap64 (lab.getD (rd_T41 xs i).f2.toNat 0 - at_.getD i 0) < -4096 ∨ wrap64 (lab.getD (rd_T41 xs i).f2.toNat 0 - at_.getD i 0) > 4094 then asm_grow.l1 k xs (far.set i true) at_ lab true (i + 1)
      else asm_grow.l1 k xs far at_ lab grew (i + 1))
    else some (far, grew)
def asm_grow.l0 : Nat → List S41 → List Bool → List Int → List Int → Option (List Bool × List Int × List Int)
  | 0, _, _, _, _ => none
  | k + 1, xs, far, at_, lab => (asm_place.l0 k xs far at_ lab 0 0).bind fun p => (asm_grow.l1 k xs far p.1 p.2 false 0).bind fun q => if q.2 = true then asm_grow.l0 k xs q.1 p.1 p.2 else some (q.1, p.1, p.2)
set_option maxHeartbeats 1000000 in
set_option maxRecDepth 100000 in
theorem asm_grow.calls (k : Nat) (w0 w : World) (g : Nat) (A : Option Addr) (c gf ga gl : Nat) (lv : Value) (xs : List S41) (far : List Bool) (at_ lab : List Int) (hS : Sheet w0 w g A c gf ga lv xs far at_) (hL : Lab w0 w ga gl lv lab) (r1 : List Bool) (r2 r3 : List Int) (h : asm_grow.l0 k xs far at_ lab = some (r1, r2, r3)) :
    Calls Try.prog 27 #[.pointer (some ⟨g, 0, none⟩)] w fun e w' => e = .returned (.tuple #[]) ∧ Sheet w0 w' g A c gf ga lv xs r1 r2 ∧ Lab w0 w' ga gl lv r3 := by
  have hu41 := Try.underlying41
  have hu65 := Try.underlying65
  have H := Aside0.mk h
  have HS := Aside0.mk hS
  have HL := Aside0.mk hL
  have hlen := hS.len
  clear h hS hL
  go_enter Try.func27, Try.ntmps27
  go_wp2
  refine wp_scope_ghost 0 (fun kq a' w' => ∃ (far1 : List Bool) (at1 lab1 : List Int) (u2 u3 u4 u5 u6 u7 u8 u9 u10 u11 u12 u13 u14 u15 u16 u17 u18 u19 u20 u21 u22 u23 u24 u25 u26 u27 u28 u29 u30 u31 u32 u33 u34 u35 u36 u37 u38 u39 u40 u41 u42 u43 u44 u45 u46 u47 u48 u49 u50 u51 u52 u53 : Value), a' = ⟨#[.pointer (some ⟨g, 0, none⟩), undef, u2, u3, u4, u5, u6, u7, u8, u9, u10, u11, u12, u13, u14, u15, u16, u17, u18, u19, u20, u21, u22, u23, u24, u25, u26, u27, u28, u29, u30, u31, u32, u33, u34, u35, u36, u37, u38, u39, u40, u41, u42, u43, u44, u45, u46, u47, u48, u49, u50, u51, u52, u53], []⟩ ∧ Aside0 (asm_grow.l0 kq xs far1 at1 lab1 = some (r1, r2, r3)) ∧ Aside0 (Sheet w0 w' g A c gf ga lv xs far1 at1) ∧ Aside0 (Lab w0 w' ga gl lv lab1)) rfl (fun Q a w h => wp_seq (wp_label h)) (fun Q a w h => wp_seq (wp_skip h)) k ⟨far, at_, lab, _, _, _, _, _, _, _, _, _, _, _, _, _, _, _, _, _, _, _, _, _, _, _, _, _, _, _, _, _, _, _, _, _, _, _, _, _, _, _, _, _, _, _, _, _, _, _, _, _, _, _, _, rfl, H, HS, HL⟩ ?_
  clear H HS HL
  rintro kq a1 w1 ⟨far1, at1, lab1, u2, u3, u4, u5, u6, u7, u8, u9, u10, u11, u12, u13, u14, u15, u16, u17, u18, u19, u20, u21, u22, u23, u24, u25, u26, u27, u28, u29, u30, u31, u32, u33, u34, u35, u36, u37, u38, u39, u40, u41, u42, u43, u44, u45, u46, u47, u48, u49, u50, u51, u52, u53, rfl, H, HS, HL⟩
  cases kq with
  | zero => exact absurd H.out (by simp [asm_grow.l0])
  | succ kq =>
  have h0 := H.out
  clear H
  simp only [asm_grow.l0] at h0
  replace h0 := Option.bind_eq_some_iff.mp h0
  obtain ⟨⟨at2, lab2⟩, hp, h0⟩ := h0
  replace h0 := Option.bind_eq_some_iff.mp h0
  obtain ⟨⟨far2, grew⟩, hq, h0⟩ := h0
  have HP := Aside0.mk hp
  have HQ := Aside0.mk hq
  have H := Aside0.mk h0
  clear hp hq h0
  dsimp only at HQ H
  go_wp2_with (go_at_call 45; refine (asm_place.calls kq w0 _ g A c gf ga gl lv xs far1 at1 lab1 HS.out HL.out at2 lab2 HP.out).mono ?_; rintro e w2 ⟨rfl, hS2, hL2⟩; have HS2 := Aside0.mk hS2; have HL2 := Aside0.mk hL2; clear hS2 hL2 HS HL; have s0 := blk_cell HS2.out.blk 0; simp only [List.getElem?_toArray, List.getElem?_cons_zero] at s0)
  go_loopw [2, 13] (fun v2 v13 wr => ∃ (k1 i : Nat) (g1 : Bool) (far3 : List Bool), v2 = .bool g1 ∧ v13 = .int .i64 (i : Int) ∧ i ≤ xs.length ∧ Aside0 (asm_grow.l1 k1 xs far3 at2 lab2 g1 i = some (far2, grew)) ∧ Aside0 (Sheet w0 wr g A c gf ga lv xs far3 at2) ∧ Aside0 (Lab w0 wr ga gl lv lab2)) (fun _ v13 _ => xs.length - (intOf v13).toNat)
  case atStart => exact ⟨kq, 0, false, far1, rfl, rfl, by omega, HQ, HS2, HL2⟩
  case round =>
    clear HQ HS2 HL2 s0 HP
    obtain ⟨k1', i, g1, far3, rfl, rfl, hi, HQ, HS, HL⟩ := hrel
    cases k1' with
    | zero => exact absurd HQ.out (by simp [asm_grow.l1])
    | succ k1' =>
    have h0 := HQ.out
    clear HQ
    simp only [asm_grow.l1] at h0
    by_cases hlt : i < xs.length
    · rw [if_pos hlt] at h0
      have l0 := blk_lt HS.out.blk
      have l1 := blk_lt HS.out.farB
      have l2 := blk_lt HS.out.atB
      have l3 := blk_lt HL.out.blk
      have s0 := blk_cell HS.out.blk 0
      have s1 := blk_cell HS.out.blk 1
      have s2 := blk_cell HS.out.blk 2
      simp only [List.getElem?_toArray, List.getElem?_cons_zero, List.getElem?_cons_succ] at s0 s1 s2
      have hfl : i < far3.length := by rw [HS.out.farL]; exact hlt
      have hal : i < at2.length := by rw [HS.out.atL]; omega
      have a0 := int_cell HS.out.atB i hal
      have f0 := bool_cell HS.out.farB i hfl
      have f1 := blk_frozen HS.out.farB i
      clear hfl hal
      obtain ⟨ad, rfl, e0, e1, e2, e3, e4, e5, e6⟩ := at_T41 (Kd.C_below HS.out.items HS.out.bel) (i : Int) (by omega) (by omega)
      simp only [Int.toNat_natCast] at e0 e1 e2 e3 e4 e5 e6
      generalize hx : rd_T41 xs i = x at *
      obtain ⟨x0, ⟨y0, y1, y2, y3, y4⟩, x2⟩ := x
      dsimp only at e0 e1 e2 e3 e4 e5 e6 h0
      have HX := Aside0.mk hx
      clear hx
      generalize hav : at2.getD i 0 = v at *
      generalize hfv : far3.getD i false = b at *
      clear hav hfv
      by_cases k3 : x0 = 3
      · have b3 : (x0 != 3) = false := by simp [k3]
        cases b
        · rw [if_neg (by simp [k3])] at h0
          by_cases kr : 0 ≤ x2 ∧ x2 < lab2.length
          · rw [if_neg (fun z => z kr)] at h0
            obtain ⟨n, rfl⟩ := Int.eq_ofNat_of_zero_le kr.1
            have hn : n < lab2.length := by omega
            rw [Int.toNat_natCast] at h0
            clear kr
            by_cases kt : wrap64 (lab2.getD n 0 - v) < -4096 ∨ wrap64 (lab2.getD n 0 - v) > 4094
            · rw [if_pos kt] at h0
              have HQ := Aside0.mk h0
              clear h0
              generalize hz : wrap64 (lab2.getD n 0 - v) = z at *
              have HZ := Aside0.mk hz
              clear hz
              by_cases k1 : z < -4096
              · have c1 : decide (z < -4096) = true := decide_eq_true k1
                clear kt
                go_wp2_with (go_at_call 46; refine (asm_way.calls w0 _ g _ c gf ga gl lv xs far3 at2 lab2 (HS.out.below (below_alloc (Below.refl _ _) _)) (HL.out.below (below_alloc (Below.refl _ _) _)) i hlt n (by rw [HX.out]) hn v).mono ?_; rw [HZ.out]; rintro e w3 ⟨rfl, hb3⟩; have HB3 := Aside0.mk hb3; clear hb3; have HS3 := Aside0.mk ((HS.out.below (below_alloc (Below.refl _ _) _)).below HB3.out); have HL3 := Aside0.mk ((HL.out.below (below_alloc (Below.refl _ _) _)).below HB3.out); clear s1 f0 f1 l0 l1; have s1 := blk_cell HS3.out.blk 1; simp only [List.getElem?_toArray, List.getElem?_cons_zero, List.getElem?_cons_succ] at s1; have f0 := bool_cell HS3.out.farB i (by rw [HS3.out.farL]; exact hlt); have f1 := blk_frozen HS3.out.farB i)
                go_roundw
                case rel => exact ⟨k1', i + 1, _, _, rfl, by go_num, by omega, HQ, ⟨HS3.out.setFar i true⟩, ⟨HL3.out.setFar (Ne.symm (blk_ne HS3.out.farB HL3.out.blk (by decide))) i true⟩⟩
                case measure => simp [intOf]; omega
              · have c1 : decide (z < -4096) = false := decide_eq_false k1
                have k2 : z > 4094 := kt.resolve_left k1
                clear kt
                go_wp2_with (go_at_call 46; refine (asm_way.calls w0 _ g _ c gf ga gl lv xs far3 at2 lab2 (HS.out.below (below_alloc (Below.refl _ _) _)) (HL.out.below (below_alloc (Below.refl _ _) _)) i hlt n (by rw [HX.out]) hn v).mono ?_; rw [HZ.out]; rintro e w3 ⟨rfl, hb3⟩; have HB3 := Aside0.mk hb3; clear hb3; have HS3 := Aside0.mk ((HS.out.below (below_alloc (Below.refl _ _) _)).below HB3.out); have HL3 := Aside0.mk ((HL.out.below (below_alloc (Below.refl _ _) _)).below HB3.out); clear s1 f0 f1 l0 l1; have s1 := blk_cell HS3.out.blk 1; simp only [List.getElem?_toArray, List.getElem?_cons_zero, List.getElem?_cons_succ] at s1; have f0 := bool_cell HS3.out.farB i (by rw [HS3.out.farL]; exact hlt); have f1 := blk_frozen HS3.out.farB i)
                go_roundw
                case rel => exact ⟨k1', i + 1, _, _, rfl, by go_num, by omega, HQ, ⟨HS3.out.setFar i true⟩, ⟨HL3.out.setFar (Ne.symm (blk_ne HS3.out.farB HL3.out.blk (by decide))) i true⟩⟩
                case measure => simp [intOf]; omega
            · rw [if_neg kt] at h0
              have HQ := Aside0.mk h0
              clear h0
              generalize hz : wrap64 (lab2.getD n 0 - v) = z at *
              have HZ := Aside0.mk hz
              clear hz
              have c1 : decide (z < -4096) = false := decide_eq_false (fun q => kt (.inl q))
              have c2 : ¬ (4094 < z) := fun q => kt (.inr q)
              clear kt
              go_wp2_with (go_at_call 46; refine (asm_way.calls w0 _ g _ c gf ga gl lv xs far3 at2 lab2 (HS.out.below (below_alloc (Below.refl _ _) _)) (HL.out.below (below_alloc (Below.refl _ _) _)) i hlt n (by rw [HX.out]) hn v).mono ?_; rw [HZ.out]; rintro e w3 ⟨rfl, hb3⟩; have HB3 := Aside0.mk hb3; clear hb3)
              go_roundw
              case rel => exact ⟨k1', i + 1, _, _, rfl, by go_num, by omega, HQ, ⟨(HS.out.below (below_alloc (Below.refl _ _) _)).below HB3.out⟩, ⟨(HL.out.below (below_alloc (Below.refl _ _) _)).below HB3.out⟩⟩
              case measure => simp [intOf]; omega
          · rw [if_pos kr] at h0
            cases h0
        · rw [if_pos (.inr rfl)] at h0
          have HQ := Aside0.mk h0
          clear h0 k3
          go_wp2
          go_roundw
          case rel => exact ⟨k1', i + 1, _, _, rfl, by go_num, by omega, HQ, ⟨HS.out.below (below_alloc (Below.refl _ _) _)⟩, ⟨HL.out.below (below_alloc (Below.refl _ _) _)⟩⟩
          case measure => simp [intOf]; omega
      · have b3 : (x0 != 3) = true := by simp [k3]
        rw [if_pos (.inl k3)] at h0
        have HQ := Aside0.mk h0
        clear h0 k3
        go_wp2
        go_roundw
        case rel => exact ⟨k1', i + 1, _, _, rfl, by go_num, by omega, HQ, ⟨HS.out.below (below_alloc (Below.refl _ _) _)⟩, ⟨HL.out.below (below_alloc (Below.refl _ _) _)⟩⟩
        case measure => simp [intOf]; omega
    · rw [if_neg hlt] at h0
      simp only [Option.some.injEq, Prod.mk.injEq] at h0
      obtain ⟨rfl, rfl⟩ := h0
      have hlt2 : decide ((i : Int) < xs.length) = false := by simp; omega
      cases g1
      · have h1 := H.out
        rw [if_neg (by simp)] at h1
        simp only [Option.some.injEq, Prod.mk.injEq] at h1
        obtain ⟨rfl, rfl, rfl⟩ := h1
        clear H
        go_wp2
        simp only [Exit.jump]
        go_end0
        exact ⟨rfl, HS.out, HL.out⟩
      · have h1 := H.out
        rw [if_pos rfl] at h1
        clear H
        have H := Aside0.mk h1
        clear h1
        go_wp2
        go_step3
        exact ⟨rfl, kq, by omega, _, _, _, _, _, _, _, _, _, _, _, _, _, _, _, _, _, _, _, _, _, _, _, _, _, _, _, _, _, _, _, _, _, _, _, _, _, _, _, _, _, _, _, _, _, _, _, _, _, _, _, _, _, _, _, rfl, H, HS, HL⟩
set_option linter.unusedVariables false
set_option linter.unusedSimpArgs false
def leadsJ (z : Int) : Bool := decide (-1048576 ≤ z) && decide (z ≤ 1048574)
def asm_insts.f (k : Nat) (xs : List S41) (far : List Bool) (at_ lab : List Int) (i : Nat) : Option (List S39 × Bool) :=
  if (rd_T41 xs i).f0 = 1 then some ([(rd_T41 xs i).f1], true)
  else if (rd_T41 xs i).f0 = 5 then (asm_consts.f (rd_T41 xs i).f1.f1 ((rd_T41 xs i).f1.f4 % 4294967296)).bind fun r => some (r, true)
  else if (rd_T41 xs i).f0 = 2 then some ([], true)
  else if ¬ (0 ≤ (rd_T41 xs i).f2 ∧ (rd_T41 xs i).f2 < lab.length) then none
  else if (rd_T41 xs i).f0 = 3 ∧ far.getD i false = false then some ([⟨(rd_T41 xs i).f1.f0, (rd_T41 xs i).f1.f1, (rd_T41 xs i).f1.f2, (rd_T41 xs i).f1.f3, wrap64 (lab.getD (rd_T41 xs i).f2.toNat 0 - at_.getD i 0)⟩], true)
  else if (rd_T41 xs i).f0 = 4 then some ([⟨(rd_T41 xs i).f1.f0, (rd_T41 xs i).f1.f1, (rd_T41 xs i).f1.f2, (rd_T41 xs i).f1.f3, wrap64 (lab.getD (rd_T41 xs i).f2.toNat 0 - at_.getD i 0)⟩], leadsJ (wrap64 (lab.getD (rd_T41 xs i).f2.toNat 0 - at_.getD i 0)))
  else (asm_Contrary.f k (rd_T41 xs i).f1.f0).bind fun op => some ([⟨op, (rd_T41 xs i).f1.f1, (rd_T41 xs i).f1.f2, (rd_T41 xs i).f1.f3, 8⟩, ⟨3, 0, 0, 0, wrap64 (lab.getD (rd_T41 xs i).f2.toNat 0 - wrap64 (at_.getD i 0 + 4))⟩], leadsJ (wrap64 (lab.getD (rd_T41 xs i).f2.toNat 0 - wrap64 (at_.getD i 0 + 4))))
theorem heap_second (w : World) (o1 o2 : Obj) : ((w.alloc o1).alloc o2).heap[w.heap.size + 1]? = some o2 := by
  have h := heap_alloc_last (w.alloc o1) o2
  simpa using h
theorem inst_lit1 (W : World) (base G : Nat) (x : S39) (hG : W.heap.size = G) (hb : base ≤ W.heap.size) : Kd.R k39 39 (W.alloc (.cells #[.int .i64 x.f0, .int .i64 x.f1, .int .i64 x.f2, .int .i64 x.f3, .int .i64 x.f4] 39)) base (fun _ => True) (.slice (some ⟨G, 0, none⟩) 1 1) [x] := by
  subst hG
  exact ⟨fun _ _ => trivial, OwnRow.lit W base (ps := [x]) (inner := [.int .i64 x.f0, .int .i64 x.f1, .int .i64 x.f2, .int .i64 x.f3, .int .i64 x.f4]) ((Reps.none _ _).snoc (k39_mkM _ _ _ x) rfl) hb (show _ ≤ 9223372036854775807 by simp)⟩
theorem inst_lit2 (W : World) (base G : Nat) (x y : S39) (hG : W.heap.size = G) (hb : base ≤ W.heap.size) : Kd.R k39 39 (W.alloc (.cells #[.int .i64 x.f0, .int .i64 x.f1, .int .i64 x.f2, .int .i64 x.f3, .int .i64 x.f4, .int .i64 y.f0, .int .i64 y.f1, .int .i64 y.f2, .int .i64 y.f3, .int .i64 y.f4] 39)) base (fun _ => True) (.slice (some ⟨G, 0, none⟩) 2 2) [x, y] := by
  subst hG
  exact ⟨fun _ _ => trivial, OwnRow.lit W base (ps := [x, y]) (inner := [.int .i64 x.f0, .int .i64 x.f1, .int .i64 x.f2, .int .i64 x.f3, .int .i64 x.f4, .int .i64 y.f0, .int .i64 y.f1, .int .i64 y.f2, .int .i64 y.f3, .int .i64 y.f4]) (((Reps.none _ _).snoc (k39_mkM _ _ _ x) rfl).snoc (k39_mkM _ _ _ y) rfl) hb (show _ ≤ 9223372036854775807 by simp)⟩
theorem far_facts {G : Nat} {cs ds : Array Value} {t u : TypeId} {w3 w4 : World} (h7 : w3.heap[G]? = some (.cells cs t (0, 0))) (hd : Drawn0 (w3.alloc (.cells ds u)) w4) : w4.heap[G]? = some (.cells cs t (0, 0)) ∧ w4.heap[w3.heap.size]? = some (.cells ds u (0, 0)) ∧ Below w3.heap.size w3 w4 ∧ w3.heap.size < w4.heap.size := by
  have hb := hd.below
  have hl := blk_lt h7
  have hs := hb.size
  simp at hs
  refine ⟨?_, ?_, ?_, by omega⟩
  · have := hb.block G (by simp; omega)
    rw [this, heap_alloc_old _ _ (by omega), h7]
  · have := hb.block w3.heap.size (by simp)
    rw [this, heap_alloc_last]
  · exact below_then (below_alloc (Below.refl _ _) _) (by simp) hb
set_option maxHeartbeats 1000000 in
set_option maxRecDepth 100000 in
theorem asm_insts.calls (k : Nat) (w0 w : World) (g : Nat) (A : Option Addr) (c gf ga gl : Nat) (lv : Value) (xs : List S41) (far : List Bool) (at_ lab : List Int) (hS : Sheet w0 w g A c gf ga lv xs far at_) (hL : Lab w0 w ga gl lv lab) (i : Nat) (hlt : i < xs.length) (r1 : List S39) (r2 : Bool) (h : asm_insts.f k xs far at_ lab i = some (r1, r2)) :
    Calls Try.prog 28 #[.pointer (some ⟨g, 0, none⟩), .int .i64 i] w fun e w' => ∃ v0, e = .returned (.tuple #[v0, .bool r2]) ∧ Kd.R k39 39 w' w.heap.size (fun _ => True) v0 r1 ∧ Below w.heap.size w w' := by
  have hu41 := Try.underlying41
  have hu39 := Try.underlying39
  have hu65 := Try.underlying65
  have l0 := blk_lt hS.blk
  have l1 := blk_lt hS.farB
  have l2 := blk_lt hS.atB
  have l3 := blk_lt hL.blk
  have s0 := blk_cell hS.blk 0
  have s1 := blk_cell hS.blk 1
  have s2 := blk_cell hS.blk 2
  simp only [List.getElem?_toArray, List.getElem?_cons_zero, List.getElem?_cons_succ] at s0 s1 s2
  have hfl : i < far.length := by rw [hS.farL]; exact hlt
  have hal : i < at_.length := by rw [hS.atL]; omega
  have a0 := int_cell hS.atB i hal
  have f0 := bool_cell hS.farB i hfl
  clear hfl hal
  have hlen := hS.len
  have HS := Aside0.mk hS
  have HL := Aside0.mk hL
  clear hS hL
  obtain ⟨ad, rfl, e0, e1, e2, e3, e4, e5, e6⟩ := at_T41 (Kd.C_below HS.out.items HS.out.bel) (i : Int) (by omega) (by omega)
  simp only [Int.toNat_natCast] at e0 e1 e2 e3 e4 e5 e6
  simp only [asm_insts.f] at h
  generalize hx : rd_T41 xs i = x at *
  obtain ⟨x0, ⟨y0, y1, y2, y3, y4⟩, x2⟩ := x
  dsimp only at e0 e1 e2 e3 e4 e5 e6 h
  have HX := Aside0.mk hx
  clear hx
  generalize hav : at_.getD i 0 = v at *
  generalize hfv : far.getD i false = b at *
  clear hav hfv
  by_cases k1 : x0 = 1
  · have b1 : (x0 == 1) = true := by simp [k1]
    rw [if_pos k1] at h
    simp only [Option.some.injEq, Prod.mk.injEq] at h
    obtain ⟨rfl, rfl⟩ := h
    clear k1
    go_enter Try.func28, Try.ntmps28
    go_wp2
    go_ret2
    exact ⟨.slice (some ⟨w.heap.size + 1 + 1, 0, none⟩) 1 1, rfl, inst_lit1 _ w.heap.size _ ⟨y0, y1, y2, y3, y4⟩ (by simp) (by simp; omega), (((Below.refl _ _).alloc (Nat.le_refl _) _).alloc (by simp) _).alloc (by simp; omega) _⟩
  have b1 : (x0 == 1) = false := by simp [k1]
  rw [if_neg k1] at h
  by_cases k5 : x0 = 5
  · have b5 : (x0 == 5) = true := by simp [k5]
    rw [if_pos k5] at h
    replace h := Option.bind_eq_some_iff.mp h
    obtain ⟨q, hq, h⟩ := h
    simp only [Option.some.injEq, Prod.mk.injEq] at h
    obtain ⟨rfl, rfl⟩ := h
    have HQ := Aside0.mk hq
    clear hq k5 k1
    go_enter Try.func28, Try.ntmps28
    go_wp2_with (go_at_call 47; refine (asm_consts.calls y1 (y4 % 4294967296) q _ HQ.out).mono ?_; rintro e w' ⟨v, rfl, ho, hb⟩; have HB := Aside0.mk hb; have HO := Aside0.mk ho; clear hb ho)
    go_ret2
    exact ⟨_, rfl, Kd.R_lower HO.out (by simp; omega), below_then (((Below.refl _ _).alloc (Nat.le_refl _) _).alloc (by simp) _) (by simp; omega) HB.out⟩
  have b5 : (x0 == 5) = false := by simp [k5]
  rw [if_neg k5] at h
  by_cases k2 : x0 = 2
  · have b2 : (x0 == 2) = true := by simp [k2]
    rw [if_pos k2] at h
    simp only [Option.some.injEq, Prod.mk.injEq] at h
    obtain ⟨rfl, rfl⟩ := h
    clear k2 k1 k5
    go_enter Try.func28, Try.ntmps28
    go_wp2
    go_ret2
    exact ⟨_, rfl, Kd.R_nil _ _ _ _ _, ((Below.refl _ _).alloc (Nat.le_refl _) _).alloc (by simp) _⟩
  have b2 : (x0 == 2) = false := by simp [k2]
  rw [if_neg k2] at h
  by_cases kr : ¬ (0 ≤ x2 ∧ x2 < lab.length)
  · rw [if_pos kr] at h
    cases h
  rw [if_neg kr] at h
  have kr := Classical.not_not.1 kr
  obtain ⟨n, rfl⟩ := Int.eq_ofNat_of_zero_le kr.1
  have hn : n < lab.length := by omega
  rw [Int.toNat_natCast] at h
  clear kr k1 k2 k5
  by_cases k3 : x0 = 3 ∧ b = false
  · have b3 : (x0 == 3) = true := by simp [k3.1]
    rw [if_pos k3] at h
    obtain ⟨k3, rfl⟩ := k3
    simp only [Option.some.injEq, Prod.mk.injEq] at h
    obtain ⟨rfl, rfl⟩ := h
    clear k3
    generalize hz : wrap64 (lab.getD n 0 - v) = z at *
    have HZ := Aside0.mk hz
    clear hz
    go_enter Try.func28, Try.ntmps28
    go_wp2_with (go_at_call 46; refine (asm_way.calls w0 _ g _ c gf ga gl lv xs far at_ lab (HS.out.below (below_alloc (below_alloc (Below.refl _ _) _) _)) (HL.out.below (below_alloc (below_alloc (Below.refl _ _) _) _)) i hlt n (by rw [HX.out]) hn (v)).mono ?_; rw [HZ.out]; rintro e w3 ⟨rfl, hb3⟩; have HB3 := Aside0.mk hb3; clear hb3; have hsz : w.heap.size + 1 + 1 ≤ w3.heap.size := (by have := HB3.out.size; simp at this; omega); have HO := Aside0.mk ((HB3.out.block (w.heap.size + 1) (by simp)).trans (heap_second w _ _)); have o0 := blk_cell HO.out 0; have o1 := blk_cell HO.out 1; have o2 := blk_cell HO.out 2; have o3 := blk_cell HO.out 3; have o4 := blk_cell HO.out 4; have o5 := blk_frozen HO.out 4; have o6 := blk_frozen HO.out 0)
    go_ret2
    exact ⟨.slice (some ⟨w3.heap.size, 0, none⟩) 1 1, rfl, inst_lit1 _ w.heap.size _ ⟨y0, y1, y2, y3, z⟩ (by simp) (by simp; omega), below_step (below_set (below_then (below_alloc (below_alloc (Below.refl _ _) _) _) (by simp; omega) HB3.out) (by omega)) (below_alloc (Below.refl _ _) _)⟩
  rw [if_neg k3] at h
  by_cases k4 : x0 = 4
  · have b3 : (x0 == 3) = false := by simp [k4]
    have b4 : (x0 == 4) = true := by simp [k4]
    rw [if_pos k4] at h
    simp only [Option.some.injEq, Prod.mk.injEq] at h
    obtain ⟨rfl, rfl⟩ := h
    clear k4 k3
    generalize hz : wrap64 (lab.getD n 0 - v) = z at *
    have HZ := Aside0.mk hz
    clear hz
    by_cases kz : -1048576 ≤ z
    · have z1 : decide (-1048576 ≤ z) = true := decide_eq_true kz
      have hf : leadsJ z = decide (z ≤ 1048574) := by simp only [leadsJ, z1, Bool.true_and, Bool.false_and]
      rw [hf]
      go_enter Try.func28, Try.ntmps28
      go_wp2_with (go_at_call 46; refine (asm_way.calls w0 _ g _ c gf ga gl lv xs far at_ lab (HS.out.below (below_alloc (below_alloc (Below.refl _ _) _) _)) (HL.out.below (below_alloc (below_alloc (Below.refl _ _) _) _)) i hlt n (by rw [HX.out]) hn (v)).mono ?_; rw [HZ.out]; rintro e w3 ⟨rfl, hb3⟩; have HB3 := Aside0.mk hb3; clear hb3; have hsz : w.heap.size + 1 + 1 ≤ w3.heap.size := (by have := HB3.out.size; simp at this; omega); have HO := Aside0.mk ((HB3.out.block (w.heap.size + 1) (by simp)).trans (heap_second w _ _)); have o0 := blk_cell HO.out 0; have o1 := blk_cell HO.out 1; have o2 := blk_cell HO.out 2; have o3 := blk_cell HO.out 3; have o4 := blk_cell HO.out 4; have o5 := blk_frozen HO.out 4; have o6 := blk_frozen HO.out 0; have HP : Aside0 ((w3.setCell ⟨w.heap.size + 1, 4, none⟩ (.int .i64 z)).heap[w.heap.size + 1]? = some (.cells #[.int .i64 y0, .int .i64 y1, .int .i64 y2, .int .i64 y3, .int .i64 z] 39)) := Aside0.mk (blk_set HO.out 4 (.int .i64 z)); have p0 := blk_cell HP.out 0; have p1 := blk_cell HP.out 1; have p2 := blk_cell HP.out 2; have p3 := blk_cell HP.out 3; have p4 := blk_cell HP.out 4; have l9 : w.heap.size + 1 < w3.heap.size := hsz)
      go_region
      all_goals go_wp2
      all_goals go_ret2
      all_goals exact ⟨.slice (some ⟨w3.heap.size, 0, none⟩) 1 1, rfl, Kd.R_drew (inst_lit1 _ w.heap.size _ ⟨y0, y1, y2, y3, z⟩ (by simp) (by simp; omega)), below_drew (below_step (below_set (below_then (below_alloc (below_alloc (Below.refl _ _) _) _) (by simp; omega) HB3.out) (by omega)) (below_alloc (Below.refl _ _) _))⟩
    · have z1 : decide (-1048576 ≤ z) = false := decide_eq_false kz
      have hf : leadsJ z = false := by simp only [leadsJ, z1, Bool.true_and, Bool.false_and]
      rw [hf]
      go_enter Try.func28, Try.ntmps28
      go_wp2_with (go_at_call 46; refine (asm_way.calls w0 _ g _ c gf ga gl lv xs far at_ lab (HS.out.below (below_alloc (below_alloc (Below.refl _ _) _) _)) (HL.out.below (below_alloc (below_alloc (Below.refl _ _) _) _)) i hlt n (by rw [HX.out]) hn (v)).mono ?_; rw [HZ.out]; rintro e w3 ⟨rfl, hb3⟩; have HB3 := Aside0.mk hb3; clear hb3; have hsz : w.heap.size + 1 + 1 ≤ w3.heap.size := (by have := HB3.out.size; simp at this; omega); have HO := Aside0.mk ((HB3.out.block (w.heap.size + 1) (by simp)).trans (heap_second w _ _)); have o0 := blk_cell HO.out 0; have o1 := blk_cell HO.out 1; have o2 := blk_cell HO.out 2; have o3 := blk_cell HO.out 3; have o4 := blk_cell HO.out 4; have o5 := blk_frozen HO.out 4; have o6 := blk_frozen HO.out 0; have HP : Aside0 ((w3.setCell ⟨w.heap.size + 1, 4, none⟩ (.int .i64 z)).heap[w.heap.size + 1]? = some (.cells #[.int .i64 y0, .int .i64 y1, .int .i64 y2, .int .i64 y3, .int .i64 z] 39)) := Aside0.mk (blk_set HO.out 4 (.int .i64 z)); have p0 := blk_cell HP.out 0; have p1 := blk_cell HP.out 1; have p2 := blk_cell HP.out 2; have p3 := blk_cell HP.out 3; have p4 := blk_cell HP.out 4; have l9 : w.heap.size + 1 < w3.heap.size := hsz)
      go_region
      all_goals go_wp2
      all_goals go_ret2
      all_goals exact ⟨.slice (some ⟨w3.heap.size, 0, none⟩) 1 1, rfl, Kd.R_drew (inst_lit1 _ w.heap.size _ ⟨y0, y1, y2, y3, z⟩ (by simp) (by simp; omega)), below_drew (below_step (below_set (below_then (below_alloc (below_alloc (Below.refl _ _) _) _) (by simp; omega) HB3.out) (by omega)) (below_alloc (Below.refl _ _) _))⟩
  rw [if_neg k4] at h
  replace h := Option.bind_eq_some_iff.mp h
  obtain ⟨op, hop, h⟩ := h
  simp only [Option.some.injEq, Prod.mk.injEq] at h
  obtain ⟨rfl, rfl⟩ := h
  have HQ := Aside0.mk hop
  clear hop
  generalize hz : wrap64 (lab.getD n 0 - wrap64 (v + 4)) = z at *
  have HZ := Aside0.mk hz
  clear hz
  have b4 : (x0 == 4) = false := by simp [k4]
  have b3 : ((x0 == 3) = true ∧ b = true) ∨ (x0 == 3) = false := by
    by_cases q : x0 = 3
    · left
      refine ⟨by simp [q], ?_⟩
      cases b with
      | true => rfl
      | false => exact absurd ⟨q, rfl⟩ k3
    · right
      simp [q]
  clear k3 k4
  by_cases kz : -1048576 ≤ z
  · have z1 : decide (-1048576 ≤ z) = true := decide_eq_true kz
    have hf : leadsJ z = decide (z ≤ 1048574) := by simp only [leadsJ, z1, Bool.true_and, Bool.false_and]
    rw [hf]
    rcases b3 with ⟨b3, rfl⟩ | b3
    · go_enter Try.func28, Try.ntmps28
      go_wp2_with (go_at_call 46; refine (asm_way.calls w0 _ g _ c gf ga gl lv xs far at_ lab (HS.out.below (below_alloc (below_alloc (Below.refl _ _) _) _)) (HL.out.below (below_alloc (below_alloc (Below.refl _ _) _) _)) i hlt n (by rw [HX.out]) hn _).mono ?_; rw [HZ.out]; rintro e w3 ⟨rfl, hb3⟩; have HB3 := Aside0.mk hb3; clear hb3; have hsz : w.heap.size + 1 + 1 ≤ w3.heap.size := (by have := HB3.out.size; simp at this; omega); have HO := Aside0.mk ((HB3.out.block (w.heap.size + 1) (by simp)).trans (heap_second w _ _)); have o0 := blk_cell HO.out 0; have o1 := blk_cell HO.out 1; have o2 := blk_cell HO.out 2; have o3 := blk_cell HO.out 3; have o4 := blk_cell HO.out 4; have o5 := blk_frozen HO.out 4; have o6 := blk_frozen HO.out 0; have l9 : w.heap.size + 1 < w3.heap.size := hsz)
      go_wp2_with (go_at_call 16; refine (asm_Contrary.calls k y0 op _ HQ.out).mono ?_; rintro e w4 ⟨rfl, hd4⟩; have HD := Aside0.mk (far_facts HO.out hd4); clear hd4; have q10 := HD.out.2.2.2; have P0 : Aside0 ((w4.setCell ⟨w.heap.size + 1, 0, none⟩ (.int .i64 op)).heap[w.heap.size + 1]? = some (.cells #[.int .i64 op, .int .i64 y1, .int .i64 y2, .int .i64 y3, .int .i64 y4] 39)) := Aside0.mk (blk_set HD.out.1 0 (.int .i64 op)); have P1 : Aside0 (((w4.setCell ⟨w.heap.size + 1, 0, none⟩ (.int .i64 op)).setCell ⟨w.heap.size + 1, 4, none⟩ (.int .i64 8)).heap[w.heap.size + 1]? = some (.cells #[.int .i64 op, .int .i64 y1, .int .i64 y2, .int .i64 y3, .int .i64 8] 39)) := Aside0.mk (blk_set P0.out 4 (.int .i64 8)); have P2 : Aside0 (((w4.setCell ⟨w.heap.size + 1, 0, none⟩ (.int .i64 op)).setCell ⟨w.heap.size + 1, 4, none⟩ (.int .i64 8)).heap[w3.heap.size]? = some (.cells #[.int .i64 3, .int .i64 0, .int .i64 0, .int .i64 0, .int .i64 z] 39)) := Aside0.mk (blk_far (blk_far HD.out.2.1 (by simp; omega) _) (by simp; omega) _); have r0 := blk_cell HD.out.1 0; have r1 := blk_frozen HD.out.1 0; have r2 := blk_cell P0.out 4; have r3 := blk_frozen P0.out 4; have p0 := blk_cell P1.out 0; have p1 := blk_cell P1.out 1; have p2 := blk_cell P1.out 2; have p3 := blk_cell P1.out 3; have p4 := blk_cell P1.out 4; have q0 := blk_cell P2.out 0; have q1 := blk_cell P2.out 1; have q2 := blk_cell P2.out 2; have q3 := blk_cell P2.out 3; have q4 := blk_cell P2.out 4)
      go_region
      all_goals go_wp2
      all_goals go_ret2
      all_goals exact ⟨.slice (some ⟨w4.heap.size, 0, none⟩) 2 2, rfl, Kd.R_drew (inst_lit2 _ w.heap.size _ ⟨op, y1, y2, y3, 8⟩ ⟨3, 0, 0, 0, z⟩ (by simp) (by simp; omega)), below_drew (below_step (below_set (below_set (below_then (below_then (below_alloc (below_alloc (Below.refl _ _) _) _) (by simp; omega) HB3.out) (by omega) HD.out.2.2.1) (by omega)) (by omega)) (below_alloc (Below.refl _ _) _))⟩
    · go_enter Try.func28, Try.ntmps28
      go_wp2_with (go_at_call 46; refine (asm_way.calls w0 _ g _ c gf ga gl lv xs far at_ lab (HS.out.below (below_alloc (below_alloc (Below.refl _ _) _) _)) (HL.out.below (below_alloc (below_alloc (Below.refl _ _) _) _)) i hlt n (by rw [HX.out]) hn _).mono ?_; rw [HZ.out]; rintro e w3 ⟨rfl, hb3⟩; have HB3 := Aside0.mk hb3; clear hb3; have hsz : w.heap.size + 1 + 1 ≤ w3.heap.size := (by have := HB3.out.size; simp at this; omega); have HO := Aside0.mk ((HB3.out.block (w.heap.size + 1) (by simp)).trans (heap_second w _ _)); have o0 := blk_cell HO.out 0; have o1 := blk_cell HO.out 1; have o2 := blk_cell HO.out 2; have o3 := blk_cell HO.out 3; have o4 := blk_cell HO.out 4; have o5 := blk_frozen HO.out 4; have o6 := blk_frozen HO.out 0; have l9 : w.heap.size + 1 < w3.heap.size := hsz)
      go_wp2_with (go_at_call 16; refine (asm_Contrary.calls k y0 op _ HQ.out).mono ?_; rintro e w4 ⟨rfl, hd4⟩; have HD := Aside0.mk (far_facts HO.out hd4); clear hd4; have q10 := HD.out.2.2.2; have P0 : Aside0 ((w4.setCell ⟨w.heap.size + 1, 0, none⟩ (.int .i64 op)).heap[w.heap.size + 1]? = some (.cells #[.int .i64 op, .int .i64 y1, .int .i64 y2, .int .i64 y3, .int .i64 y4] 39)) := Aside0.mk (blk_set HD.out.1 0 (.int .i64 op)); have P1 : Aside0 (((w4.setCell ⟨w.heap.size + 1, 0, none⟩ (.int .i64 op)).setCell ⟨w.heap.size + 1, 4, none⟩ (.int .i64 8)).heap[w.heap.size + 1]? = some (.cells #[.int .i64 op, .int .i64 y1, .int .i64 y2, .int .i64 y3, .int .i64 8] 39)) := Aside0.mk (blk_set P0.out 4 (.int .i64 8)); have P2 : Aside0 (((w4.setCell ⟨w.heap.size + 1, 0, none⟩ (.int .i64 op)).setCell ⟨w.heap.size + 1, 4, none⟩ (.int .i64 8)).heap[w3.heap.size]? = some (.cells #[.int .i64 3, .int .i64 0, .int .i64 0, .int .i64 0, .int .i64 z] 39)) := Aside0.mk (blk_far (blk_far HD.out.2.1 (by simp; omega) _) (by simp; omega) _); have r0 := blk_cell HD.out.1 0; have r1 := blk_frozen HD.out.1 0; have r2 := blk_cell P0.out 4; have r3 := blk_frozen P0.out 4; have p0 := blk_cell P1.out 0; have p1 := blk_cell P1.out 1; have p2 := blk_cell P1.out 2; have p3 := blk_cell P1.out 3; have p4 := blk_cell P1.out 4; have q0 := blk_cell P2.out 0; have q1 := blk_cell P2.out 1; have q2 := blk_cell P2.out 2; have q3 := blk_cell P2.out 3; have q4 := blk_cell P2.out 4)
      go_region
      all_goals go_wp2
      all_goals go_ret2
      all_goals exact ⟨.slice (some ⟨w4.heap.size, 0, none⟩) 2 2, rfl, Kd.R_drew (inst_lit2 _ w.heap.size _ ⟨op, y1, y2, y3, 8⟩ ⟨3, 0, 0, 0, z⟩ (by simp) (by simp; omega)), below_drew (below_step (below_set (below_set (below_then (below_then (below_alloc (below_alloc (Below.refl _ _) _) _) (by simp; omega) HB3.out) (by omega) HD.out.2.2.1) (by omega)) (by omega)) (below_alloc (Below.refl _ _) _))⟩
  · have z1 : decide (-1048576 ≤ z) = false := decide_eq_false kz
    have hf : leadsJ z = false := by simp only [leadsJ, z1, Bool.true_and, Bool.false_and]
    rw [hf]
    rcases b3 with ⟨b3, rfl⟩ | b3
    · go_enter Try.func28, Try.ntmps28
      go_wp2_with (go_at_call 46; refine (asm_way.calls w0 _ g _ c gf ga gl lv xs far at_ lab (HS.out.below (below_alloc (below_alloc (Below.refl _ _) _) _)) (HL.out.below (below_alloc (below_alloc (Below.refl _ _) _) _)) i hlt n (by rw [HX.out]) hn _).mono ?_; rw [HZ.out]; rintro e w3 ⟨rfl, hb3⟩; have HB3 := Aside0.mk hb3; clear hb3; have hsz : w.heap.size + 1 + 1 ≤ w3.heap.size := (by have := HB3.out.size; simp at this; omega); have HO := Aside0.mk ((HB3.out.block (w.heap.size + 1) (by simp)).trans (heap_second w _ _)); have o0 := blk_cell HO.out 0; have o1 := blk_cell HO.out 1; have o2 := blk_cell HO.out 2; have o3 := blk_cell HO.out 3; have o4 := blk_cell HO.out 4; have o5 := blk_frozen HO.out 4; have o6 := blk_frozen HO.out 0; have l9 : w.heap.size + 1 < w3.heap.size := hsz)
      go_wp2_with (go_at_call 16; refine (asm_Contrary.calls k y0 op _ HQ.out).mono ?_; rintro e w4 ⟨rfl, hd4⟩; have HD := Aside0.mk (far_facts HO.out hd4); clear hd4; have q10 := HD.out.2.2.2; have P0 : Aside0 ((w4.setCell ⟨w.heap.size + 1, 0, none⟩ (.int .i64 op)).heap[w.heap.size + 1]? = some (.cells #[.int .i64 op, .int .i64 y1, .int .i64 y2, .int .i64 y3, .int .i64 y4] 39)) := Aside0.mk (blk_set HD.out.1 0 (.int .i64 op)); have P1 : Aside0 (((w4.setCell ⟨w.heap.size + 1, 0, none⟩ (.int .i64 op)).setCell ⟨w.heap.size + 1, 4, none⟩ (.int .i64 8)).heap[w.heap.size + 1]? = some (.cells #[.int .i64 op, .int .i64 y1, .int .i64 y2, .int .i64 y3, .int .i64 8] 39)) := Aside0.mk (blk_set P0.out 4 (.int .i64 8)); have P2 : Aside0 (((w4.setCell ⟨w.heap.size + 1, 0, none⟩ (.int .i64 op)).setCell ⟨w.heap.size + 1, 4, none⟩ (.int .i64 8)).heap[w3.heap.size]? = some (.cells #[.int .i64 3, .int .i64 0, .int .i64 0, .int .i64 0, .int .i64 z] 39)) := Aside0.mk (blk_far (blk_far HD.out.2.1 (by simp; omega) _) (by simp; omega) _); have r0 := blk_cell HD.out.1 0; have r1 := blk_frozen HD.out.1 0; have r2 := blk_cell P0.out 4; have r3 := blk_frozen P0.out 4; have p0 := blk_cell P1.out 0; have p1 := blk_cell P1.out 1; have p2 := blk_cell P1.out 2; have p3 := blk_cell P1.out 3; have p4 := blk_cell P1.out 4; have q0 := blk_cell P2.out 0; have q1 := blk_cell P2.out 1; have q2 := blk_cell P2.out 2; have q3 := blk_cell P2.out 3; have q4 := blk_cell P2.out 4)
      go_region
      all_goals go_wp2
      all_goals go_ret2
      all_goals exact ⟨.slice (some ⟨w4.heap.size, 0, none⟩) 2 2, rfl, Kd.R_drew (inst_lit2 _ w.heap.size _ ⟨op, y1, y2, y3, 8⟩ ⟨3, 0, 0, 0, z⟩ (by simp) (by simp; omega)), below_drew (below_step (below_set (below_set (below_then (below_then (below_alloc (below_alloc (Below.refl _ _) _) _) (by simp; omega) HB3.out) (by omega) HD.out.2.2.1) (by omega)) (by omega)) (below_alloc (Below.refl _ _) _))⟩
    · go_enter Try.func28, Try.ntmps28
      go_wp2_with (go_at_call 46; refine (asm_way.calls w0 _ g _ c gf ga gl lv xs far at_ lab (HS.out.below (below_alloc (below_alloc (Below.refl _ _) _) _)) (HL.out.below (below_alloc (below_alloc (Below.refl _ _) _) _)) i hlt n (by rw [HX.out]) hn _).mono ?_; rw [HZ.out]; rintro e w3 ⟨rfl, hb3⟩; have HB3 := Aside0.mk hb3; clear hb3; have hsz : w.heap.size + 1 + 1 ≤ w3.heap.size := (by have := HB3.out.size; simp at this; omega); have HO := Aside0.mk ((HB3.out.block (w.heap.size + 1) (by simp)).trans (heap_second w _ _)); have o0 := blk_cell HO.out 0; have o1 := blk_cell HO.out 1; have o2 := blk_cell HO.out 2; have o3 := blk_cell HO.out 3; have o4 := blk_cell HO.out 4; have o5 := blk_frozen HO.out 4; have o6 := blk_frozen HO.out 0; have l9 : w.heap.size + 1 < w3.heap.size := hsz)
      go_wp2_with (go_at_call 16; refine (asm_Contrary.calls k y0 op _ HQ.out).mono ?_; rintro e w4 ⟨rfl, hd4⟩; have HD := Aside0.mk (far_facts HO.out hd4); clear hd4; have q10 := HD.out.2.2.2; have P0 : Aside0 ((w4.setCell ⟨w.heap.size + 1, 0, none⟩ (.int .i64 op)).heap[w.heap.size + 1]? = some (.cells #[.int .i64 op, .int .i64 y1, .int .i64 y2, .int .i64 y3, .int .i64 y4] 39)) := Aside0.mk (blk_set HD.out.1 0 (.int .i64 op)); have P1 : Aside0 (((w4.setCell ⟨w.heap.size + 1, 0, none⟩ (.int .i64 op)).setCell ⟨w.heap.size + 1, 4, none⟩ (.int .i64 8)).heap[w.heap.size + 1]? = some (.cells #[.int .i64 op, .int .i64 y1, .int .i64 y2, .int .i64 y3, .int .i64 8] 39)) := Aside0.mk (blk_set P0.out 4 (.int .i64 8)); have P2 : Aside0 (((w4.setCell ⟨w.heap.size + 1, 0, none⟩ (.int .i64 op)).setCell ⟨w.heap.size + 1, 4, none⟩ (.int .i64 8)).heap[w3.heap.size]? = some (.cells #[.int .i64 3, .int .i64 0, .int .i64 0, .int .i64 0, .int .i64 z] 39)) := Aside0.mk (blk_far (blk_far HD.out.2.1 (by simp; omega) _) (by simp; omega) _); have r0 := blk_cell HD.out.1 0; have r1 := blk_frozen HD.out.1 0; have r2 := blk_cell P0.out 4; have r3 := blk_frozen P0.out 4; have p0 := blk_cell P1.out 0; have p1 := blk_cell P1.out 1; have p2 := blk_cell P1.out 2; have p3 := blk_cell P1.out 3; have p4 := blk_cell P1.out 4; have q0 := blk_cell P2.out 0; have q1 := blk_cell P2.out 1; have q2 := blk_cell P2.out 2; have q3 := blk_cell P2.out 3; have q4 := blk_cell P2.out 4)
      go_region
      all_goals go_wp2
      all_goals go_ret2
      all_goals exact ⟨.slice (some ⟨w4.heap.size, 0, none⟩) 2 2, rfl, Kd.R_drew (inst_lit2 _ w.heap.size _ ⟨op, y1, y2, y3, 8⟩ ⟨3, 0, 0, 0, z⟩ (by simp) (by simp; omega)), below_drew (below_step (below_set (below_set (below_then (below_then (below_alloc (below_alloc (Below.refl _ _) _) _) (by simp; omega) HB3.out) (by omega) HD.out.2.2.1) (by omega)) (by omega)) (below_alloc (Below.refl _ _) _))⟩
def inst_bits.f (a0 : Int) (a1 : Int) (a2 : Int) : Option (Int) := if 0 ≤ a1 then (if 0 ≤ a2 then (some (Go.bits .and .u32 (shr .u32 a0 a1) (((shl .u32 1 a2) - 1) % 4294967296))) else (none)) else (none)
set_option maxHeartbeats 8000000 in
set_option maxRecDepth 100000 in
theorem inst_bits.calls (a0 : Int) (a1 : Int) (a2 : Int) (r : Int) (w : World) (h : inst_bits.f a0 a1 a2 = some r) :
    Calls Try.prog 42 #[.int .u32 a0, .int .i64 a1, .int .i64 a2] w fun e w' => e = .returned (.int .u32 r) ∧ Drawn0 w w' := by
  have H : (if 0 ≤ a1 then (if 0 ≤ a2 then (some (Go.bits .and .u32 (shr .u32 a0 a1) (((shl .u32 1 a2) - 1) % 4294967296))) else (none)) else (none)) = some r := h
  clear h
  by_cases c4 : 0 ≤ a1
  · rw [if_pos c4] at H
    have c4b0 := eq_true c4
    have c4b1 : decide (0 ≤ a1) = true := decide_eq_true c4
    clear c4
    obtain ⟨ji5, hji5⟩ : ∃ j_ : Int, (shr .u32 a0 a1) = j_ := ⟨_, rfl⟩
    replace H : (if 0 ≤ a2 then (some (Go.bits .and .u32 (ji5) (((shl .u32 1 a2) - 1) % 4294967296))) else (none)) = some r := by first | (rw [hji5] at H; exact H) | (simp only [hji5] at H ⊢; exact H)
    have hji5_ : (a0 / 2 ^ min a1.toNat 32) = ji5 := hji5
    have hji5z : a1 ≤ 32 → (a0 / 2 ^ a1.toNat) = ji5 := shr_small hji5
    by_cases c6 : 0 ≤ a2
    · rw [if_pos c6] at H
      have c6b0 := eq_true c6
      have c6b1 : decide (0 ≤ a2) = true := decide_eq_true c6
      clear c6
      obtain ⟨ji7, hji7⟩ : ∃ j_ : Int, (shl .u32 1 a2) = j_ := ⟨_, rfl⟩
      replace H : (some (Go.bits .and .u32 (ji5) (((ji7) - 1) % 4294967296))) = some r := by first | (rw [hji7] at H; exact H) | (simp only [hji7] at H ⊢; exact H)
      have hji7_ : (IntKind.u32.wrap (1 * 2 ^ min a2.toNat 32)) = ji7 := hji7
      have hji7z : a2 ≤ 32 → (IntKind.u32.wrap (1 * 2 ^ a2.toNat)) = ji7 := shl_small hji7
      have hji7u : (IntKind.u32.wrap (2 ^ min a2.toNat 32)) = ji7 := by have h_ := hji7_; rw [Int.one_mul] at h_; exact h_
      have hji7v : a2 ≤ 32 → (IntKind.u32.wrap (2 ^ a2.toNat)) = ji7 := fun hle_ => by have h_ := hji7z hle_; rw [Int.one_mul] at h_; exact h_
      obtain rfl := Option.some.inj H
      go_enter Try.func42, Try.ntmps42
      go_wp2
      repeat (go_quiet (fail); try go_wp2)
      go_ret
      exact ⟨by first | rfl | (simp; done) | (simp only [← hji5, ← hji7] <;> (first | rfl | simp)) | (simp [*]; done), by repeat (first | exact Drawn0.refl _ | apply Drawn0.step)⟩
    · rw [if_neg c6] at H
      exact absurd H (by simp)
  · rw [if_neg c4] at H
    exact absurd H (by simp)
def inst_number.j0 : Nat → Int → Int → Bool → Option (Int)
  | 0, _, _, _ => none
  | k + 1, x1, x5, x26 => if x26 = true then (some ((x1 * 1048576) % 4294967296)) else (if x5 = 83 then ((inst_bits.f x1 5 7).bind fun t140 => ((inst_bits.f x1 0 5).bind fun t141 => (some (Go.bits .or .u32 ((t140 * 33554432) % 4294967296) ((t141 * 128) % 4294967296))))) else (if x5 = 66 then ((inst_bits.f x1 12 1).bind fun t142 => ((inst_bits.f x1 5 6).bind fun t143 => ((inst_bits.f x1 1 4).bind fun t144 => ((inst_bits.f x1 11 1).bind fun t145 => (some (Go.bits .or .u32 (Go.bits .or .u32 (Go.bits .or .u32 ((t142 * 2147483648) % 4294967296) ((t143 * 33554432) % 4294967296)) ((t144 * 256) % 4294967296)) ((t145 * 128) % 4294967296))))))) else (some 0)))
def inst_number.f (k : Nat) (a0 : Int) (a1 : Int) : Option (Int) := if a0 = 85 then (some a1) else (if a0 = 74 then ((inst_bits.f a1 20 1).bind fun t136 => ((inst_bits.f a1 1 10).bind fun t137 => ((inst_bits.f a1 11 1).bind fun t138 => ((inst_bits.f a1 12 8).bind fun t139 => (some (Go.bits .or .u32 (Go.bits .or .u32 (Go.bits .or .u32 ((t136 * 2147483648) % 4294967296) ((t137 * 2097152) % 4294967296)) ((t138 * 1048576) % 4294967296)) ((t139 * 4096) % 4294967296))))))) else (if a0 = 73 then (inst_number.j0 k a1 a0 (a0 == 73)) else (inst_number.j0 k a1 a0 (a0 == 72))))
theorem inst_number.mono_l : ∀ k, (∀ y0 y1 y2, LeO (inst_number.j0 k y0 y1 y2) (inst_number.j0 (k + 1) y0 y1 y2))
  | 0 => fun _ _ _ r h => by simp [inst_number.j0] at h
  | k + 1 => by
    have ih0 := inst_number.mono_l k
    · intro y0 y1 y2
      unfold inst_number.j0
      repeat' first
      | (with_reducible exact ih0 _ _ _)
      | (with_reducible exact LeO.refl _)
      | (with_reducible exact LeO.none _)
      | (with_reducible refine LeO.ite ?_ ?_)
      | (with_reducible refine LeO.bind ?_ (fun _ => ?_))
      | exact ih0 _ _ _
      | exact LeO.none _
      | refine LeO.ite ?_ ?_
      | refine LeO.bind ?_ (fun _ => ?_)
theorem inst_number.mono : ∀ a0 a1 k, LeO (inst_number.f k a0 a1) (inst_number.f (k + 1) a0 a1) := by
  intro a0 a1 k
  have ih0 := inst_number.mono_l k
  unfold inst_number.f
  repeat' first
      | (with_reducible exact ih0 _ _ _)
      | (with_reducible exact LeO.refl _)
      | (with_reducible exact LeO.none _)
      | (with_reducible refine LeO.ite ?_ ?_)
      | (with_reducible refine LeO.bind ?_ (fun _ => ?_))
      | exact ih0 _ _ _
      | exact LeO.none _
      | refine LeO.ite ?_ ?_
      | refine LeO.bind ?_ (fun _ => ?_)
set_option maxHeartbeats 8000000 in
set_option maxRecDepth 100000 in
theorem inst_number.calls (k : Nat) (a0 : Int) (a1 : Int) (r : Int) (w : World) (h : inst_number.f k a0 a1 = some r) :
    Calls Try.prog 49 #[.int .u8 a0, .int .u32 a1] w fun e w' => e = .returned (.int .u32 r) ∧ Drawn0 w w' := by
  have H : (if a0 = 85 then (some a1) else (if a0 = 74 then ((inst_bits.f a1 20 1).bind fun t136 => ((inst_bits.f a1 1 10).bind fun t137 => ((inst_bits.f a1 11 1).bind fun t138 => ((inst_bits.f a1 12 8).bind fun t139 => (some (Go.bits .or .u32 (Go.bits .or .u32 (Go.bits .or .u32 ((t136 * 2147483648) % 4294967296) ((t137 * 2097152) % 4294967296)) ((t138 * 1048576) % 4294967296)) ((t139 * 4096) % 4294967296))))))) else (if a0 = 73 then (inst_number.j0 k a1 a0 (a0 == 73)) else (inst_number.j0 k a1 a0 (a0 == 72))))) = some r := h
  clear h
  by_cases c3 : a0 = 85
  · rw [if_pos c3] at H
    have c3b0 : (a0 == 85) = true := beq_iff_eq.mpr c3
    have c3b1 : (a0 != 85) = false := bne_eq_false_iff_eq.mpr c3
    clear c3
    obtain rfl := Option.some.inj H
    go_enter Try.func49, Try.ntmps49
    go_wp2
    go_ret
    exact ⟨by first | rfl | (simp; done) | (simp [*]; done), by repeat (first | exact Drawn0.refl _ | apply Drawn0.step)⟩
  · rw [if_neg c3] at H
    have c3b0 : (a0 == 85) = false := beq_eq_false_iff_ne.mpr c3
    have c3b1 : (a0 != 85) = true := bne_iff_ne.mpr c3
    by_cases c4 : a0 = 74
    · rw [if_pos c4] at H
      have c4b0 : (a0 == 74) = true := beq_iff_eq.mpr c4
      have c4b1 : (a0 != 74) = false := bne_eq_false_iff_eq.mpr c4
      clear c4
      replace H := Option.bind_eq_some_iff.mp H
      obtain ⟨t136, A50, H⟩ := H
      replace H : ((inst_bits.f a1 1 10).bind fun t137 => ((inst_bits.f a1 11 1).bind fun t138 => ((inst_bits.f a1 12 8).bind fun t139 => (some (Go.bits .or .u32 (Go.bits .or .u32 (Go.bits .or .u32 ((t136 * 2147483648) % 4294967296) ((t137 * 2097152) % 4294967296)) ((t138 * 1048576) % 4294967296)) ((t139 * 4096) % 4294967296)))))) = some r := H
      have A5 := Aside0.mk A50
      clear A50
      replace H := Option.bind_eq_some_iff.mp H
      obtain ⟨t137, A60, H⟩ := H
      replace H : ((inst_bits.f a1 11 1).bind fun t138 => ((inst_bits.f a1 12 8).bind fun t139 => (some (Go.bits .or .u32 (Go.bits .or .u32 (Go.bits .or .u32 ((t136 * 2147483648) % 4294967296) ((t137 * 2097152) % 4294967296)) ((t138 * 1048576) % 4294967296)) ((t139 * 4096) % 4294967296))))) = some r := H
      have A6 := Aside0.mk A60
      clear A60
      replace H := Option.bind_eq_some_iff.mp H
      obtain ⟨t138, A70, H⟩ := H
      replace H : ((inst_bits.f a1 12 8).bind fun t139 => (some (Go.bits .or .u32 (Go.bits .or .u32 (Go.bits .or .u32 ((t136 * 2147483648) % 4294967296) ((t137 * 2097152) % 4294967296)) ((t138 * 1048576) % 4294967296)) ((t139 * 4096) % 4294967296)))) = some r := H
      have A7 := Aside0.mk A70
      clear A70
      replace H := Option.bind_eq_some_iff.mp H
      obtain ⟨t139, A80, H⟩ := H
      replace H : (some (Go.bits .or .u32 (Go.bits .or .u32 (Go.bits .or .u32 ((t136 * 2147483648) % 4294967296) ((t137 * 2097152) % 4294967296)) ((t138 * 1048576) % 4294967296)) ((t139 * 4096) % 4294967296))) = some r := H
      have A8 := Aside0.mk A80
      clear A80
      obtain rfl := Option.some.inj H
      go_enter Try.func49, Try.ntmps49
      go_wp2_with (first | ((with_reducible refine gate_callee (f := 42) rfl ?_); refine goesL_ (some 12) rfl rfl Try.func42 (by kernel_rfl) rfl #[.int .u32 a1, .int .i64 20, .int .i64 1] rfl (by (try simp only [List.map_toArray, List.map_cons, List.map_nil]); first | done | rfl | (simp only [List.length_drop, List.length_take]; rfl)) ?_; (with_reducible refine (inst_bits.calls a1 20 1 t136 _ A5.out).mono ?_); rintro e w' ⟨rfl, ⟨nd, rfl⟩⟩; refine ⟨_, rfl, ?_⟩) | ((with_reducible refine gate_callee (f := 42) rfl ?_); refine goesL_ (some 15) rfl rfl Try.func42 (by kernel_rfl) rfl #[.int .u32 a1, .int .i64 1, .int .i64 10] rfl (by (try simp only [List.map_toArray, List.map_cons, List.map_nil]); first | done | rfl | (simp only [List.length_drop, List.length_take]; rfl)) ?_; (with_reducible refine (inst_bits.calls a1 1 10 t137 _ A6.out).mono ?_); rintro e w' ⟨rfl, ⟨nd, rfl⟩⟩; refine ⟨_, rfl, ?_⟩) | ((with_reducible refine gate_callee (f := 42) rfl ?_); refine goesL_ (some 19) rfl rfl Try.func42 (by kernel_rfl) rfl #[.int .u32 a1, .int .i64 11, .int .i64 1] rfl (by (try simp only [List.map_toArray, List.map_cons, List.map_nil]); first | done | rfl | (simp only [List.length_drop, List.length_take]; rfl)) ?_; (with_reducible refine (inst_bits.calls a1 11 1 t138 _ A7.out).mono ?_); rintro e w' ⟨rfl, ⟨nd, rfl⟩⟩; refine ⟨_, rfl, ?_⟩) | ((with_reducible refine gate_callee (f := 42) rfl ?_); refine goesL_ (some 23) rfl rfl Try.func42 (by kernel_rfl) rfl #[.int .u32 a1, .int .i64 12, .int .i64 8] rfl (by (try simp only [List.map_toArray, List.map_cons, List.map_nil]); first | done | rfl | (simp only [List.length_drop, List.length_take]; rfl)) ?_; (with_reducible refine (inst_bits.calls a1 12 8 t139 _ A8.out).mono ?_); rintro e w' ⟨rfl, ⟨nd, rfl⟩⟩; refine ⟨_, rfl, ?_⟩))
      go_ret
      exact ⟨by first | rfl | (simp; done) | (simp [*]; done), by repeat (first | exact Drawn0.refl _ | apply Drawn0.step)⟩
    · rw [if_neg c4] at H
      have c4b0 : (a0 == 74) = false := beq_eq_false_iff_ne.mpr c4
      have c4b1 : (a0 != 74) = true := bne_iff_ne.mpr c4
      have HC9 := Aside0.mk H
      clear H
      go_enter Try.func49, Try.ntmps49
      go_upto_if 26 with (fail)
      go_cut [26] (fun v26 wc => ∃ (kq : Nat) (x26_8 : Bool), v26 = .bool x26_8 ∧ Aside0 (inst_number.j0 kq a1 a0 x26_8 = some r) ∧ Aside0 (kq ≤ k) ∧ Drawn0 w wc)
      case first =>
        have H := HC9.out
        clear HC9
        by_cases c10 : a0 = 73
        · rw [if_pos c10] at H
          have c10b0 : (a0 == 73) = true := beq_iff_eq.mpr c10
          have c10b1 : (a0 != 73) = false := bne_eq_false_iff_eq.mpr c10
          clear c10
          (first | rw [c10b0] | (simp only [i64_w, i32_w]; rw [c10b0]) | skip)
          have H' := Aside0.mk H
          clear H
          go_wp2
          go_meet
          case rel => exact ⟨_, ((a0 == 73)), (by first | rfl | (simp; done) | (simp [*]; done)), H', ⟨by first | omega | exact Nat.le_refl _⟩, by repeat (first | exact Drawn0.refl _ | apply Drawn0.step)⟩
        · rw [if_neg c10] at H
          have c10b0 : (a0 == 73) = false := beq_eq_false_iff_ne.mpr c10
          have c10b1 : (a0 != 73) = true := bne_iff_ne.mpr c10
          (first | rw [c10b0] | (simp only [i64_w, i32_w]; rw [c10b0]) | skip)
          have H' := Aside0.mk H
          clear H
          go_wp2
          go_meet
          case rel => exact ⟨_, ((a0 == 72)), (by first | rfl | (simp; done) | (simp [*]; done)), H', ⟨by first | omega | exact Nat.le_refl _⟩, by repeat (first | exact Drawn0.refl _ | apply Drawn0.step)⟩
      case rest =>
        clear HC9
        try clear c1
        try clear p2
        try clear c3
        try clear c3b0
        try clear c3b1
        try clear c4
        try clear c4b0
        try clear c4b1
        try clear c10
        try clear c10b0
        try clear c10b1
        obtain ⟨kq, x26_8, rfl, HA, HJ8, ⟨mc8, rfl⟩⟩ := hcut
        cases kq with
        | zero => exact absurd HA.out (by simp [inst_number.j0])
        | succ kj8 =>
          have H := HA.out
          clear HA
          simp only [inst_number.j0] at H
          by_cases c11 : x26_8 = true
          · subst c11
            have H1 : (some ((a1 * 1048576) % 4294967296)) = some r := by rw [if_pos rfl] at H; exact H
            clear H
            have H := H1
            clear H1
            obtain rfl := Option.some.inj H
            go_wp2
            go_ret
            exact ⟨by first | rfl | (simp; done) | (simp [*]; done), by repeat (first | exact Drawn0.refl _ | apply Drawn0.step)⟩
          · replace c11 := Bool.eq_false_iff.mpr c11
            subst c11
            have H1 : (if a0 = 83 then ((inst_bits.f a1 5 7).bind fun t140 => ((inst_bits.f a1 0 5).bind fun t141 => (some (Go.bits .or .u32 ((t140 * 33554432) % 4294967296) ((t141 * 128) % 4294967296))))) else (if a0 = 66 then ((inst_bits.f a1 12 1).bind fun t142 => ((inst_bits.f a1 5 6).bind fun t143 => ((inst_bits.f a1 1 4).bind fun t144 => ((inst_bits.f a1 11 1).bind fun t145 => (some (Go.bits .or .u32 (Go.bits .or .u32 (Go.bits .or .u32 ((t142 * 2147483648) % 4294967296) ((t143 * 33554432) % 4294967296)) ((t144 * 256) % 4294967296)) ((t145 * 128) % 4294967296))))))) else (some 0))) = some r := by rw [if_neg (show ¬ (false = true) by decide)] at H; exact H
            clear H
            have H := H1
            clear H1
            by_cases c12 : a0 = 83
            · rw [if_pos c12] at H
              have c12b0 : (a0 == 83) = true := beq_iff_eq.mpr c12
              have c12b1 : (a0 != 83) = false := bne_eq_false_iff_eq.mpr c12
              clear c12
              replace H := Option.bind_eq_some_iff.mp H
              obtain ⟨t140, A130, H⟩ := H
              replace H : ((inst_bits.f a1 0 5).bind fun t141 => (some (Go.bits .or .u32 ((t140 * 33554432) % 4294967296) ((t141 * 128) % 4294967296)))) = some r := H
              have A13 := Aside0.mk A130
              clear A130
              replace H := Option.bind_eq_some_iff.mp H
              obtain ⟨t141, A140, H⟩ := H
              replace H : (some (Go.bits .or .u32 ((t140 * 33554432) % 4294967296) ((t141 * 128) % 4294967296))) = some r := H
              have A14 := Aside0.mk A140
              clear A140
              obtain rfl := Option.some.inj H
              go_wp2_with (first | ((with_reducible refine gate_callee (f := 42) rfl ?_); refine goesL_ (some 34) rfl rfl Try.func42 (by kernel_rfl) rfl #[.int .u32 a1, .int .i64 5, .int .i64 7] rfl (by (try simp only [List.map_toArray, List.map_cons, List.map_nil]); first | done | rfl | (simp only [List.length_drop, List.length_take]; rfl)) ?_; (with_reducible refine (inst_bits.calls a1 5 7 t140 _ A13.out).mono ?_); rintro e w' ⟨rfl, ⟨nd, rfl⟩⟩; refine ⟨_, rfl, ?_⟩) | ((with_reducible refine gate_callee (f := 42) rfl ?_); refine goesL_ (some 37) rfl rfl Try.func42 (by kernel_rfl) rfl #[.int .u32 a1, .int .i64 0, .int .i64 5] rfl (by (try simp only [List.map_toArray, List.map_cons, List.map_nil]); first | done | rfl | (simp only [List.length_drop, List.length_take]; rfl)) ?_; (with_reducible refine (inst_bits.calls a1 0 5 t141 _ A14.out).mono ?_); rintro e w' ⟨rfl, ⟨nd, rfl⟩⟩; refine ⟨_, rfl, ?_⟩))
              go_ret
              exact ⟨by first | rfl | (simp; done) | (simp [*]; done), by repeat (first | exact Drawn0.refl _ | apply Drawn0.step)⟩
            · rw [if_neg c12] at H
              have c12b0 : (a0 == 83) = false := beq_eq_false_iff_ne.mpr c12
              have c12b1 : (a0 != 83) = true := bne_iff_ne.mpr c12
              by_cases c15 : a0 = 66
              · rw [if_pos c15] at H
                have c15b0 : (a0 == 66) = true := beq_iff_eq.mpr c15
                have c15b1 : (a0 != 66) = false := bne_eq_false_iff_eq.mpr c15
                clear c15
                replace H := Option.bind_eq_some_iff.mp H
                obtain ⟨t142, A160, H⟩ := H
                replace H : ((inst_bits.f a1 5 6).bind fun t143 => ((inst_bits.f a1 1 4).bind fun t144 => ((inst_bits.f a1 11 1).bind fun t145 => (some (Go.bits .or .u32 (Go.bits .or .u32 (Go.bits .or .u32 ((t142 * 2147483648) % 4294967296) ((t143 * 33554432) % 4294967296)) ((t144 * 256) % 4294967296)) ((t145 * 128) % 4294967296)))))) = some r := H
                have A16 := Aside0.mk A160
                clear A160
                replace H := Option.bind_eq_some_iff.mp H
                obtain ⟨t143, A170, H⟩ := H
                replace H : ((inst_bits.f a1 1 4).bind fun t144 => ((inst_bits.f a1 11 1).bind fun t145 => (some (Go.bits .or .u32 (Go.bits .or .u32 (Go.bits .or .u32 ((t142 * 2147483648) % 4294967296) ((t143 * 33554432) % 4294967296)) ((t144 * 256) % 4294967296)) ((t145 * 128) % 4294967296))))) = some r := H
                have A17 := Aside0.mk A170
                clear A170
                replace H := Option.bind_eq_some_iff.mp H
                obtain ⟨t144, A180, H⟩ := H
                replace H : ((inst_bits.f a1 11 1).bind fun t145 => (some (Go.bits .or .u32 (Go.bits .or .u32 (Go.bits .or .u32 ((t142 * 2147483648) % 4294967296) ((t143 * 33554432) % 4294967296)) ((t144 * 256) % 4294967296)) ((t145 * 128) % 4294967296)))) = some r := H
                have A18 := Aside0.mk A180
                clear A180
                replace H := Option.bind_eq_some_iff.mp H
                obtain ⟨t145, A190, H⟩ := H
                replace H : (some (Go.bits .or .u32 (Go.bits .or .u32 (Go.bits .or .u32 ((t142 * 2147483648) % 4294967296) ((t143 * 33554432) % 4294967296)) ((t144 * 256) % 4294967296)) ((t145 * 128) % 4294967296))) = some r := H
                have A19 := Aside0.mk A190
                clear A190
                obtain rfl := Option.some.inj H
                go_wp2_with (first | ((with_reducible refine gate_callee (f := 42) rfl ?_); refine goesL_ (some 43) rfl rfl Try.func42 (by kernel_rfl) rfl #[.int .u32 a1, .int .i64 12, .int .i64 1] rfl (by (try simp only [List.map_toArray, List.map_cons, List.map_nil]); first | done | rfl | (simp only [List.length_drop, List.length_take]; rfl)) ?_; (with_reducible refine (inst_bits.calls a1 12 1 t142 _ A16.out).mono ?_); rintro e w' ⟨rfl, ⟨nd, rfl⟩⟩; refine ⟨_, rfl, ?_⟩) | ((with_reducible refine gate_callee (f := 42) rfl ?_); refine goesL_ (some 46) rfl rfl Try.func42 (by kernel_rfl) rfl #[.int .u32 a1, .int .i64 5, .int .i64 6] rfl (by (try simp only [List.map_toArray, List.map_cons, List.map_nil]); first | done | rfl | (simp only [List.length_drop, List.length_take]; rfl)) ?_; (with_reducible refine (inst_bits.calls a1 5 6 t143 _ A17.out).mono ?_); rintro e w' ⟨rfl, ⟨nd, rfl⟩⟩; refine ⟨_, rfl, ?_⟩) | ((with_reducible refine gate_callee (f := 42) rfl ?_); refine goesL_ (some 50) rfl rfl Try.func42 (by kernel_rfl) rfl #[.int .u32 a1, .int .i64 1, .int .i64 4] rfl (by (try simp only [List.map_toArray, List.map_cons, List.map_nil]); first | done | rfl | (simp only [List.length_drop, List.length_take]; rfl)) ?_; (with_reducible refine (inst_bits.calls a1 1 4 t144 _ A18.out).mono ?_); rintro e w' ⟨rfl, ⟨nd, rfl⟩⟩; refine ⟨_, rfl, ?_⟩) | ((with_reducible refine gate_callee (f := 42) rfl ?_); refine goesL_ (some 54) rfl rfl Try.func42 (by kernel_rfl) rfl #[.int .u32 a1, .int .i64 11, .int .i64 1] rfl (by (try simp only [List.map_toArray, List.map_cons, List.map_nil]); first | done | rfl | (simp only [List.length_drop, List.length_take]; rfl)) ?_; (with_reducible refine (inst_bits.calls a1 11 1 t145 _ A19.out).mono ?_); rintro e w' ⟨rfl, ⟨nd, rfl⟩⟩; refine ⟨_, rfl, ?_⟩))
                go_ret
                exact ⟨by first | rfl | (simp; done) | (simp [*]; done), by repeat (first | exact Drawn0.refl _ | apply Drawn0.step)⟩
              · rw [if_neg c15] at H
                have c15b0 : (a0 == 66) = false := beq_eq_false_iff_ne.mpr c15
                have c15b1 : (a0 != 66) = true := bne_iff_ne.mpr c15
                obtain rfl := Option.some.inj H
                go_wp2
                go_ret
                exact ⟨by first | rfl | (simp; done) | (simp [*]; done), by repeat (first | exact Drawn0.refl _ | apply Drawn0.step)⟩
def inst_Encode.f (k : Nat) (a0_0 : Int) (a0_1 : Int) (a0_2 : Int) (a0_3 : Int) (a0_4 : Int) : Option (Int × Int) := (inst_Right.f k a0_0 a0_1 a0_2 a0_3 a0_4).bind fun t147 => (if t147 = true then ((inst_of.f a0_0).bind fun bt148 => ((inst_number.f k bt148.2.1 ((a0_4) % 4294967296)).bind fun t154 => (some (Go.bits .or .u32 (Go.bits .or .u32 (Go.bits .or .u32 (Go.bits .or .u32 bt148.2.2.1 ((bt148.2.2.2.1 * 4096) % 4294967296)) ((bt148.2.2.2.2 * 33554432) % 4294967296)) (Go.bits .or .u32 (Go.bits .or .u32 ((((a0_1) % 4294967296) * 128) % 4294967296) ((((a0_2) % 4294967296) * 32768) % 4294967296)) ((((a0_3) % 4294967296) * 1048576) % 4294967296))) t154, 0)))) else (some (0, 1)))
theorem inst_Encode.mono : ∀ a0 a1 a2 a3 a4 k, LeO (inst_Encode.f k a0 a1 a2 a3 a4) (inst_Encode.f (k + 1) a0 a1 a2 a3 a4) := by
  intro a0 a1 a2 a3 a4 k
  unfold inst_Encode.f
  repeat' first
      | (with_reducible exact inst_Right.mono _ _ _ _ _ _)
      | (with_reducible exact inst_number.mono _ _ _)
      | (with_reducible exact LeO.refl _)
      | (with_reducible exact LeO.none _)
      | (with_reducible refine LeO.ite ?_ ?_)
      | (with_reducible refine LeO.bind ?_ (fun _ => ?_))
      | exact inst_Right.mono _ _ _ _ _ _
      | exact inst_number.mono _ _ _
      | exact LeO.none _
      | refine LeO.ite ?_ ?_
      | refine LeO.bind ?_ (fun _ => ?_)
set_option maxHeartbeats 8000000 in
set_option maxRecDepth 100000 in
theorem inst_Encode.calls (k : Nat) (a0_0 : Int) (a0_1 : Int) (a0_2 : Int) (a0_3 : Int) (a0_4 : Int) (r1 : Int) (r2 : Int) (w : World) (h : inst_Encode.f k a0_0 a0_1 a0_2 a0_3 a0_4 = some (r1, r2)) :
    Calls Try.prog 29 #[.agg #[.int .i64 a0_0, .int .i64 a0_1, .int .i64 a0_2, .int .i64 a0_3, .int .i64 a0_4]] w fun e w' => e = .returned (.tuple #[.int .u32 r1, .int .i64 r2]) ∧ Below w.heap.size w w' := by
  have hu39 := Try.underlying39
  have hu80 := Try.underlying80
  have HB := Aside0.mk (Below.refl w.heap.size w)
  have H : ((inst_Right.f k a0_0 a0_1 a0_2 a0_3 a0_4).bind fun t147 => (if t147 = true then ((inst_of.f a0_0).bind fun bt148 => ((inst_number.f k bt148.2.1 ((a0_4) % 4294967296)).bind fun t154 => (some (Go.bits .or .u32 (Go.bits .or .u32 (Go.bits .or .u32 (Go.bits .or .u32 bt148.2.2.1 ((bt148.2.2.2.1 * 4096) % 4294967296)) ((bt148.2.2.2.2 * 33554432) % 4294967296)) (Go.bits .or .u32 (Go.bits .or .u32 ((((a0_1) % 4294967296) * 128) % 4294967296) ((((a0_2) % 4294967296) * 32768) % 4294967296)) ((((a0_3) % 4294967296) * 1048576) % 4294967296))) t154, 0)))) else (some (0, 1)))) = some (r1, r2) := h
  clear h
  replace H := Option.bind_eq_some_iff.mp H
  obtain ⟨t147, A20, H⟩ := H
  replace H : (if t147 = true then ((inst_of.f a0_0).bind fun bt148 => ((inst_number.f k bt148.2.1 ((a0_4) % 4294967296)).bind fun t154 => (some (Go.bits .or .u32 (Go.bits .or .u32 (Go.bits .or .u32 (Go.bits .or .u32 bt148.2.2.1 ((bt148.2.2.2.1 * 4096) % 4294967296)) ((bt148.2.2.2.2 * 33554432) % 4294967296)) (Go.bits .or .u32 (Go.bits .or .u32 ((((a0_1) % 4294967296) * 128) % 4294967296) ((((a0_2) % 4294967296) * 32768) % 4294967296)) ((((a0_3) % 4294967296) * 1048576) % 4294967296))) t154, 0)))) else (some (0, 1))) = some (r1, r2) := H
  have A2 := Aside0.mk A20
  clear A20
  by_cases c3 : t147 = true
  · subst c3
    have H1 : ((inst_of.f a0_0).bind fun bt148 => ((inst_number.f k bt148.2.1 ((a0_4) % 4294967296)).bind fun t154 => (some (Go.bits .or .u32 (Go.bits .or .u32 (Go.bits .or .u32 (Go.bits .or .u32 bt148.2.2.1 ((bt148.2.2.2.1 * 4096) % 4294967296)) ((bt148.2.2.2.2 * 33554432) % 4294967296)) (Go.bits .or .u32 (Go.bits .or .u32 ((((a0_1) % 4294967296) * 128) % 4294967296) ((((a0_2) % 4294967296) * 32768) % 4294967296)) ((((a0_3) % 4294967296) * 1048576) % 4294967296))) t154, 0)))) = some (r1, r2) := by rw [if_pos rfl] at H; exact H
    clear H
    have H := H1
    clear H1
    replace H := Option.bind_eq_some_iff.mp H
    obtain ⟨⟨t148, t149, t150, t151, t152⟩, A40, H⟩ := H
    replace H : ((inst_number.f k t149 ((a0_4) % 4294967296)).bind fun t154 => (some (Go.bits .or .u32 (Go.bits .or .u32 (Go.bits .or .u32 (Go.bits .or .u32 t150 ((t151 * 4096) % 4294967296)) ((t152 * 33554432) % 4294967296)) (Go.bits .or .u32 (Go.bits .or .u32 ((((a0_1) % 4294967296) * 128) % 4294967296) ((((a0_2) % 4294967296) * 32768) % 4294967296)) ((((a0_3) % 4294967296) * 1048576) % 4294967296))) t154, 0))) = some (r1, r2) := H
    have A4 := Aside0.mk A40
    clear A40
    replace H := Option.bind_eq_some_iff.mp H
    obtain ⟨t154, A50, H⟩ := H
    replace H : (some (Go.bits .or .u32 (Go.bits .or .u32 (Go.bits .or .u32 (Go.bits .or .u32 t150 ((t151 * 4096) % 4294967296)) ((t152 * 33554432) % 4294967296)) (Go.bits .or .u32 (Go.bits .or .u32 ((((a0_1) % 4294967296) * 128) % 4294967296) ((((a0_2) % 4294967296) * 32768) % 4294967296)) ((((a0_3) % 4294967296) * 1048576) % 4294967296))) t154, 0)) = some (r1, r2) := H
    have A5 := Aside0.mk A50
    clear A50
    simp only [Option.some.injEq, Prod.mk.injEq] at H
    obtain ⟨rfl, rfl⟩ := H
    go_enter Try.func29, Try.ntmps29
    go_wp2_with (first | ((with_reducible refine gate_dst (N := 1) rfl ?_); refine box_event ?hg (N := 1) ?hd (cs := #[.int .i64 a0_0, .int .i64 a0_1, .int .i64 a0_2, .int .i64 a0_3, .int .i64 a0_4]) (t := 39) ?hr ?_; (case hd => rfl); (case hg => rfl); (case hr => first | (go_simp; done) | (go_simp; rfl)); intro gb146 hg w6 hbox hb; have n0_ := Aside0.mk (below_step (by repeat (first | (with_reducible first | exact HB.out | apply below_alloc | apply pw_below_drewN | apply below_drew1) | exact HB.out)) hb); have n1_ := Aside0.mk (hbox); have n2_ := Aside0.mk ((by rw [hg]; exact (below_size (by repeat (first | (with_reducible first | exact HB.out | apply below_alloc | apply pw_below_drewN | apply below_drew1) | exact HB.out))) : w.heap.size ≤ gb146)); have n3_ := Aside0.mk ((by rw [hg]; exact (below_size (by repeat (first | (with_reducible first | exact HB.out | apply below_alloc | apply pw_below_drewN | apply below_drew1) | exact HB.out))) : w.heap.size ≤ gb146)); clear HB; have HB := n0_; have BK146 := n1_; have GW146 := n2_; have GE146 := n3_; clear n0_ n1_ n2_ n3_; clear hb hbox hg; have hcz7_0 : w6.cell? ⟨gb146, 0, none⟩ = some (.int .i64 a0_0) := (blk_cell BK146.out 0).trans rfl; have hcz7_1 : w6.cell? ⟨gb146, 1, none⟩ = some (.int .i64 a0_1) := (blk_cell BK146.out 1).trans rfl; have hcz7_2 : w6.cell? ⟨gb146, 2, none⟩ = some (.int .i64 a0_2) := (blk_cell BK146.out 2).trans rfl; have hcz7_3 : w6.cell? ⟨gb146, 3, none⟩ = some (.int .i64 a0_3) := (blk_cell BK146.out 3).trans rfl; have hcz7_4 : w6.cell? ⟨gb146, 4, none⟩ = some (.int .i64 a0_4) := (blk_cell BK146.out 4).trans rfl; have hfz7_0 := blk_frozen BK146.out 0; have hfz7_1 := blk_frozen BK146.out 1; have hfz7_2 := blk_frozen BK146.out 2; have hfz7_3 := blk_frozen BK146.out 3; have hfz7_4 := blk_frozen BK146.out 4) | ((with_reducible refine gate_callee (f := 35) rfl ?_); refine goesL_ (some 7) rfl rfl Try.func35 (by kernel_rfl) rfl #[.agg #[.int .i64 a0_0, .int .i64 a0_1, .int .i64 a0_2, .int .i64 a0_3, .int .i64 a0_4]] rfl (by (try simp only [List.map_toArray, List.map_cons, List.map_nil]); first | done | rfl | (simp only [List.length_drop, List.length_take]; rfl)) ?_; (with_reducible refine (inst_Right.calls k a0_0 a0_1 a0_2 a0_3 a0_4 true _ A2.out).mono ?_); rintro e w8 ⟨rfl, hb⟩; refine ⟨_, rfl, ?_⟩; have n0_ := Aside0.mk (blk_below (g := gb146) (o := .cells #[.int .i64 a0_0, .int .i64 a0_1, .int .i64 a0_2, .int .i64 a0_3, .int .i64 a0_4] 39 (0, 0)) (by (with_reducible repeat (first | refine blk_drewN ?_ _ | refine blk_drew ?_ | refine blk_alloc ?_ _)); exact BK146.out) hb); have n1_ := Aside0.mk (below_step (by repeat (first | (with_reducible first | exact HB.out | apply below_alloc | apply pw_below_drewN | apply below_drew1 | refine below_set ?_ GE146.out) | exact HB.out)) hb); clear BK146; clear HB; have BK146 := n0_; have HB := n1_; clear n0_ n1_; (try clear hb); (try clear hb2); (try clear hk); (try clear hi); have hcz9_0 : w8.cell? ⟨gb146, 0, none⟩ = some (.int .i64 a0_0) := (blk_cell BK146.out 0).trans rfl; have hcz9_1 : w8.cell? ⟨gb146, 1, none⟩ = some (.int .i64 a0_1) := (blk_cell BK146.out 1).trans rfl; have hcz9_2 : w8.cell? ⟨gb146, 2, none⟩ = some (.int .i64 a0_2) := (blk_cell BK146.out 2).trans rfl; have hcz9_3 : w8.cell? ⟨gb146, 3, none⟩ = some (.int .i64 a0_3) := (blk_cell BK146.out 3).trans rfl; have hcz9_4 : w8.cell? ⟨gb146, 4, none⟩ = some (.int .i64 a0_4) := (blk_cell BK146.out 4).trans rfl; have hfz9_0 := blk_frozen BK146.out 0; have hfz9_1 := blk_frozen BK146.out 1; have hfz9_2 := blk_frozen BK146.out 2; have hfz9_3 := blk_frozen BK146.out 3; have hfz9_4 := blk_frozen BK146.out 4) | ((with_reducible refine gate_callee (f := 48) rfl ?_); refine goesL_ (some 11) rfl rfl Try.func48 (by kernel_rfl) rfl #[.int .i64 a0_0] rfl (by (try simp only [List.map_toArray, List.map_cons, List.map_nil]); first | done | rfl | (simp only [List.length_drop, List.length_take]; rfl)) ?_; (with_reducible refine (inst_of.calls a0_0 t148 t149 t150 t151 t152 _ A4.out).mono ?_); rintro e w10 ⟨rfl, hb⟩; refine ⟨_, rfl, ?_⟩; have n0_ := Aside0.mk (blk_below (g := gb146) (o := .cells #[.int .i64 a0_0, .int .i64 a0_1, .int .i64 a0_2, .int .i64 a0_3, .int .i64 a0_4] 39 (0, 0)) (by (with_reducible repeat (first | refine blk_drewN ?_ _ | refine blk_drew ?_ | refine blk_alloc ?_ _)); exact BK146.out) hb); have n1_ := Aside0.mk (below_step (by repeat (first | (with_reducible first | exact HB.out | apply below_alloc | apply pw_below_drewN | apply below_drew1 | refine below_set ?_ GE146.out) | exact HB.out)) hb); clear BK146; clear HB; have BK146 := n0_; have HB := n1_; clear n0_ n1_; (try clear hb); (try clear hb2); (try clear hk); (try clear hi)) | ((with_reducible refine gate_dst (N := 4) rfl ?_); refine box_event ?hg (N := 4) ?hd (cs := #[.string (⟨#[]⟩ : ByteArray), .int .u8 0, .int .u32 0, .int .u32 0, .int .u32 0]) (t := 80) ?hr ?_; (case hd => rfl); (case hg => rfl); (case hr => first | (go_simp; done) | (go_simp; rfl)); intro gb153 hg w11 hbox hb; have n0_ := Aside0.mk (blk_below (g := gb146) (o := .cells #[.int .i64 a0_0, .int .i64 a0_1, .int .i64 a0_2, .int .i64 a0_3, .int .i64 a0_4] 39 (0, 0)) (by (with_reducible repeat (first | refine blk_drewN ?_ _ | refine blk_drew ?_ | refine blk_alloc ?_ _)); exact BK146.out) hb); have n1_ := Aside0.mk (below_step (by repeat (first | (with_reducible first | exact HB.out | apply below_alloc | apply pw_below_drewN | apply below_drew1 | refine below_set ?_ GE146.out) | exact HB.out)) hb); have n2_ := Aside0.mk (hbox); have n3_ := Aside0.mk ((by rw [hg]; exact (below_size (by repeat (first | (with_reducible first | exact HB.out | apply below_alloc | apply pw_below_drewN | apply below_drew1 | refine below_set ?_ GE146.out) | exact HB.out))) : w.heap.size ≤ gb153)); have n4_ := Aside0.mk ((by rw [hg]; exact (below_size (by repeat (first | (with_reducible first | exact HB.out | apply below_alloc | apply pw_below_drewN | apply below_drew1 | refine below_set ?_ GE146.out) | exact HB.out))) : w.heap.size ≤ gb153)); have n5_ := Aside0.mk ((by rw [hg]; exact Nat.ne_of_lt (blk_lt (g := gb146) (o := .cells #[.int .i64 a0_0, .int .i64 a0_1, .int .i64 a0_2, .int .i64 a0_3, .int .i64 a0_4] 39 (0, 0)) (by (with_reducible repeat (first | refine blk_drewN ?_ _ | refine blk_drew ?_ | refine blk_alloc ?_ _)); exact BK146.out)) : gb146 ≠ gb153)); have n6_ := Aside0.mk ((by rw [hg]; exact Nat.ne_of_gt (blk_lt (g := gb146) (o := .cells #[.int .i64 a0_0, .int .i64 a0_1, .int .i64 a0_2, .int .i64 a0_3, .int .i64 a0_4] 39 (0, 0)) (by (with_reducible repeat (first | refine blk_drewN ?_ _ | refine blk_drew ?_ | refine blk_alloc ?_ _)); exact BK146.out)) : gb153 ≠ gb146)); clear BK146; clear HB; have BK146 := n0_; have HB := n1_; have BK153 := n2_; have GW153 := n3_; have GE153 := n4_; have NB146_153 := n5_; have NB153_146 := n6_; clear n0_ n1_ n2_ n3_ n4_ n5_ n6_; clear hb hbox hg; have hnb12 := NB153_146.out; have hnc12 := NB146_153.out; have hcz13_0 : w11.cell? ⟨gb153, 0, none⟩ = some (.string (⟨#[]⟩ : ByteArray)) := (blk_cell BK153.out 0).trans rfl; have hcz13_1 : w11.cell? ⟨gb153, 1, none⟩ = some (.int .u8 0) := (blk_cell BK153.out 1).trans rfl; have hcz13_2 : w11.cell? ⟨gb153, 2, none⟩ = some (.int .u32 0) := (blk_cell BK153.out 2).trans rfl; have hcz13_3 : w11.cell? ⟨gb153, 3, none⟩ = some (.int .u32 0) := (blk_cell BK153.out 3).trans rfl; have hcz13_4 : w11.cell? ⟨gb153, 4, none⟩ = some (.int .u32 0) := (blk_cell BK153.out 4).trans rfl; have hfz13_0 := blk_frozen BK153.out 0; have hfz13_1 := blk_frozen BK153.out 1; have hfz13_2 := blk_frozen BK153.out 2; have hfz13_3 := blk_frozen BK153.out 3; have hfz13_4 := blk_frozen BK153.out 4; have hcz14_0 : w11.cell? ⟨gb146, 0, none⟩ = some (.int .i64 a0_0) := (blk_cell BK146.out 0).trans rfl; have hcz14_1 : w11.cell? ⟨gb146, 1, none⟩ = some (.int .i64 a0_1) := (blk_cell BK146.out 1).trans rfl; have hcz14_2 : w11.cell? ⟨gb146, 2, none⟩ = some (.int .i64 a0_2) := (blk_cell BK146.out 2).trans rfl; have hcz14_3 : w11.cell? ⟨gb146, 3, none⟩ = some (.int .i64 a0_3) := (blk_cell BK146.out 3).trans rfl; have hcz14_4 : w11.cell? ⟨gb146, 4, none⟩ = some (.int .i64 a0_4) := (blk_cell BK146.out 4).trans rfl; have hfz14_0 := blk_frozen BK146.out 0; have hfz14_1 := blk_frozen BK146.out 1; have hfz14_2 := blk_frozen BK146.out 2; have hfz14_3 := blk_frozen BK146.out 3; have hfz14_4 := blk_frozen BK146.out 4) | ((with_reducible refine gate_callee (f := 49) rfl ?_); refine goesL_ (some 44) rfl rfl Try.func49 (by kernel_rfl) rfl #[.int .u8 t149, .int .u32 ((a0_4) % 4294967296)] rfl (by (try simp only [List.map_toArray, List.map_cons, List.map_nil]); first | done | rfl | (simp only [List.length_drop, List.length_take]; rfl)) ?_; (with_reducible refine (inst_number.calls k t149 ((a0_4) % 4294967296) t154 _ A5.out).mono ?_); rintro e w' ⟨rfl, ⟨nd, rfl⟩⟩; refine ⟨_, rfl, ?_⟩))
    go_ret2
    exact ⟨by first | rfl | (simp [errW_none, errW_some] <;> rfl) | (simp [*, errW_none, errW_some] <;> rfl), by repeat (first | (with_reducible first | exact HB.out | apply below_alloc | apply pw_below_drewN | apply below_drew1 | refine below_set ?_ GE146.out | refine below_set ?_ GE153.out) | exact HB.out)⟩
  · replace c3 := Bool.eq_false_iff.mpr c3
    subst c3
    have H1 : (some (0, 1)) = some (r1, r2) := by rw [if_neg (show ¬ (false = true) by decide)] at H; exact H
    clear H
    have H := H1
    clear H1
    simp only [Option.some.injEq, Prod.mk.injEq] at H
    obtain ⟨rfl, rfl⟩ := H
    go_enter Try.func29, Try.ntmps29
    go_wp2_with (first | ((with_reducible refine gate_dst (N := 1) rfl ?_); refine box_event ?hg (N := 1) ?hd (cs := #[.int .i64 a0_0, .int .i64 a0_1, .int .i64 a0_2, .int .i64 a0_3, .int .i64 a0_4]) (t := 39) ?hr ?_; (case hd => rfl); (case hg => rfl); (case hr => first | (go_simp; done) | (go_simp; rfl)); intro gb146 hg w15 hbox hb; have n0_ := Aside0.mk (below_step (by repeat (first | (with_reducible first | exact HB.out | apply below_alloc | apply pw_below_drewN | apply below_drew1) | exact HB.out)) hb); have n1_ := Aside0.mk (hbox); have n2_ := Aside0.mk ((by rw [hg]; exact (below_size (by repeat (first | (with_reducible first | exact HB.out | apply below_alloc | apply pw_below_drewN | apply below_drew1) | exact HB.out))) : w.heap.size ≤ gb146)); have n3_ := Aside0.mk ((by rw [hg]; exact (below_size (by repeat (first | (with_reducible first | exact HB.out | apply below_alloc | apply pw_below_drewN | apply below_drew1) | exact HB.out))) : w.heap.size ≤ gb146)); clear HB; have HB := n0_; have BK146 := n1_; have GW146 := n2_; have GE146 := n3_; clear n0_ n1_ n2_ n3_; clear hb hbox hg; have hcz16_0 : w15.cell? ⟨gb146, 0, none⟩ = some (.int .i64 a0_0) := (blk_cell BK146.out 0).trans rfl; have hcz16_1 : w15.cell? ⟨gb146, 1, none⟩ = some (.int .i64 a0_1) := (blk_cell BK146.out 1).trans rfl; have hcz16_2 : w15.cell? ⟨gb146, 2, none⟩ = some (.int .i64 a0_2) := (blk_cell BK146.out 2).trans rfl; have hcz16_3 : w15.cell? ⟨gb146, 3, none⟩ = some (.int .i64 a0_3) := (blk_cell BK146.out 3).trans rfl; have hcz16_4 : w15.cell? ⟨gb146, 4, none⟩ = some (.int .i64 a0_4) := (blk_cell BK146.out 4).trans rfl; have hfz16_0 := blk_frozen BK146.out 0; have hfz16_1 := blk_frozen BK146.out 1; have hfz16_2 := blk_frozen BK146.out 2; have hfz16_3 := blk_frozen BK146.out 3; have hfz16_4 := blk_frozen BK146.out 4) | ((with_reducible refine gate_callee (f := 35) rfl ?_); refine goesL_ (some 7) rfl rfl Try.func35 (by kernel_rfl) rfl #[.agg #[.int .i64 a0_0, .int .i64 a0_1, .int .i64 a0_2, .int .i64 a0_3, .int .i64 a0_4]] rfl (by (try simp only [List.map_toArray, List.map_cons, List.map_nil]); first | done | rfl | (simp only [List.length_drop, List.length_take]; rfl)) ?_; (with_reducible refine (inst_Right.calls k a0_0 a0_1 a0_2 a0_3 a0_4 false _ A2.out).mono ?_); rintro e w17 ⟨rfl, hb⟩; refine ⟨_, rfl, ?_⟩; have n0_ := Aside0.mk (blk_below (g := gb146) (o := .cells #[.int .i64 a0_0, .int .i64 a0_1, .int .i64 a0_2, .int .i64 a0_3, .int .i64 a0_4] 39 (0, 0)) (by (with_reducible repeat (first | refine blk_drewN ?_ _ | refine blk_drew ?_ | refine blk_alloc ?_ _)); exact BK146.out) hb); have n1_ := Aside0.mk (below_step (by repeat (first | (with_reducible first | exact HB.out | apply below_alloc | apply pw_below_drewN | apply below_drew1 | refine below_set ?_ GE146.out) | exact HB.out)) hb); clear BK146; clear HB; have BK146 := n0_; have HB := n1_; clear n0_ n1_; (try clear hb); (try clear hb2); (try clear hk); (try clear hi)))
    go_ret2
    exact ⟨by first | rfl | (simp [errW_none, errW_some] <;> rfl) | (simp [*, errW_none, errW_some] <;> rfl), by repeat (first | (with_reducible first | exact HB.out | apply below_alloc | apply pw_below_drewN | apply below_drew1 | refine below_set ?_ GE146.out) | exact HB.out)⟩
end Go.Proofs.Ytecbponmpinnoaa.P
end
section
namespace Go.Proofs.Ytecbponmpinnoaa.P
open Go.RowKit Go.Proofs.YtecbponmpinnoaaW.PrintWords Go.Proofs.YtecbponmpinnoaaW.PrintLast Go.Proofs.YtecbponmpinnoaaW.PrintMore
attribute [local go_sem] max2_int min2_int max_two min_two max_three min_three max_four min_four   
set_option linter.unusedVariables false
set_option linter.unusedSimpArgs false
set_option linter.unusedVariables false
set_option linter.unusedSimpArgs false
def asm_Assemble.l0 : Nat → List S41 → Nat → Option Bool
  | 0, _, _ => none
  | k + 1, xs, i => if i < xs.length then
      (asm_Right.f k (rd_T41 xs i).f0 (rd_T41 xs i).f1.f0 (rd_T41 xs i).f1.f1 (rd_T41 xs i).f1.f2 (rd_T41 xs i).f1.f3 (rd_T41 xs i).f1.f4 (rd_T41 xs i).f2).bind fun b => if b = true then asm_Assemble.l0 k xs (i + 1) else some false
    else some true
def asm_Assemble.l2 : Nat → List S39 → List Int → Nat → Option (List Int)
  | 0, _, _, _ => none
  | k + 1, own, out, j => if j < own.length then
      (if out.length < 1000000000 then (inst_Encode.f k (rd_T39 own j).f0 (rd_T39 own j).f1 (rd_T39 own j).f2 (rd_T39 own j).f3 (rd_T39 own j).f4).bind fun r => asm_Assemble.l2 k own (out ++ [r.1]) (j + 1) else none)
    else some out
def asm_Assemble.l1 : Nat → List S41 → List Bool → List Int → List Int → List Int → Nat → Option (Option (List Int))
  | 0, _, _, _, _, _, _ => none
  | k + 1, xs, far, at_, lab, out, i => if i < xs.length then
      (asm_insts.f k xs far at_ lab i).bind fun q => if q.2 = true then (asm_Assemble.l2 k q.1 out 0).bind fun o => asm_Assemble.l1 k xs far at_ lab o (i + 1) else some none
    else some (some out)
def asm_Assemble.f (k : Nat) (xs : List S41) : Option (List Int × List Int × Int) :=
  if 32768 < xs.length then some ([], [], 2) else
  (asm_Assemble.l0 k xs 0).bind fun b => if b = true then
    ((asm_labels.f k xs).bind fun e => if e.1 = 0 then
      ((asm_grow.l0 k xs (List.replicate xs.length false) (List.replicate (xs.length + 1) 0) (List.replicate e.2 (-1))).bind fun p =>
        (asm_Assemble.l1 k xs p.1 p.2.1 p.2.2 [] 0).bind fun q => match q with
          | some out => some (out, p.2.2, 0)
          | none => some ([], [], 7))
      else some ([], [], e.1))
    else some ([], [], 1)
theorem asm_labels.l0_mono : ∀ k xs s m i, LeO (asm_labels.l0 k xs s m i) (asm_labels.l0 (k + 1) xs s m i)
  | 0 => fun _ _ _ _ r h => by simp [asm_labels.l0] at h
  | k + 1 => fun xs s m i => by
    have ih := asm_labels.l0_mono k
    unfold asm_labels.l0
    repeat' first | exact ih _ _ _ _ | exact LeO.refl _ | refine LeO.ite ?_ ?_ | refine LeO.bind ?_ (fun _ => ?_)
theorem asm_labels.l1_mono : ∀ k xs s i, LeO (asm_labels.l1 k xs s i) (asm_labels.l1 (k + 1) xs s i)
  | 0 => fun _ _ _ r h => by simp [asm_labels.l1] at h
  | k + 1 => fun xs s i => by
    have ih := asm_labels.l1_mono k
    unfold asm_labels.l1
    repeat' first | exact ih _ _ _ | exact LeO.refl _ | refine LeO.ite ?_ ?_ | refine LeO.bind ?_ (fun _ => ?_)
theorem asm_labels.mono (k : Nat) (xs : List S41) : LeO (asm_labels.f k xs) (asm_labels.f (k + 1) xs) := by
  unfold asm_labels.f
  refine LeO.bind (asm_labels.l0_mono _ _ _ _ _) (fun p => ?_)
  cases p with
  | none => exact LeO.refl _
  | some q => exact LeO.map _ (asm_labels.l1_mono _ _ _ _)
theorem asm_place.l0_mono : ∀ k xs far at_ lab a i, LeO (asm_place.l0 k xs far at_ lab a i) (asm_place.l0 (k + 1) xs far at_ lab a i)
  | 0 => fun _ _ _ _ _ _ r h => by simp [asm_place.l0] at h
  | k + 1 => fun xs far at_ lab a i => by
    have ih := asm_place.l0_mono k
    unfold asm_place.l0
    repeat' first | exact ih _ _ _ _ _ _ | exact LeO.refl _ | refine LeO.ite ?_ ?_ | refine LeO.bind ?_ (fun _ => ?_)
theorem asm_grow.l1_mono : ∀ k xs far at_ lab gr i, LeO (asm_grow.l1 k xs far at_ lab gr i) (asm_grow.l1 (k + 1) xs far at_ lab gr i)
  | 0 => fun _ _ _ _ _ _ r h => by simp [asm_grow.l1] at h
  | k + 1 => fun xs far at_ lab gr i => by
    have ih := asm_grow.l1_mono k
    unfold asm_grow.l1
    repeat' first | exact ih _ _ _ _ _ _ | exact LeO.refl _ | refine LeO.ite ?_ ?_ | refine LeO.bind ?_ (fun _ => ?_)
theorem asm_grow.l0_mono : ∀ k xs far at_ lab, LeO (asm_grow.l0 k xs far at_ lab) (asm_grow.l0 (k + 1) xs far at_ lab)
  | 0 => fun _ _ _ _ r h => by simp [asm_grow.l0] at h
  | k + 1 => fun xs far at_ lab => by
    have ih := asm_grow.l0_mono k
    unfold asm_grow.l0
    refine LeO.bind (asm_place.l0_mono _ _ _ _ _ _ _) (fun p => LeO.bind (asm_grow.l1_mono _ _ _ _ _ _ _) (fun q => LeO.ite (ih _ _ _ _) (LeO.refl _)))
theorem asm_insts.mono (k : Nat) (xs : List S41) (far : List Bool) (at_ lab : List Int) (i : Nat) : LeO (asm_insts.f k xs far at_ lab i) (asm_insts.f (k + 1) xs far at_ lab i) := by
  unfold asm_insts.f
  repeat' first | exact LeO.refl _ | exact asm_Contrary.mono _ _ | refine LeO.ite ?_ ?_ | refine LeO.bind ?_ (fun _ => ?_)
theorem asm_Assemble.l0_mono : ∀ k xs i, LeO (asm_Assemble.l0 k xs i) (asm_Assemble.l0 (k + 1) xs i)
  | 0 => fun _ _ r h => by simp [asm_Assemble.l0] at h
  | k + 1 => fun xs i => by
    have ih := asm_Assemble.l0_mono k
    unfold asm_Assemble.l0
    repeat' first | exact ih _ _ | exact asm_Right.mono _ _ _ _ _ _ _ _ | exact LeO.refl _ | refine LeO.ite ?_ ?_ | refine LeO.bind ?_ (fun _ => ?_)
theorem asm_Assemble.l2_mono : ∀ k own out j, LeO (asm_Assemble.l2 k own out j) (asm_Assemble.l2 (k + 1) own out j)
  | 0 => fun _ _ _ r h => by simp [asm_Assemble.l2] at h
  | k + 1 => fun own out j => by
    have ih := asm_Assemble.l2_mono k
    unfold asm_Assemble.l2
    repeat' first | exact ih _ _ _ | exact inst_Encode.mono _ _ _ _ _ _ | exact LeO.refl _ | refine LeO.ite ?_ ?_ | refine LeO.bind ?_ (fun _ => ?_)
theorem asm_Assemble.l1_mono : ∀ k xs far at_ lab out i, LeO (asm_Assemble.l1 k xs far at_ lab out i) (asm_Assemble.l1 (k + 1) xs far at_ lab out i)
  | 0 => fun _ _ _ _ _ _ r h => by simp [asm_Assemble.l1] at h
  | k + 1 => fun xs far at_ lab out i => by
    have ih := asm_Assemble.l1_mono k
    unfold asm_Assemble.l1
    repeat' first | exact ih _ _ _ _ _ _ | exact asm_insts.mono _ _ _ _ _ _ | exact asm_Assemble.l2_mono _ _ _ _ | exact LeO.refl _ | refine LeO.ite ?_ ?_ | refine LeO.bind ?_ (fun _ => ?_)
theorem asm_Assemble.mono (xs : List S41) (k : Nat) : LeO (asm_Assemble.f k xs) (asm_Assemble.f (k + 1) xs) := by
  unfold asm_Assemble.f
  refine LeO.ite (LeO.refl _) (LeO.bind (asm_Assemble.l0_mono _ _ _) (fun b => LeO.ite (LeO.bind (asm_labels.mono _ _) (fun e => LeO.ite (LeO.bind (asm_grow.l0_mono _ _ _ _ _) (fun p => LeO.bind (asm_Assemble.l1_mono _ _ _ _ _ _ _) (fun q => ?_))) (LeO.refl _))) (LeO.refl _)))
  cases q <;> exact LeO.refl _
theorem own_type {α : Type} {d : Kd α} {e : Nat} {w : World} {base : Nat} {ok : Nat → Prop} {v : Value} {xs : List α} (h : d.R e w base ok v xs) {k : Nat} (hk : v.ownBlock = some k) : base ≤ k ∧ ∃ q, q ∈ e :: d.E ∧ ∃ cells, w.heap[k]? = some (.cells cells q (0, 0)) := by
  have := (Kd.R_bound h).1 k hk
  exact ⟨this.2.1, this.2.2.2⟩
theorem grown_cells {W W1 : World} {base : Nat} {ok : Nat → Prop} {v : Value} {out : List Int} (hR : Kd.R (Kd.int .u32) 35 W base ok v out) (hg : W.grownBy W1 v.ownBlock) {j : Nat} {cs : Array Value} {t : TypeId} (ht : t ≠ 35) (hj : W.heap[j]? = some (.cells cs t (0, 0))) : W1.heap[j]? = some (.cells cs t (0, 0)) := by
  rw [hg.block j (blk_lt hj) ?_, hj]
  intro he
  obtain ⟨_, q, hq, cells, hc⟩ := own_type hR he.symm
  have hq2 : q = 35 := by simpa [Kd.int, Kd.scalar] using hq
  subst hq2
  rw [hj] at hc
  simp at hc
  exact ht hc.2
theorem Sheet.row {w0 W W1 : World} {g : Nat} {A : Option Addr} {c gf ga : Nat} {lv : Value} {xs : List S41} {far : List Bool} {at_ : List Int} (h : Sheet w0 W g A c gf ga lv xs far at_) {base : Nat} {ok : Nat → Prop} {v : Value} {out : List Int} (hR : Kd.R (Kd.int .u32) 35 W base ok v out) (hb : w0.heap.size ≤ base) (hg : W.grownBy W1 v.ownBlock) : Sheet w0 W1 g A c gf ga lv xs far at_ :=
  ⟨grown_cells hR hg (by decide) h.blk, h.items, h.len, grown_cells hR hg (by decide) h.farB, h.farL, grown_cells hR hg (by decide) h.atB, h.atL,
    ⟨hg.os.trans h.bel.os, hg.tape.trans h.bel.tape, hg.output.trans h.bel.output, Nat.le_trans h.bel.size hg.size, fun k hk => (hg.block k (by have := h.bel.size; omega) (fun he => by have := (own_type hR he.symm).1; omega)).trans (h.bel.block k hk)⟩, h.gB, h.gfB, h.gaB⟩
theorem Lab.row {w0 W W1 : World} {ga gl : Nat} {lv : Value} {lab : List Int} (h : Lab w0 W ga gl lv lab) {base : Nat} {ok : Nat → Prop} {v : Value} {out : List Int} (hR : Kd.R (Kd.int .u32) 35 W base ok v out) (hg : W.grownBy W1 v.ownBlock) : Lab w0 W1 ga gl lv lab :=
  ⟨h.val, grown_cells hR hg (by decide) h.blk, h.base, h.len, h.ne⟩
theorem rows_apart {w : World} {b1 b2 : Nat} {ok1 ok2 : Nat → Prop} {v u : Value} {out : List Int} {own : List S39} (h1 : Kd.R (Kd.int .u32) 35 w b1 ok1 v out) (h2 : Kd.R k39 39 w b2 ok2 u own) (k : Nat) (hk : v.ownBlock = some k) : some k ≠ u.ownBlock := by
  intro he
  obtain ⟨_, q, hq, cells, hc⟩ := own_type h1 hk
  obtain ⟨_, q', hq', cells', hc'⟩ := own_type h2 he.symm
  have hq2 : q = 35 := by simpa [Kd.int, Kd.scalar] using hq
  have hq3 : q' ∈ [39] := hq'
  have hq4 : q' = 39 := by simpa using hq3
  subst hq2 hq4
  rw [hc] at hc'
  simp at hc'
theorem own_len {α : Type} {d : Kd α} {e : Nat} {w : World} {base : Nat} {ok : Nat → Prop} {v : Value} {xs : List α} (h : d.R e w base ok v xs) : xs.length ≤ 9223372036854775807 := by
  obtain ⟨_, inner, ⟨_, h⟩, _⟩ := h
  rcases h with ⟨_, h⟩ | ⟨g, cap, cur, _, _, _, h1, h2, _⟩
  · omega
  · have : maxLen = 9223372036854775807 := rfl
    omega
theorem new_sheet {w wr : World} {A : Option Addr} {c : Nat} {xs : List S41} (hI : Kd.C k41 w A xs.length xs) (hl : xs.length ≤ 32768) (hb : Below w.heap.size w wr) {W : World} {g gf ga : Nat} (hW : Below wr.heap.size wr W) (h1 : W.heap[g]? = some (.cells #[.slice A xs.length c, .slice (some ⟨gf, 0, none⟩) xs.length xs.length, .slice (some ⟨ga, 0, none⟩) (xs.length + 1) (xs.length + 1), .slice none 0 0] 65 (0, 0))) (h2 : W.heap[gf]? = some (.cells (zeroBools xs.length) 4 (0, 0))) (h3 : W.heap[ga]? = some (.cells (zeroInts (xs.length + 1)) 3 (0, 0))) (hg : wr.heap.size ≤ g) (hgf : wr.heap.size ≤ gf) (hga : wr.heap.size ≤ ga) : Sheet w W g A c gf ga (.slice none 0 0) xs (List.replicate xs.length false) (List.replicate (xs.length + 1) 0) :=
  ⟨h1, hI, hl, h2, by simp, h3, by simp, below_then hb hb.size hW, Nat.le_trans hb.size hg, Nat.le_trans hb.size hgf, Nat.le_trans hb.size hga⟩
theorem heap_third (w : World) (o1 o2 o3 : Obj) : (((w.alloc o1).alloc o2).alloc o3).heap[w.heap.size + 1 + 1]? = some o3 ∧ (((w.alloc o1).alloc o2).alloc o3).heap[w.heap.size + 1]? = some o2 ∧ (((w.alloc o1).alloc o2).alloc o3).heap[w.heap.size]? = some o1 := by
  refine ⟨?_, ?_, ?_⟩
  · have h := heap_alloc_last ((w.alloc o1).alloc o2) o3
    simpa using h
  · rw [heap_alloc_old _ _ (by simp)]
    exact heap_second w o1 o2
  · rw [heap_alloc_old _ _ (by simp; omega), heap_alloc_old _ _ (by simp)]
    exact heap_alloc_last w o1
theorem lab_row {w W : World} {ga gl : Nat} {lv : Value} {lab : List Int} (h : Lab w W ga gl lv lab) : Kd.R (Kd.int .i64) 3 W w.heap.size (fun _ => True) (.slice (some ⟨gl, 0, none⟩) lab.length lab.length) lab :=
  ⟨fun _ _ => trivial, lab.map (Value.int .i64), ⟨by simp [Kd.int, Kd.scalar], Or.inr ⟨gl, lab.length, _, rfl, h.base, h.blk, Nat.le_refl _, by have := h.len; have : maxLen = 9223372036854775807 := rfl; omega, by simp [Kd.int, Kd.scalar], by simp [Kd.int, Kd.scalar, List.take_of_length_le]⟩⟩, ⟨by simp [Kd.int, Kd.scalar], fun j p hj => by
    show List.take 1 (List.drop (j * 1) (lab.map (Value.int .i64))) = [Value.int .i64 p]
    rw [Nat.mul_one, List.take_one, List.head?_drop, List.getElem?_map, hj]
    rfl⟩⟩
theorem info_u32 : (Try.prog.info? 35).map (fun i => (i.zero, i.size, i.bytes)) = some (some (.int .u32 0), 1, 4) := by kernel_rfl
set_option maxHeartbeats 1000000 in
set_option maxRecDepth 100000 in
theorem asm_Assemble.calls (k : Nat) (A0 : Option Addr) (c0 : Nat) (l0 : List (S41)) (r1 : List Int) (r2 : List Int) (r3 : Int) (w : World) (hr0 : Kd.C k41 w A0 l0.length l0) (hc0 : l0.length ≤ c0) (h : asm_Assemble.f k l0 = some (r1, r2, r3)) :
    Calls Try.prog 10 #[.slice A0 l0.length c0] w fun e w' => ∃ v0_ v1_ : Value, e = .returned (.tuple #[v0_, v1_, .int .i64 r3]) ∧ Kd.R (Kd.int .u32) 35 w' w.heap.size (fun _ => True) v0_ r1 ∧ Kd.R (Kd.int .i64) 3 w' w.heap.size (fun _ => True) v1_ r2 ∧ Below w.heap.size w w' := by
  have hu41 := Try.underlying41
  have hu39 := Try.underlying39
  have hu65 := Try.underlying65
  have HI := Aside0.mk hr0
  have hlI : ∀ ad, A0 = some ad → 0 < l0.length → True := fun _ _ _ => trivial
  clear hlI hr0
  simp only [asm_Assemble.f] at h
  by_cases kl : 32768 < l0.length
  · rw [if_pos kl] at h
    simp only [Option.some.injEq, Prod.mk.injEq] at h
    obtain ⟨rfl, rfl, rfl⟩ := h
    have kl2 : (32768 : Int) < (l0.length : Int) := by omega
    go_enter Try.func10, Try.ntmps10
    go_wp2
    go_ret3
    exact ⟨_, _, rfl, Kd.R_nil _ _ _ _ _, Kd.R_nil _ _ _ _ _, Below.refl _ _⟩
  rw [if_neg kl] at h
  have kl2 : ¬ (32768 : Int) < (l0.length : Int) := by omega
  replace h := Option.bind_eq_some_iff.mp h
  obtain ⟨rb, hrb, h⟩ := h
  have H := Aside0.mk hrb
  have HR := Aside0.mk h
  clear h hrb
  go_enter Try.func10, Try.ntmps10
  go_wp2
  go_loopw [22] (fun v22 wr => ∃ (kq i : Nat), v22 = .int .i64 (i : Int) ∧ i ≤ l0.length ∧ Aside0 (asm_Assemble.l0 kq l0 i = some rb) ∧ Aside0 (Below w.heap.size w wr)) (fun v22 _ => l0.length - (intOf v22).toNat)
  case atStart => exact ⟨k, 0, rfl, by omega, H, ⟨Below.refl _ _⟩⟩
  case round =>
    clear H
    obtain ⟨kq, i, rfl, hi, H, HB⟩ := hrel
    cases kq with
    | zero => exact absurd H.out (by simp [asm_Assemble.l0])
    | succ kq =>
    have h0 := H.out
    clear H
    simp only [asm_Assemble.l0] at h0
    by_cases hlt : i < l0.length
    · rw [if_pos hlt] at h0
      obtain ⟨ad, rfl, e0, e1, e2, e3, e4, e5, e6⟩ := at_T41 (Kd.C_below HI.out HB.out) (i : Int) (by omega) (by omega)
      simp only [Int.toNat_natCast] at e0 e1 e2 e3 e4 e5 e6
      generalize rd_T41 l0 i = x at *
      obtain ⟨x0, ⟨y0, y1, y2, y3, y4⟩, x2⟩ := x
      dsimp only at e0 e1 e2 e3 e4 e5 e6 h0
      replace h0 := Option.bind_eq_some_iff.mp h0
      obtain ⟨b, hb, h0⟩ := h0
      have HQ := Aside0.mk hb
      clear hb
      cases b with
      | false =>
        rw [if_neg (by simp)] at h0
        obtain rfl := Option.some.inj h0
        have h1 := HR.out
        rw [if_neg (by simp)] at h1
        simp only [Option.some.injEq, Prod.mk.injEq] at h1
        obtain ⟨rfl, rfl, rfl⟩ := h1
        clear HR
        go_wp2_with (go_at_call 14; refine (asm_Right.calls kq x0 y0 y1 y2 y3 y4 x2 false _ HQ.out).mono ?_; rintro e w3 ⟨rfl, hb3⟩; have HB3 := Aside0.mk hb3; clear hb3)
        go_ret3
        exact ⟨_, _, rfl, Kd.R_nil _ _ _ _ _, Kd.R_nil _ _ _ _ _, below_then (below_alloc HB.out _) (by have := HB.out.size; simp; omega) HB3.out⟩
      | true =>
        rw [if_pos rfl] at h0
        have H := Aside0.mk h0
        clear h0
        go_wp2_with (go_at_call 14; refine (asm_Right.calls kq x0 y0 y1 y2 y3 y4 x2 true _ HQ.out).mono ?_; rintro e w3 ⟨rfl, hb3⟩; have HB3 := Aside0.mk hb3; clear hb3)
        exact ⟨⟨kq, i + 1, by go_num, by omega, H, ⟨below_then (below_alloc HB.out _) (by have := HB.out.size; simp; omega) HB3.out⟩⟩, by simp [intOf]; omega⟩
    · rw [if_neg hlt] at h0
      obtain rfl := Option.some.inj h0
      clear h0
      have h1 := HR.out
      clear HR
      rw [if_pos rfl] at h1
      replace h1 := Option.bind_eq_some_iff.mp h1
      obtain ⟨⟨er, n⟩, he, h1⟩ := h1
      have HE := Aside0.mk he
      have HR := Aside0.mk h1
      clear he h1
      have hmb := fun W => make_bool W l0.length (by omega)
      have hmi : ∀ W : World, (Instr.makeSlice 26 (.int .i64 ((l0.length : Int) + 1)) (.int .i64 ((l0.length : Int) + 1))).run Try.prog W = .ok (.slice (some ⟨W.heap.size, 0, none⟩) (l0.length + 1) (l0.length + 1)) (W.alloc (.cells (zeroInts (l0.length + 1)) 3)) := fun W => make_int W (l0.length + 1) (by omega)
      have hlen : l0.length ≤ 32768 := by omega
      go_wp2
      go_region
      (have HS := Aside0.mk (new_sheet (c := c0) (g := wr.heap.size + 1 + 1) (gf := wr.heap.size) (ga := wr.heap.size + 1) HI.out hlen HB.out (below_drew (below_alloc (below_alloc (below_alloc (Below.refl _ _) (.cells (zeroBools l0.length) 4)) (.cells (zeroInts (l0.length + 1)) 3)) (.cells #[.slice A0 l0.length c0, .slice (some ⟨wr.heap.size, 0, none⟩) l0.length l0.length, .slice (some ⟨wr.heap.size + 1, 0, none⟩) (l0.length + 1) (l0.length + 1), .slice none 0 0] 65))) (heap_third wr _ _ _).1 (heap_third wr _ _ _).2.2 (heap_third wr _ _ _).2.1 (by omega) (by omega) (by omega)); generalize ((((wr.alloc (.cells (zeroBools l0.length) 4)).alloc (.cells (zeroInts (l0.length + 1)) 3)).alloc (.cells #[.slice A0 l0.length c0, .slice (some ⟨wr.heap.size, 0, none⟩) l0.length l0.length, .slice (some ⟨wr.heap.size + 1, 0, none⟩) (l0.length + 1) (l0.length + 1), .slice none 0 0] 65)).drew) = W at HS ⊢; generalize wr.heap.size + 1 + 1 = g at HS ⊢; generalize wr.heap.size + 1 = ga at HS ⊢; generalize wr.heap.size = gf at HS ⊢)
      rotate_left 1
      (have HS := Aside0.mk (new_sheet (c := c0) (g := wr.heap.size + 1 + 1) (gf := wr.heap.size + 1) (ga := wr.heap.size) HI.out hlen HB.out (below_drew (below_alloc (below_alloc (below_alloc (Below.refl _ _) (.cells (zeroInts (l0.length + 1)) 3)) (.cells (zeroBools l0.length) 4)) (.cells #[.slice A0 l0.length c0, .slice (some ⟨wr.heap.size + 1, 0, none⟩) l0.length l0.length, .slice (some ⟨wr.heap.size, 0, none⟩) (l0.length + 1) (l0.length + 1), .slice none 0 0] 65))) (heap_third wr _ _ _).1 (heap_third wr _ _ _).2.1 (heap_third wr _ _ _).2.2 (by omega) (by omega) (by omega)); generalize ((((wr.alloc (.cells (zeroInts (l0.length + 1)) 3)).alloc (.cells (zeroBools l0.length) 4)).alloc (.cells #[.slice A0 l0.length c0, .slice (some ⟨wr.heap.size + 1, 0, none⟩) l0.length l0.length, .slice (some ⟨wr.heap.size, 0, none⟩) (l0.length + 1) (l0.length + 1), .slice none 0 0] 65)).drew) = W at HS ⊢; generalize wr.heap.size + 1 + 1 = g at HS ⊢; generalize wr.heap.size + 1 = gf at HS ⊢; generalize wr.heap.size = ga at HS ⊢)
      rotate_right 1
      all_goals
        clear HB HI hmb hmi hlt hi
        by_cases ke : er = 0
        · subst ke
          have h1 := HR.out
          clear HR
          rw [if_pos rfl] at h1
          replace h1 := Option.bind_eq_some_iff.mp h1
          obtain ⟨⟨far, at_, lab⟩, hgr, h1⟩ := h1
          have HG := Aside0.mk hgr
          have HR := Aside0.mk h1
          clear hgr h1
          go_wp2_with (first | (go_at_call 26; refine (asm_labels.calls k w _ g A0 c0 gf ga _ l0 _ _ HS.out 0 n HE.out).mono ?_; rintro e w3 ⟨rfl, lv, hS3, hL3⟩; obtain ⟨gl, hL3⟩ := hL3 rfl; clear HS; have HS := Aside0.mk hS3; have HL := Aside0.mk hL3; clear hS3 hL3) | (go_at_call 27; refine (asm_grow.calls k w _ g A0 c0 gf ga gl _ l0 _ _ _ HS.out HL.out _ _ _ HG.out).mono ?_; rintro e w4 ⟨rfl, hS4, hL4⟩; clear HS HL; have HS := Aside0.mk hS4; have HL := Aside0.mk hL4; clear hS4 hL4))
          have h1 := HR.out
          clear HR
          replace h1 := Option.bind_eq_some_iff.mp h1
          obtain ⟨q, hq, h1⟩ := h1
          have H := Aside0.mk hq
          have HR := Aside0.mk h1
          clear hq h1 HG HE
          go_loopw [9, 49] (fun v9 v49 wr => ∃ (kq i : Nat) (out : List Int), v49 = .int .i64 (i : Int) ∧ i ≤ l0.length ∧ Aside0 (asm_Assemble.l1 kq l0 far at_ lab out i = some q) ∧ Aside0 (Sheet w wr g A0 c0 gf ga lv l0 far at_) ∧ Aside0 (Lab w wr ga gl lv lab) ∧ Aside0 (Kd.R (Kd.int .u32) 35 wr w.heap.size (fun _ => True) v9 out)) (fun _ v49 _ => l0.length - (intOf v49).toNat)
          case atStart => exact ⟨k, 0, [], rfl, by omega, H, HS, HL, ⟨Kd.R_nil _ _ _ _ _⟩⟩
          case round =>
            clear H HS HL
            obtain ⟨kq, i, out, rfl, hi, H, HS, HL, HO⟩ := hrel
            cases kq with
            | zero => exact absurd H.out (by simp [asm_Assemble.l1])
            | succ kq =>
            have h0 := H.out
            clear H
            simp only [asm_Assemble.l1] at h0
            have l1 := blk_lt HS.out.blk
            by_cases hlt : i < l0.length
            · rw [if_pos hlt] at h0
              replace h0 := Option.bind_eq_some_iff.mp h0
              obtain ⟨⟨own, is⟩, hin, h0⟩ := h0
              have HIN := Aside0.mk hin
              clear hin
              cases is with
              | false =>
                rw [if_neg (by simp)] at h0
                obtain rfl := Option.some.inj h0
                have h1 := HR.out
                clear HR h0
                simp only [Option.some.injEq, Prod.mk.injEq] at h1
                obtain ⟨rfl, rfl, rfl⟩ := h1
                go_wp2_with (go_at_call 28; refine (asm_insts.calls kq w _ g A0 c0 gf ga gl lv l0 far at_ lab HS.out HL.out i hlt own false HIN.out).mono ?_; rintro e w5 ⟨vo, rfl, ho5, hb5⟩; have HB5 := Aside0.mk hb5; clear hb5 ho5)
                go_ret3
                exact ⟨_, _, rfl, Kd.R_nil _ _ _ _ _, Kd.R_nil _ _ _ _ _, (HS.out.below HB5.out).bel⟩
              | true =>
                rw [if_pos rfl] at h0
                replace h0 := Option.bind_eq_some_iff.mp h0
                obtain ⟨o, ho, h0⟩ := h0
                have H := Aside0.mk h0
                have HJ := Aside0.mk ho
                clear h0 ho
                have hw0 := HS.out.bel.size
                go_wp2_with (go_at_call 28; refine (asm_insts.calls kq w _ g A0 c0 gf ga gl lv l0 far at_ lab HS.out HL.out i hlt own true HIN.out).mono ?_; rintro e w5 ⟨vo, rfl, ho5, hb5⟩; obtain ⟨Ao, co, rfl, hco, _⟩ := Kd.R_reads ho5; have HS5 := Aside0.mk (HS.out.below hb5); have HL5 := Aside0.mk (HL.out.below hb5); have HO5 := Aside0.mk (Kd.R_below HO.out hb5); have HW := Aside0.mk (Kd.R_lower ho5 hw0); clear hb5 ho5)
                go_loopw [9, 62] (fun v9 v62 wq => ∃ (kp j : Nat) (oj : List Int), v62 = .int .i64 (j : Int) ∧ j ≤ own.length ∧ Aside0 (asm_Assemble.l2 kp own oj j = some o) ∧ Aside0 (Sheet w wq g A0 c0 gf ga lv l0 far at_) ∧ Aside0 (Lab w wq ga gl lv lab) ∧ Aside0 (Kd.R (Kd.int .u32) 35 wq w.heap.size (fun _ => True) v9 oj) ∧ Aside0 (Kd.R k39 39 wq w.heap.size (fun _ => True) (.slice Ao own.length co) own)) (fun _ v62 _ => own.length - (intOf v62).toNat)
                case atStart => exact ⟨kq, 0, out, rfl, by omega, HJ, HS5, HL5, HO5, HW⟩
                case round =>
                  clear HJ HS5 HL5 HO5 HW HO HS HL l1 hw0
                  obtain ⟨kp, j, oj, rfl, hj, HJ, HS, HL, HO, HW⟩ := hrel
                  cases kp with
                  | zero => exact absurd HJ.out (by simp [asm_Assemble.l2])
                  | succ kp =>
                  have h0 := HJ.out
                  clear HJ
                  simp only [asm_Assemble.l2] at h0
                  have hw0 := HS.out.bel.size
                  by_cases hjl : j < own.length
                  · rw [if_pos hjl] at h0
                    by_cases hol : oj.length < 1000000000
                    · rw [if_pos hol] at h0
                      obtain ⟨Ao2, co2, he2, _, hC⟩ := Kd.R_reads HW.out
                      cases he2
                      have hol2 := own_len HW.out
                      obtain ⟨ad, rfl, e0, e1, e2, e3, e4⟩ := at_T39 hC (j : Int) (by omega) (by omega)
                      clear hC
                      simp only [Int.toNat_natCast] at e0 e1 e2 e3 e4
                      generalize rd_T39 own j = x at *
                      obtain ⟨y0, y1, y2, y3, y4⟩ := x
                      dsimp only at e0 e1 e2 e3 e4 h0
                      replace h0 := Option.bind_eq_some_iff.mp h0
                      obtain ⟨⟨re, rr⟩, hre, h0⟩ := h0
                      have HQ := Aside0.mk hre
                      have HJ := Aside0.mk h0
                      clear hre h0
                      go_wp2_with (first | (go_at_call 29; refine (inst_Encode.calls kp y0 y1 y2 y3 y4 re rr _ HQ.out).mono ?_; rintro e w6 ⟨rfl, hb6⟩; have HS6 := Aside0.mk ((HS.out.below (below_alloc (Below.refl _ _) _)).below hb6); have HL6 := Aside0.mk ((HL.out.below (below_alloc (Below.refl _ _) _)).below hb6); have HO6 := Aside0.mk (Kd.R_below (Kd.R_alloc HO.out _) hb6); have HW6 := Aside0.mk (Kd.R_below (Kd.R_alloc HW.out _) hb6); clear hb6) | ((with_reducible refine gate_builtin (b := .append) (xs := #[.tmp 71, .tmp 73]) rfl ?_); at_builtin; refine Kd.R_append (Kd.int .u32) (w0 := w) w.heap.size rfl (.tmp 71) (.tmp 73) 25 35 (.int .u32 0) 4 rfl Try.underlying25 info_u32 rfl (by decide) (by omega) _ oj re [.int .u32 re] (fun _ => True) (fun _ => False) rfl rfl ?aP (fun _ hk => hk.elim) ?aF ?aO ?aB ?aS ?aL ?_; (case aP => exact rfl); (case aB => exact HS6.out.bel); (case aF => exact (fun _ _ => trivial)); (case aO => exact HO6.out); (case aS => exact HS6.out.bel.size); (case aL => omega); intro v7 w7 ho hb hg hat; have HS7 := Aside0.mk (HS6.out.row HO6.out (Nat.le_refl _) hg); have HL7 := Aside0.mk (HL6.out.row HO6.out hg); have HO7 := Aside0.mk ho; have HW7 := Aside0.mk (Kd.R_grown2 HW6.out rfl hg (rows_apart HO6.out HW6.out)); clear ho hb hg hat HS6 HL6 HO6 HW6))
                      exact ⟨⟨kp, j + 1, _, by go_num, by omega, HJ, HS7, HL7, HO7, HW7⟩, by simp [intOf]; omega⟩
                    · rw [if_neg hol] at h0
                      cases h0
                  · rw [if_neg hjl] at h0
                    obtain rfl := Option.some.inj h0
                    clear h0
                    go_wp2
                    exact ⟨⟨kq, i + 1, oj, by go_num, by omega, H, HS, HL, HO⟩, by simp [intOf]; omega⟩
            · rw [if_neg hlt] at h0
              obtain rfl := Option.some.inj h0
              have h1 := HR.out
              clear HR h0
              simp only [Option.some.injEq, Prod.mk.injEq] at h1
              obtain ⟨rfl, rfl, rfl⟩ := h1
              have s3 := blk_cell HS.out.blk 3
              simp only [List.getElem?_toArray, List.getElem?_cons_zero, List.getElem?_cons_succ] at s3
              go_wp2
              go_region
              all_goals go_wp2
              go_ret3
              have hv := HL.out.val
              subst hv
              exact ⟨_, _, rfl, Kd.R_drew HO.out, lab_row HL.out.drew, below_drew HS.out.bel⟩
        · have h1 := HR.out
          clear HR
          rw [if_neg ke] at h1
          simp only [Option.some.injEq, Prod.mk.injEq] at h1
          obtain ⟨rfl, rfl, rfl⟩ := h1
          have be : (er == 0) = false := by simp [ke]
          go_wp2_with (go_at_call 26; refine (asm_labels.calls k w _ g A0 c0 gf ga _ l0 _ _ HS.out er n HE.out).mono ?_; rintro e w3 ⟨rfl, lv, hS3, _⟩; clear HS; have HS := Aside0.mk hS3; clear hS3)
          go_ret3
          exact ⟨_, _, rfl, Kd.R_nil _ _ _ _ _, Kd.R_nil _ _ _ _ _, HS.out.bel⟩
def asm_Inst.f (a0 : Int) (a1 : Int) (a2 : Int) (a3 : Int) (a4 : Int) : Option (Int × Int × Int × Int × Int × Int × Int) := some (1, a0, a1, a2, a3, a4, 0)
set_option maxHeartbeats 8000000 in
set_option maxRecDepth 100000 in
theorem asm_Inst.calls (a0 : Int) (a1 : Int) (a2 : Int) (a3 : Int) (a4 : Int) (r1 : Int) (r2 : Int) (r3 : Int) (r4 : Int) (r5 : Int) (r6 : Int) (r7 : Int) (w : World) (h : asm_Inst.f a0 a1 a2 a3 a4 = some (r1, r2, r3, r4, r5, r6, r7)) :
    Calls Try.prog 13 #[.int .i64 a0, .int .i64 a1, .int .i64 a2, .int .i64 a3, .int .i64 a4] w fun e w' => e = .returned (.agg #[.int .i64 r1, .int .i64 r2, .int .i64 r3, .int .i64 r4, .int .i64 r5, .int .i64 r6, .int .i64 r7]) ∧ Below w.heap.size w w' := by
  have hu41 := Try.underlying41
  have hu39 := Try.underlying39
  have HB := Aside0.mk (Below.refl w.heap.size w)
  have H : (some (1, a0, a1, a2, a3, a4, 0)) = some (r1, r2, r3, r4, r5, r6, r7) := h
  clear h
  simp only [Option.some.injEq, Prod.mk.injEq] at H
  obtain ⟨rfl, rfl, rfl, rfl, rfl, rfl, rfl⟩ := H
  go_enter Try.func13, Try.ntmps13
  go_wp2_with (first | ((with_reducible refine gate_dst (N := 10) rfl ?_); refine box_event ?hg (N := 10) ?hd (cs := #[.int .i64 0, .int .i64 0, .int .i64 0, .int .i64 0, .int .i64 0, .int .i64 0, .int .i64 0]) (t := 41) ?hr ?_; (case hd => rfl); (case hg => rfl); (case hr => first | (go_simp; done) | (go_simp; rfl)); intro gb155 hg w6 hbox hb; have n0_ := Aside0.mk (below_step (by repeat (first | (with_reducible first | exact HB.out | apply below_alloc | apply pw_below_drewN | apply below_drew1) | exact HB.out)) hb); have n1_ := Aside0.mk (hbox); have n2_ := Aside0.mk ((by rw [hg]; exact (below_size (by repeat (first | (with_reducible first | exact HB.out | apply below_alloc | apply pw_below_drewN | apply below_drew1) | exact HB.out))) : w.heap.size ≤ gb155)); have n3_ := Aside0.mk ((by rw [hg]; exact (below_size (by repeat (first | (with_reducible first | exact HB.out | apply below_alloc | apply pw_below_drewN | apply below_drew1) | exact HB.out))) : w.heap.size ≤ gb155)); clear HB; have HB := n0_; have BK155 := n1_; have GW155 := n2_; have GE155 := n3_; clear n0_ n1_ n2_ n3_; clear hb hbox hg; have hcz7_0 : w6.cell? ⟨gb155, 0, none⟩ = some (.int .i64 0) := (blk_cell BK155.out 0).trans rfl; have hcz7_1 : w6.cell? ⟨gb155, 1, none⟩ = some (.int .i64 0) := (blk_cell BK155.out 1).trans rfl; have hcz7_2 : w6.cell? ⟨gb155, 2, none⟩ = some (.int .i64 0) := (blk_cell BK155.out 2).trans rfl; have hcz7_3 : w6.cell? ⟨gb155, 3, none⟩ = some (.int .i64 0) := (blk_cell BK155.out 3).trans rfl; have hcz7_4 : w6.cell? ⟨gb155, 4, none⟩ = some (.int .i64 0) := (blk_cell BK155.out 4).trans rfl; have hcz7_5 : w6.cell? ⟨gb155, 5, none⟩ = some (.int .i64 0) := (blk_cell BK155.out 5).trans rfl; have hcz7_6 : w6.cell? ⟨gb155, 6, none⟩ = some (.int .i64 0) := (blk_cell BK155.out 6).trans rfl; have hfz7_0 := blk_frozen BK155.out 0; have hfz7_1 := blk_frozen BK155.out 1; have hfz7_2 := blk_frozen BK155.out 2; have hfz7_3 := blk_frozen BK155.out 3; have hfz7_4 := blk_frozen BK155.out 4; have hfz7_5 := blk_frozen BK155.out 5; have hfz7_6 := blk_frozen BK155.out 6))
  refine bodyPost_ret (results_cell_row rfl _ _ gb155 41 #[.int .i64 1, .int .i64 a0, .int .i64 a1, .int .i64 a2, .int .i64 a3, .int .i64 a4, .int .i64 0] (0, 0) _ rfl (by (with_reducible repeat (first | refine blk_drewN ?_ _ | refine blk_drew ?_ | refine blk_alloc ?_ _)); refine blk_put (cs := #[.int .i64 1, .int .i64 a0, .int .i64 a1, .int .i64 a2, .int .i64 a3, .int .i64 a4, .int .i64 0]) ?_ 6 _ rfl; (with_reducible repeat (first | refine blk_drewN ?_ _ | refine blk_drew ?_ | refine blk_alloc ?_ _)); refine blk_put (cs := #[.int .i64 1, .int .i64 a0, .int .i64 a1, .int .i64 a2, .int .i64 a3, .int .i64 0, .int .i64 0]) ?_ 5 _ rfl; (with_reducible repeat (first | refine blk_drewN ?_ _ | refine blk_drew ?_ | refine blk_alloc ?_ _)); refine blk_put (cs := #[.int .i64 1, .int .i64 a0, .int .i64 a1, .int .i64 a2, .int .i64 0, .int .i64 0, .int .i64 0]) ?_ 4 _ rfl; (with_reducible repeat (first | refine blk_drewN ?_ _ | refine blk_drew ?_ | refine blk_alloc ?_ _)); refine blk_put (cs := #[.int .i64 1, .int .i64 a0, .int .i64 a1, .int .i64 0, .int .i64 0, .int .i64 0, .int .i64 0]) ?_ 3 _ rfl; (with_reducible repeat (first | refine blk_drewN ?_ _ | refine blk_drew ?_ | refine blk_alloc ?_ _)); refine blk_put (cs := #[.int .i64 1, .int .i64 a0, .int .i64 0, .int .i64 0, .int .i64 0, .int .i64 0, .int .i64 0]) ?_ 2 _ rfl; (with_reducible repeat (first | refine blk_drewN ?_ _ | refine blk_drew ?_ | refine blk_alloc ?_ _)); refine blk_put (cs := #[.int .i64 1, .int .i64 0, .int .i64 0, .int .i64 0, .int .i64 0, .int .i64 0, .int .i64 0]) ?_ 1 _ rfl; (with_reducible repeat (first | refine blk_drewN ?_ _ | refine blk_drew ?_ | refine blk_alloc ?_ _)); refine blk_put (cs := #[.int .i64 0, .int .i64 0, .int .i64 0, .int .i64 0, .int .i64 0, .int .i64 0, .int .i64 0]) ?_ 0 _ rfl; (with_reducible repeat (first | refine blk_drewN ?_ _ | refine blk_drew ?_ | refine blk_alloc ?_ _)); exact BK155.out) Try.underlying41 rfl (by kernel_rfl)) rfl ?_
  exact ⟨by first | rfl | (simp [errW_none, errW_some] <;> rfl) | (simp [*, errW_none, errW_some] <;> rfl), by repeat (first | (with_reducible first | exact HB.out | apply below_alloc | apply pw_below_drewN | apply below_drew1 | refine below_set ?_ GE155.out) | exact HB.out)⟩
def asm_Const.f (a0 : Int) (a1 : Int) : Option (Int × Int × Int × Int × Int × Int × Int) := some (5, 0, a0, 0, 0, wrap64 (a1), 0)
set_option maxHeartbeats 8000000 in
set_option maxRecDepth 100000 in
theorem asm_Const.calls (a0 : Int) (a1 : Int) (r1 : Int) (r2 : Int) (r3 : Int) (r4 : Int) (r5 : Int) (r6 : Int) (r7 : Int) (w : World) (h : asm_Const.f a0 a1 = some (r1, r2, r3, r4, r5, r6, r7)) :
    Calls Try.prog 18 #[.int .i64 a0, .int .u32 a1] w fun e w' => e = .returned (.agg #[.int .i64 r1, .int .i64 r2, .int .i64 r3, .int .i64 r4, .int .i64 r5, .int .i64 r6, .int .i64 r7]) ∧ Below w.heap.size w w' := by
  have hu41 := Try.underlying41
  have hu39 := Try.underlying39
  have HB := Aside0.mk (Below.refl w.heap.size w)
  have H : (some (5, 0, a0, 0, 0, wrap64 (a1), 0)) = some (r1, r2, r3, r4, r5, r6, r7) := h
  clear h
  simp only [Option.some.injEq, Prod.mk.injEq] at H
  obtain ⟨rfl, rfl, rfl, rfl, rfl, rfl, rfl⟩ := H
  go_enter Try.func18, Try.ntmps18
  go_wp2_with (first | ((with_reducible refine gate_dst (N := 4) rfl ?_); refine box_event ?hg (N := 4) ?hd (cs := #[.int .i64 0, .int .i64 0, .int .i64 0, .int .i64 0, .int .i64 0, .int .i64 0, .int .i64 0]) (t := 41) ?hr ?_; (case hd => rfl); (case hg => rfl); (case hr => first | (go_simp; done) | (go_simp; rfl)); intro gb156 hg w3 hbox hb; have n0_ := Aside0.mk (below_step (by repeat (first | (with_reducible first | exact HB.out | apply below_alloc | apply pw_below_drewN | apply below_drew1) | exact HB.out)) hb); have n1_ := Aside0.mk (hbox); have n2_ := Aside0.mk ((by rw [hg]; exact (below_size (by repeat (first | (with_reducible first | exact HB.out | apply below_alloc | apply pw_below_drewN | apply below_drew1) | exact HB.out))) : w.heap.size ≤ gb156)); have n3_ := Aside0.mk ((by rw [hg]; exact (below_size (by repeat (first | (with_reducible first | exact HB.out | apply below_alloc | apply pw_below_drewN | apply below_drew1) | exact HB.out))) : w.heap.size ≤ gb156)); clear HB; have HB := n0_; have BK156 := n1_; have GW156 := n2_; have GE156 := n3_; clear n0_ n1_ n2_ n3_; clear hb hbox hg; have hcz4_0 : w3.cell? ⟨gb156, 0, none⟩ = some (.int .i64 0) := (blk_cell BK156.out 0).trans rfl; have hcz4_1 : w3.cell? ⟨gb156, 1, none⟩ = some (.int .i64 0) := (blk_cell BK156.out 1).trans rfl; have hcz4_2 : w3.cell? ⟨gb156, 2, none⟩ = some (.int .i64 0) := (blk_cell BK156.out 2).trans rfl; have hcz4_3 : w3.cell? ⟨gb156, 3, none⟩ = some (.int .i64 0) := (blk_cell BK156.out 3).trans rfl; have hcz4_4 : w3.cell? ⟨gb156, 4, none⟩ = some (.int .i64 0) := (blk_cell BK156.out 4).trans rfl; have hcz4_5 : w3.cell? ⟨gb156, 5, none⟩ = some (.int .i64 0) := (blk_cell BK156.out 5).trans rfl; have hcz4_6 : w3.cell? ⟨gb156, 6, none⟩ = some (.int .i64 0) := (blk_cell BK156.out 6).trans rfl; have hfz4_0 := blk_frozen BK156.out 0; have hfz4_1 := blk_frozen BK156.out 1; have hfz4_2 := blk_frozen BK156.out 2; have hfz4_3 := blk_frozen BK156.out 3; have hfz4_4 := blk_frozen BK156.out 4; have hfz4_5 := blk_frozen BK156.out 5; have hfz4_6 := blk_frozen BK156.out 6))
  refine bodyPost_ret (results_cell_row rfl _ _ gb156 41 #[.int .i64 5, .int .i64 0, .int .i64 a0, .int .i64 0, .int .i64 0, .int .i64 (wrap64 (a1)), .int .i64 0] (0, 0) _ rfl (by (with_reducible repeat (first | refine blk_drewN ?_ _ | refine blk_drew ?_ | refine blk_alloc ?_ _)); refine blk_put (cs := #[.int .i64 5, .int .i64 0, .int .i64 a0, .int .i64 0, .int .i64 0, .int .i64 (wrap64 (a1)), .int .i64 0]) ?_ 6 _ rfl; (with_reducible repeat (first | refine blk_drewN ?_ _ | refine blk_drew ?_ | refine blk_alloc ?_ _)); refine blk_put (cs := #[.int .i64 5, .int .i64 0, .int .i64 a0, .int .i64 0, .int .i64 0, .int .i64 0, .int .i64 0]) ?_ 5 _ rfl; (with_reducible repeat (first | refine blk_drewN ?_ _ | refine blk_drew ?_ | refine blk_alloc ?_ _)); refine blk_put (cs := #[.int .i64 5, .int .i64 0, .int .i64 a0, .int .i64 0, .int .i64 0, .int .i64 0, .int .i64 0]) ?_ 4 _ rfl; (with_reducible repeat (first | refine blk_drewN ?_ _ | refine blk_drew ?_ | refine blk_alloc ?_ _)); refine blk_put (cs := #[.int .i64 5, .int .i64 0, .int .i64 a0, .int .i64 0, .int .i64 0, .int .i64 0, .int .i64 0]) ?_ 3 _ rfl; (with_reducible repeat (first | refine blk_drewN ?_ _ | refine blk_drew ?_ | refine blk_alloc ?_ _)); refine blk_put (cs := #[.int .i64 5, .int .i64 0, .int .i64 0, .int .i64 0, .int .i64 0, .int .i64 0, .int .i64 0]) ?_ 2 _ rfl; (with_reducible repeat (first | refine blk_drewN ?_ _ | refine blk_drew ?_ | refine blk_alloc ?_ _)); refine blk_put (cs := #[.int .i64 5, .int .i64 0, .int .i64 0, .int .i64 0, .int .i64 0, .int .i64 0, .int .i64 0]) ?_ 1 _ rfl; (with_reducible repeat (first | refine blk_drewN ?_ _ | refine blk_drew ?_ | refine blk_alloc ?_ _)); refine blk_put (cs := #[.int .i64 0, .int .i64 0, .int .i64 0, .int .i64 0, .int .i64 0, .int .i64 0, .int .i64 0]) ?_ 0 _ rfl; (with_reducible repeat (first | refine blk_drewN ?_ _ | refine blk_drew ?_ | refine blk_alloc ?_ _)); exact BK156.out) Try.underlying41 rfl (by kernel_rfl)) rfl ?_
  exact ⟨by first | rfl | (simp [errW_none, errW_some] <;> rfl) | (simp [*, errW_none, errW_some] <;> rfl), by repeat (first | (with_reducible first | exact HB.out | apply below_alloc | apply pw_below_drewN | apply below_drew1 | refine below_set ?_ GE156.out) | exact HB.out)⟩
def asm_Label.f (a0 : Int) : Option (Int × Int × Int × Int × Int × Int × Int) := some (2, 0, 0, 0, 0, 0, a0)
set_option maxHeartbeats 8000000 in
set_option maxRecDepth 100000 in
theorem asm_Label.calls (a0 : Int) (r1 : Int) (r2 : Int) (r3 : Int) (r4 : Int) (r5 : Int) (r6 : Int) (r7 : Int) (w : World) (h : asm_Label.f a0 = some (r1, r2, r3, r4, r5, r6, r7)) :
    Calls Try.prog 19 #[.int .i64 a0] w fun e w' => e = .returned (.agg #[.int .i64 r1, .int .i64 r2, .int .i64 r3, .int .i64 r4, .int .i64 r5, .int .i64 r6, .int .i64 r7]) ∧ Below w.heap.size w w' := by
  have hu41 := Try.underlying41
  have HB := Aside0.mk (Below.refl w.heap.size w)
  have H : (some (2, 0, 0, 0, 0, 0, a0)) = some (r1, r2, r3, r4, r5, r6, r7) := h
  clear h
  simp only [Option.some.injEq, Prod.mk.injEq] at H
  obtain ⟨rfl, rfl, rfl, rfl, rfl, rfl, rfl⟩ := H
  go_enter Try.func19, Try.ntmps19
  go_wp2_with (first | ((with_reducible refine gate_dst (N := 2) rfl ?_); refine box_event ?hg (N := 2) ?hd (cs := #[.int .i64 0, .int .i64 0, .int .i64 0, .int .i64 0, .int .i64 0, .int .i64 0, .int .i64 0]) (t := 41) ?hr ?_; (case hd => rfl); (case hg => rfl); (case hr => first | (go_simp; done) | (go_simp; rfl)); intro gb157 hg w2 hbox hb; have n0_ := Aside0.mk (below_step (by repeat (first | (with_reducible first | exact HB.out | apply below_alloc | apply pw_below_drewN | apply below_drew1) | exact HB.out)) hb); have n1_ := Aside0.mk (hbox); have n2_ := Aside0.mk ((by rw [hg]; exact (below_size (by repeat (first | (with_reducible first | exact HB.out | apply below_alloc | apply pw_below_drewN | apply below_drew1) | exact HB.out))) : w.heap.size ≤ gb157)); have n3_ := Aside0.mk ((by rw [hg]; exact (below_size (by repeat (first | (with_reducible first | exact HB.out | apply below_alloc | apply pw_below_drewN | apply below_drew1) | exact HB.out))) : w.heap.size ≤ gb157)); clear HB; have HB := n0_; have BK157 := n1_; have GW157 := n2_; have GE157 := n3_; clear n0_ n1_ n2_ n3_; clear hb hbox hg; have hcz3_0 : w2.cell? ⟨gb157, 0, none⟩ = some (.int .i64 0) := (blk_cell BK157.out 0).trans rfl; have hcz3_1 : w2.cell? ⟨gb157, 1, none⟩ = some (.int .i64 0) := (blk_cell BK157.out 1).trans rfl; have hcz3_2 : w2.cell? ⟨gb157, 2, none⟩ = some (.int .i64 0) := (blk_cell BK157.out 2).trans rfl; have hcz3_3 : w2.cell? ⟨gb157, 3, none⟩ = some (.int .i64 0) := (blk_cell BK157.out 3).trans rfl; have hcz3_4 : w2.cell? ⟨gb157, 4, none⟩ = some (.int .i64 0) := (blk_cell BK157.out 4).trans rfl; have hcz3_5 : w2.cell? ⟨gb157, 5, none⟩ = some (.int .i64 0) := (blk_cell BK157.out 5).trans rfl; have hcz3_6 : w2.cell? ⟨gb157, 6, none⟩ = some (.int .i64 0) := (blk_cell BK157.out 6).trans rfl; have hfz3_0 := blk_frozen BK157.out 0; have hfz3_1 := blk_frozen BK157.out 1; have hfz3_2 := blk_frozen BK157.out 2; have hfz3_3 := blk_frozen BK157.out 3; have hfz3_4 := blk_frozen BK157.out 4; have hfz3_5 := blk_frozen BK157.out 5; have hfz3_6 := blk_frozen BK157.out 6))
  refine bodyPost_ret (results_cell_row rfl _ _ gb157 41 #[.int .i64 2, .int .i64 0, .int .i64 0, .int .i64 0, .int .i64 0, .int .i64 0, .int .i64 a0] (0, 0) _ rfl (by (with_reducible repeat (first | refine blk_drewN ?_ _ | refine blk_drew ?_ | refine blk_alloc ?_ _)); refine blk_put (cs := #[.int .i64 2, .int .i64 0, .int .i64 0, .int .i64 0, .int .i64 0, .int .i64 0, .int .i64 0]) ?_ 6 _ rfl; (with_reducible repeat (first | refine blk_drewN ?_ _ | refine blk_drew ?_ | refine blk_alloc ?_ _)); refine blk_put (cs := #[.int .i64 2, .int .i64 0, .int .i64 0, .int .i64 0, .int .i64 0, .int .i64 0, .int .i64 0]) ?_ 5 _ rfl; (with_reducible repeat (first | refine blk_drewN ?_ _ | refine blk_drew ?_ | refine blk_alloc ?_ _)); refine blk_put (cs := #[.int .i64 2, .int .i64 0, .int .i64 0, .int .i64 0, .int .i64 0, .int .i64 0, .int .i64 0]) ?_ 4 _ rfl; (with_reducible repeat (first | refine blk_drewN ?_ _ | refine blk_drew ?_ | refine blk_alloc ?_ _)); refine blk_put (cs := #[.int .i64 2, .int .i64 0, .int .i64 0, .int .i64 0, .int .i64 0, .int .i64 0, .int .i64 0]) ?_ 3 _ rfl; (with_reducible repeat (first | refine blk_drewN ?_ _ | refine blk_drew ?_ | refine blk_alloc ?_ _)); refine blk_put (cs := #[.int .i64 2, .int .i64 0, .int .i64 0, .int .i64 0, .int .i64 0, .int .i64 0, .int .i64 0]) ?_ 2 _ rfl; (with_reducible repeat (first | refine blk_drewN ?_ _ | refine blk_drew ?_ | refine blk_alloc ?_ _)); refine blk_put (cs := #[.int .i64 2, .int .i64 0, .int .i64 0, .int .i64 0, .int .i64 0, .int .i64 0, .int .i64 0]) ?_ 1 _ rfl; (with_reducible repeat (first | refine blk_drewN ?_ _ | refine blk_drew ?_ | refine blk_alloc ?_ _)); refine blk_put (cs := #[.int .i64 0, .int .i64 0, .int .i64 0, .int .i64 0, .int .i64 0, .int .i64 0, .int .i64 0]) ?_ 0 _ rfl; (with_reducible repeat (first | refine blk_drewN ?_ _ | refine blk_drew ?_ | refine blk_alloc ?_ _)); exact BK157.out) Try.underlying41 rfl (by kernel_rfl)) rfl ?_
  exact ⟨by first | rfl | (simp [errW_none, errW_some] <;> rfl) | (simp [*, errW_none, errW_some] <;> rfl), by repeat (first | (with_reducible first | exact HB.out | apply below_alloc | apply pw_below_drewN | apply below_drew1 | refine below_set ?_ GE157.out) | exact HB.out)⟩
def asm_Branch.f (a0 : Int) (a1 : Int) (a2 : Int) (a3 : Int) : Option (Int × Int × Int × Int × Int × Int × Int) := some (3, a0, 0, a1, a2, 0, a3)
set_option maxHeartbeats 8000000 in
set_option maxRecDepth 100000 in
theorem asm_Branch.calls (a0 : Int) (a1 : Int) (a2 : Int) (a3 : Int) (r1 : Int) (r2 : Int) (r3 : Int) (r4 : Int) (r5 : Int) (r6 : Int) (r7 : Int) (w : World) (h : asm_Branch.f a0 a1 a2 a3 = some (r1, r2, r3, r4, r5, r6, r7)) :
    Calls Try.prog 20 #[.int .i64 a0, .int .i64 a1, .int .i64 a2, .int .i64 a3] w fun e w' => e = .returned (.agg #[.int .i64 r1, .int .i64 r2, .int .i64 r3, .int .i64 r4, .int .i64 r5, .int .i64 r6, .int .i64 r7]) ∧ Below w.heap.size w w' := by
  have hu41 := Try.underlying41
  have hu39 := Try.underlying39
  have HB := Aside0.mk (Below.refl w.heap.size w)
  have H : (some (3, a0, 0, a1, a2, 0, a3)) = some (r1, r2, r3, r4, r5, r6, r7) := h
  clear h
  simp only [Option.some.injEq, Prod.mk.injEq] at H
  obtain ⟨rfl, rfl, rfl, rfl, rfl, rfl, rfl⟩ := H
  go_enter Try.func20, Try.ntmps20
  go_wp2_with (first | ((with_reducible refine gate_dst (N := 8) rfl ?_); refine box_event ?hg (N := 8) ?hd (cs := #[.int .i64 0, .int .i64 0, .int .i64 0, .int .i64 0, .int .i64 0, .int .i64 0, .int .i64 0]) (t := 41) ?hr ?_; (case hd => rfl); (case hg => rfl); (case hr => first | (go_simp; done) | (go_simp; rfl)); intro gb158 hg w5 hbox hb; have n0_ := Aside0.mk (below_step (by repeat (first | (with_reducible first | exact HB.out | apply below_alloc | apply pw_below_drewN | apply below_drew1) | exact HB.out)) hb); have n1_ := Aside0.mk (hbox); have n2_ := Aside0.mk ((by rw [hg]; exact (below_size (by repeat (first | (with_reducible first | exact HB.out | apply below_alloc | apply pw_below_drewN | apply below_drew1) | exact HB.out))) : w.heap.size ≤ gb158)); have n3_ := Aside0.mk ((by rw [hg]; exact (below_size (by repeat (first | (with_reducible first | exact HB.out | apply below_alloc | apply pw_below_drewN | apply below_drew1) | exact HB.out))) : w.heap.size ≤ gb158)); clear HB; have HB := n0_; have BK158 := n1_; have GW158 := n2_; have GE158 := n3_; clear n0_ n1_ n2_ n3_; clear hb hbox hg; have hcz6_0 : w5.cell? ⟨gb158, 0, none⟩ = some (.int .i64 0) := (blk_cell BK158.out 0).trans rfl; have hcz6_1 : w5.cell? ⟨gb158, 1, none⟩ = some (.int .i64 0) := (blk_cell BK158.out 1).trans rfl; have hcz6_2 : w5.cell? ⟨gb158, 2, none⟩ = some (.int .i64 0) := (blk_cell BK158.out 2).trans rfl; have hcz6_3 : w5.cell? ⟨gb158, 3, none⟩ = some (.int .i64 0) := (blk_cell BK158.out 3).trans rfl; have hcz6_4 : w5.cell? ⟨gb158, 4, none⟩ = some (.int .i64 0) := (blk_cell BK158.out 4).trans rfl; have hcz6_5 : w5.cell? ⟨gb158, 5, none⟩ = some (.int .i64 0) := (blk_cell BK158.out 5).trans rfl; have hcz6_6 : w5.cell? ⟨gb158, 6, none⟩ = some (.int .i64 0) := (blk_cell BK158.out 6).trans rfl; have hfz6_0 := blk_frozen BK158.out 0; have hfz6_1 := blk_frozen BK158.out 1; have hfz6_2 := blk_frozen BK158.out 2; have hfz6_3 := blk_frozen BK158.out 3; have hfz6_4 := blk_frozen BK158.out 4; have hfz6_5 := blk_frozen BK158.out 5; have hfz6_6 := blk_frozen BK158.out 6))
  refine bodyPost_ret (results_cell_row rfl _ _ gb158 41 #[.int .i64 3, .int .i64 a0, .int .i64 0, .int .i64 a1, .int .i64 a2, .int .i64 0, .int .i64 a3] (0, 0) _ rfl (by (with_reducible repeat (first | refine blk_drewN ?_ _ | refine blk_drew ?_ | refine blk_alloc ?_ _)); refine blk_put (cs := #[.int .i64 3, .int .i64 a0, .int .i64 0, .int .i64 a1, .int .i64 a2, .int .i64 0, .int .i64 0]) ?_ 6 _ rfl; (with_reducible repeat (first | refine blk_drewN ?_ _ | refine blk_drew ?_ | refine blk_alloc ?_ _)); refine blk_put (cs := #[.int .i64 3, .int .i64 a0, .int .i64 0, .int .i64 a1, .int .i64 a2, .int .i64 0, .int .i64 0]) ?_ 5 _ rfl; (with_reducible repeat (first | refine blk_drewN ?_ _ | refine blk_drew ?_ | refine blk_alloc ?_ _)); refine blk_put (cs := #[.int .i64 3, .int .i64 a0, .int .i64 0, .int .i64 a1, .int .i64 0, .int .i64 0, .int .i64 0]) ?_ 4 _ rfl; (with_reducible repeat (first | refine blk_drewN ?_ _ | refine blk_drew ?_ | refine blk_alloc ?_ _)); refine blk_put (cs := #[.int .i64 3, .int .i64 a0, .int .i64 0, .int .i64 0, .int .i64 0, .int .i64 0, .int .i64 0]) ?_ 3 _ rfl; (with_reducible repeat (first | refine blk_drewN ?_ _ | refine blk_drew ?_ | refine blk_alloc ?_ _)); refine blk_put (cs := #[.int .i64 3, .int .i64 a0, .int .i64 0, .int .i64 0, .int .i64 0, .int .i64 0, .int .i64 0]) ?_ 2 _ rfl; (with_reducible repeat (first | refine blk_drewN ?_ _ | refine blk_drew ?_ | refine blk_alloc ?_ _)); refine blk_put (cs := #[.int .i64 3, .int .i64 0, .int .i64 0, .int .i64 0, .int .i64 0, .int .i64 0, .int .i64 0]) ?_ 1 _ rfl; (with_reducible repeat (first | refine blk_drewN ?_ _ | refine blk_drew ?_ | refine blk_alloc ?_ _)); refine blk_put (cs := #[.int .i64 0, .int .i64 0, .int .i64 0, .int .i64 0, .int .i64 0, .int .i64 0, .int .i64 0]) ?_ 0 _ rfl; (with_reducible repeat (first | refine blk_drewN ?_ _ | refine blk_drew ?_ | refine blk_alloc ?_ _)); exact BK158.out) Try.underlying41 rfl (by kernel_rfl)) rfl ?_
  exact ⟨by first | rfl | (simp [errW_none, errW_some] <;> rfl) | (simp [*, errW_none, errW_some] <;> rfl), by repeat (first | (with_reducible first | exact HB.out | apply below_alloc | apply pw_below_drewN | apply below_drew1 | refine below_set ?_ GE158.out) | exact HB.out)⟩
def rushlightlaw05_awake.f (k : Nat)  : Option (Bool) := (asm_Label.f 0).bind fun bt159 => ((asm_Inst.f 19 1 1 0 (-1)).bind fun bt166 => ((asm_Branch.f 6 1 0 0).bind fun bt173 => ((asm_Assemble.f k (([(⟨bt159.1, (⟨bt159.2.1, bt159.2.2.1, bt159.2.2.2.1, bt159.2.2.2.2.1, bt159.2.2.2.2.2.1⟩ : S39), bt159.2.2.2.2.2.2⟩ : S41), (⟨bt166.1, (⟨bt166.2.1, bt166.2.2.1, bt166.2.2.2.1, bt166.2.2.2.2.1, bt166.2.2.2.2.2.1⟩ : S39), bt166.2.2.2.2.2.2⟩ : S41), (⟨bt173.1, (⟨bt173.2.1, bt173.2.2.1, bt173.2.2.2.1, bt173.2.2.2.2.1, bt173.2.2.2.2.2.1⟩ : S39), bt173.2.2.2.2.2.2⟩ : S41)] : List (S41)))).bind fun bt183 => ((asm_Const.f 5 305419896).bind fun bt190 => ((asm_Assemble.f k (([(⟨bt190.1, (⟨bt190.2.1, bt190.2.2.1, bt190.2.2.2.1, bt190.2.2.2.2.1, bt190.2.2.2.2.2.1⟩ : S39), bt190.2.2.2.2.2.2⟩ : S41)] : List (S41)))).bind fun bt200 => (if bt183.2.2 = 0 then (if bt200.2.2 = 0 then (if (bt183.1.length : Int) = 2 then (if 1 < (bt183.1.length : Int) then (if (rd bt183.1 1) = 4261453539 then (if (bt183.2.1.length : Int) = 1 then (if 0 < (bt183.2.1.length : Int) then (if (rd bt183.2.1 0) = 0 then (if (bt200.1.length : Int) = 2 then (if 0 < (bt200.1.length : Int) then (if (rd bt200.1 0) = 305418935 then (if 1 < (bt200.1.length : Int) then (some ((rd bt200.1 1) == 1736606355)) else (none)) else (some false)) else (none)) else (some false)) else (some false)) else (none)) else (some false)) else (some false)) else (none)) else (some false)) else (some false)) else (some false)))))))
theorem rushlightlaw05_awake.mono : ∀ k, LeO (rushlightlaw05_awake.f k ) (rushlightlaw05_awake.f (k + 1) ) := by
  intro  k
  unfold rushlightlaw05_awake.f
  repeat' first
      | (with_reducible exact asm_Assemble.mono _ _)
      | (with_reducible exact LeO.refl _)
      | (with_reducible exact LeO.none _)
      | (with_reducible refine LeO.ite ?_ ?_)
      | (with_reducible refine LeO.bind ?_ (fun _ => ?_))
      | exact asm_Assemble.mono _ _
      | exact LeO.none _
      | refine LeO.ite ?_ ?_
      | refine LeO.bind ?_ (fun _ => ?_)
set_option maxHeartbeats 8000000 in
set_option maxRecDepth 100000 in
theorem rushlightlaw05_awake.calls (k : Nat)  (r : Bool) (w : World) (h : rushlightlaw05_awake.f k  = some r) :
    Calls Try.prog 8 #[] w fun e w' => e = .returned (.bool r) ∧ Below w.heap.size w w' := by
  have HB := Aside0.mk (Below.refl w.heap.size w)
  have H : ((asm_Label.f 0).bind fun bt159 => ((asm_Inst.f 19 1 1 0 (-1)).bind fun bt166 => ((asm_Branch.f 6 1 0 0).bind fun bt173 => ((asm_Assemble.f k (([(⟨bt159.1, (⟨bt159.2.1, bt159.2.2.1, bt159.2.2.2.1, bt159.2.2.2.2.1, bt159.2.2.2.2.2.1⟩ : S39), bt159.2.2.2.2.2.2⟩ : S41), (⟨bt166.1, (⟨bt166.2.1, bt166.2.2.1, bt166.2.2.2.1, bt166.2.2.2.2.1, bt166.2.2.2.2.2.1⟩ : S39), bt166.2.2.2.2.2.2⟩ : S41), (⟨bt173.1, (⟨bt173.2.1, bt173.2.2.1, bt173.2.2.2.1, bt173.2.2.2.2.1, bt173.2.2.2.2.2.1⟩ : S39), bt173.2.2.2.2.2.2⟩ : S41)] : List (S41)))).bind fun bt183 => ((asm_Const.f 5 305419896).bind fun bt190 => ((asm_Assemble.f k (([(⟨bt190.1, (⟨bt190.2.1, bt190.2.2.1, bt190.2.2.2.1, bt190.2.2.2.2.1, bt190.2.2.2.2.2.1⟩ : S39), bt190.2.2.2.2.2.2⟩ : S41)] : List (S41)))).bind fun bt200 => (if bt183.2.2 = 0 then (if bt200.2.2 = 0 then (if (bt183.1.length : Int) = 2 then (if 1 < (bt183.1.length : Int) then (if (rd bt183.1 1) = 4261453539 then (if (bt183.2.1.length : Int) = 1 then (if 0 < (bt183.2.1.length : Int) then (if (rd bt183.2.1 0) = 0 then (if (bt200.1.length : Int) = 2 then (if 0 < (bt200.1.length : Int) then (if (rd bt200.1 0) = 305418935 then (if 1 < (bt200.1.length : Int) then (some ((rd bt200.1 1) == 1736606355)) else (none)) else (some false)) else (none)) else (some false)) else (some false)) else (none)) else (some false)) else (some false)) else (none)) else (some false)) else (some false)) else (some false)))))))) = some r := h
  clear h
  replace H := Option.bind_eq_some_iff.mp H
  obtain ⟨⟨t159, t160, t161, t162, t163, t164, t165⟩, A10, H⟩ := H
  replace H : ((asm_Inst.f 19 1 1 0 (-1)).bind fun bt166 => ((asm_Branch.f 6 1 0 0).bind fun bt173 => ((asm_Assemble.f k (([(⟨t159, (⟨t160, t161, t162, t163, t164⟩ : S39), t165⟩ : S41), (⟨bt166.1, (⟨bt166.2.1, bt166.2.2.1, bt166.2.2.2.1, bt166.2.2.2.2.1, bt166.2.2.2.2.2.1⟩ : S39), bt166.2.2.2.2.2.2⟩ : S41), (⟨bt173.1, (⟨bt173.2.1, bt173.2.2.1, bt173.2.2.2.1, bt173.2.2.2.2.1, bt173.2.2.2.2.2.1⟩ : S39), bt173.2.2.2.2.2.2⟩ : S41)] : List (S41)))).bind fun bt183 => ((asm_Const.f 5 305419896).bind fun bt190 => ((asm_Assemble.f k (([(⟨bt190.1, (⟨bt190.2.1, bt190.2.2.1, bt190.2.2.2.1, bt190.2.2.2.2.1, bt190.2.2.2.2.2.1⟩ : S39), bt190.2.2.2.2.2.2⟩ : S41)] : List (S41)))).bind fun bt200 => (if bt183.2.2 = 0 then (if bt200.2.2 = 0 then (if (bt183.1.length : Int) = 2 then (if 1 < (bt183.1.length : Int) then (if (rd bt183.1 1) = 4261453539 then (if (bt183.2.1.length : Int) = 1 then (if 0 < (bt183.2.1.length : Int) then (if (rd bt183.2.1 0) = 0 then (if (bt200.1.length : Int) = 2 then (if 0 < (bt200.1.length : Int) then (if (rd bt200.1 0) = 305418935 then (if 1 < (bt200.1.length : Int) then (some ((rd bt200.1 1) == 1736606355)) else (none)) else (some false)) else (none)) else (some false)) else (some false)) else (none)) else (some false)) else (some false)) else (none)) else (some false)) else (some false)) else (some false))))))) = some r := H
  have A1 := Aside0.mk A10
  clear A10
  replace H := Option.bind_eq_some_iff.mp H
  obtain ⟨⟨t166, t167, t168, t169, t170, t171, t172⟩, A20, H⟩ := H
  replace H : ((asm_Branch.f 6 1 0 0).bind fun bt173 => ((asm_Assemble.f k (([(⟨t159, (⟨t160, t161, t162, t163, t164⟩ : S39), t165⟩ : S41), (⟨t166, (⟨t167, t168, t169, t170, t171⟩ : S39), t172⟩ : S41), (⟨bt173.1, (⟨bt173.2.1, bt173.2.2.1, bt173.2.2.2.1, bt173.2.2.2.2.1, bt173.2.2.2.2.2.1⟩ : S39), bt173.2.2.2.2.2.2⟩ : S41)] : List (S41)))).bind fun bt183 => ((asm_Const.f 5 305419896).bind fun bt190 => ((asm_Assemble.f k (([(⟨bt190.1, (⟨bt190.2.1, bt190.2.2.1, bt190.2.2.2.1, bt190.2.2.2.2.1, bt190.2.2.2.2.2.1⟩ : S39), bt190.2.2.2.2.2.2⟩ : S41)] : List (S41)))).bind fun bt200 => (if bt183.2.2 = 0 then (if bt200.2.2 = 0 then (if (bt183.1.length : Int) = 2 then (if 1 < (bt183.1.length : Int) then (if (rd bt183.1 1) = 4261453539 then (if (bt183.2.1.length : Int) = 1 then (if 0 < (bt183.2.1.length : Int) then (if (rd bt183.2.1 0) = 0 then (if (bt200.1.length : Int) = 2 then (if 0 < (bt200.1.length : Int) then (if (rd bt200.1 0) = 305418935 then (if 1 < (bt200.1.length : Int) then (some ((rd bt200.1 1) == 1736606355)) else (none)) else (some false)) else (none)) else (some false)) else (some false)) else (none)) else (some false)) else (some false)) else (none)) else (some false)) else (some false)) else (some false)))))) = some r := H
  have A2 := Aside0.mk A20
  clear A20
  replace H := Option.bind_eq_some_iff.mp H
  obtain ⟨⟨t173, t174, t175, t176, t177, t178, t179⟩, A30, H⟩ := H
  replace H : ((asm_Assemble.f k (([(⟨t159, (⟨t160, t161, t162, t163, t164⟩ : S39), t165⟩ : S41), (⟨t166, (⟨t167, t168, t169, t170, t171⟩ : S39), t172⟩ : S41), (⟨t173, (⟨t174, t175, t176, t177, t178⟩ : S39), t179⟩ : S41)] : List (S41)))).bind fun bt183 => ((asm_Const.f 5 305419896).bind fun bt190 => ((asm_Assemble.f k (([(⟨bt190.1, (⟨bt190.2.1, bt190.2.2.1, bt190.2.2.2.1, bt190.2.2.2.2.1, bt190.2.2.2.2.2.1⟩ : S39), bt190.2.2.2.2.2.2⟩ : S41)] : List (S41)))).bind fun bt200 => (if bt183.2.2 = 0 then (if bt200.2.2 = 0 then (if (bt183.1.length : Int) = 2 then (if 1 < (bt183.1.length : Int) then (if (rd bt183.1 1) = 4261453539 then (if (bt183.2.1.length : Int) = 1 then (if 0 < (bt183.2.1.length : Int) then (if (rd bt183.2.1 0) = 0 then (if (bt200.1.length : Int) = 2 then (if 0 < (bt200.1.length : Int) then (if (rd bt200.1 0) = 305418935 then (if 1 < (bt200.1.length : Int) then (some ((rd bt200.1 1) == 1736606355)) else (none)) else (some false)) else (none)) else (some false)) else (some false)) else (none)) else (some false)) else (some false)) else (none)) else (some false)) else (some false)) else (some false))))) = some r := H
  have A3 := Aside0.mk A30
  clear A30
  obtain ⟨y180, hy180⟩ : ∃ y_ : List (S41), y_ = (([(⟨t159, (⟨t160, t161, t162, t163, t164⟩ : S39), t165⟩ : S41), (⟨t166, (⟨t167, t168, t169, t170, t171⟩ : S39), t172⟩ : S41), (⟨t173, (⟨t174, t175, t176, t177, t178⟩ : S39), t179⟩ : S41)] : List (S41))) := ⟨_, rfl⟩
  replace H : ((asm_Assemble.f k y180).bind fun bt183 => ((asm_Const.f 5 305419896).bind fun bt190 => ((asm_Assemble.f k (([(⟨bt190.1, (⟨bt190.2.1, bt190.2.2.1, bt190.2.2.2.1, bt190.2.2.2.2.1, bt190.2.2.2.2.2.1⟩ : S39), bt190.2.2.2.2.2.2⟩ : S41)] : List (S41)))).bind fun bt200 => (if bt183.2.2 = 0 then (if bt200.2.2 = 0 then (if (bt183.1.length : Int) = 2 then (if 1 < (bt183.1.length : Int) then (if (rd bt183.1 1) = 4261453539 then (if (bt183.2.1.length : Int) = 1 then (if 0 < (bt183.2.1.length : Int) then (if (rd bt183.2.1 0) = 0 then (if (bt200.1.length : Int) = 2 then (if 0 < (bt200.1.length : Int) then (if (rd bt200.1 0) = 305418935 then (if 1 < (bt200.1.length : Int) then (some ((rd bt200.1 1) == 1736606355)) else (none)) else (some false)) else (none)) else (some false)) else (some false)) else (none)) else (some false)) else (some false)) else (none)) else (some false)) else (some false)) else (some false))))) = some r := by first | (rw [hy180]; with_reducible exact H) | (have H2_ := (Option.bind_some _ _).symm.trans H; rw [hy180]; with_reducible exact H2_) | (have H2_ := (Option.bind_some _ _).symm.trans H; with_reducible exact H2_) | with_reducible exact H | (rw [hy180]; exact H) | exact H
  have Ny180 := Aside0.mk hy180
  clear hy180
  replace H := Option.bind_eq_some_iff.mp H
  obtain ⟨⟨t183, t184, t185⟩, A40, H⟩ := H
  replace H : ((asm_Const.f 5 305419896).bind fun bt190 => ((asm_Assemble.f k (([(⟨bt190.1, (⟨bt190.2.1, bt190.2.2.1, bt190.2.2.2.1, bt190.2.2.2.2.1, bt190.2.2.2.2.2.1⟩ : S39), bt190.2.2.2.2.2.2⟩ : S41)] : List (S41)))).bind fun bt200 => (if t185 = 0 then (if bt200.2.2 = 0 then (if (t183.length : Int) = 2 then (if 1 < (t183.length : Int) then (if (rd t183 1) = 4261453539 then (if (t184.length : Int) = 1 then (if 0 < (t184.length : Int) then (if (rd t184 0) = 0 then (if (bt200.1.length : Int) = 2 then (if 0 < (bt200.1.length : Int) then (if (rd bt200.1 0) = 305418935 then (if 1 < (bt200.1.length : Int) then (some ((rd bt200.1 1) == 1736606355)) else (none)) else (some false)) else (none)) else (some false)) else (some false)) else (none)) else (some false)) else (some false)) else (none)) else (some false)) else (some false)) else (some false)))) = some r := H
  have A4 := Aside0.mk A40
  clear A40
  replace H := Option.bind_eq_some_iff.mp H
  obtain ⟨⟨t190, t191, t192, t193, t194, t195, t196⟩, A50, H⟩ := H
  replace H : ((asm_Assemble.f k (([(⟨t190, (⟨t191, t192, t193, t194, t195⟩ : S39), t196⟩ : S41)] : List (S41)))).bind fun bt200 => (if t185 = 0 then (if bt200.2.2 = 0 then (if (t183.length : Int) = 2 then (if 1 < (t183.length : Int) then (if (rd t183 1) = 4261453539 then (if (t184.length : Int) = 1 then (if 0 < (t184.length : Int) then (if (rd t184 0) = 0 then (if (bt200.1.length : Int) = 2 then (if 0 < (bt200.1.length : Int) then (if (rd bt200.1 0) = 305418935 then (if 1 < (bt200.1.length : Int) then (some ((rd bt200.1 1) == 1736606355)) else (none)) else (some false)) else (none)) else (some false)) else (some false)) else (none)) else (some false)) else (some false)) else (none)) else (some false)) else (some false)) else (some false))) = some r := H
  have A5 := Aside0.mk A50
  clear A50
  obtain ⟨y197, hy197⟩ : ∃ y_ : List (S41), y_ = (([(⟨t190, (⟨t191, t192, t193, t194, t195⟩ : S39), t196⟩ : S41)] : List (S41))) := ⟨_, rfl⟩
  replace H : ((asm_Assemble.f k y197).bind fun bt200 => (if t185 = 0 then (if bt200.2.2 = 0 then (if (t183.length : Int) = 2 then (if 1 < (t183.length : Int) then (if (rd t183 1) = 4261453539 then (if (t184.length : Int) = 1 then (if 0 < (t184.length : Int) then (if (rd t184 0) = 0 then (if (bt200.1.length : Int) = 2 then (if 0 < (bt200.1.length : Int) then (if (rd bt200.1 0) = 305418935 then (if 1 < (bt200.1.length : Int) then (some ((rd bt200.1 1) == 1736606355)) else (none)) else (some false)) else (none)) else (some false)) else (some false)) else (none)) else (some false)) else (some false)) else (none)) else (some false)) else (some false)) else (some false))) = some r := by first | (rw [hy197]; with_reducible exact H) | (have H2_ := (Option.bind_some _ _).symm.trans H; rw [hy197]; with_reducible exact H2_) | (have H2_ := (Option.bind_some _ _).symm.trans H; with_reducible exact H2_) | with_reducible exact H | (rw [hy197]; exact H) | exact H
  have Ny197 := Aside0.mk hy197
  clear hy197
  replace H := Option.bind_eq_some_iff.mp H
  obtain ⟨⟨t200, t201, t202⟩, A60, H⟩ := H
  replace H : (if t185 = 0 then (if t202 = 0 then (if (t183.length : Int) = 2 then (if 1 < (t183.length : Int) then (if (rd t183 1) = 4261453539 then (if (t184.length : Int) = 1 then (if 0 < (t184.length : Int) then (if (rd t184 0) = 0 then (if (t200.length : Int) = 2 then (if 0 < (t200.length : Int) then (if (rd t200 0) = 305418935 then (if 1 < (t200.length : Int) then (some ((rd t200 1) == 1736606355)) else (none)) else (some false)) else (none)) else (some false)) else (some false)) else (none)) else (some false)) else (some false)) else (none)) else (some false)) else (some false)) else (some false)) = some r := H
  have A6 := Aside0.mk A60
  clear A60
  by_cases c7 : t185 = 0
  · rw [if_pos c7] at H
    have c7b0 : (t185 == 0) = true := beq_iff_eq.mpr c7
    have c7b1 : (t185 != 0) = false := bne_eq_false_iff_eq.mpr c7
    clear c7
    by_cases c8 : t202 = 0
    · rw [if_pos c8] at H
      have c8b0 : (t202 == 0) = true := beq_iff_eq.mpr c8
      have c8b1 : (t202 != 0) = false := bne_eq_false_iff_eq.mpr c8
      clear c8
      by_cases c9 : (t183.length : Int) = 2
      · rw [if_pos c9] at H
        have c9b0 : ((t183.length : Int) == 2) = true := beq_iff_eq.mpr c9
        have c9b1 : ((t183.length : Int) != 2) = false := bne_eq_false_iff_eq.mpr c9
        clear c9
        by_cases c10 : 1 < (t183.length : Int)
        · rw [if_pos c10] at H
          have c10b0 : decide (1 < (t183.length : Int)) = true := decide_eq_true c10
          have c10b1 : decide (1 < t183.length) = true := decide_eq_true (by omega)
          clear c10
          by_cases c11 : (rd t183 1) = 4261453539
          · rw [if_pos c11] at H
            have c11b0 : ((rd t183 1) == 4261453539) = true := beq_iff_eq.mpr c11
            have c11b1 : ((rd t183 1) != 4261453539) = false := bne_eq_false_iff_eq.mpr c11
            clear c11
            by_cases c12 : (t184.length : Int) = 1
            · rw [if_pos c12] at H
              have c12b0 : ((t184.length : Int) == 1) = true := beq_iff_eq.mpr c12
              have c12b1 : ((t184.length : Int) != 1) = false := bne_eq_false_iff_eq.mpr c12
              clear c12
              by_cases c13 : 0 < (t184.length : Int)
              · rw [if_pos c13] at H
                have c13b0 : decide (0 < (t184.length : Int)) = true := decide_eq_true c13
                have c13b1 : decide (0 < t184.length) = true := decide_eq_true (by omega)
                clear c13
                by_cases c14 : (rd t184 0) = 0
                · rw [if_pos c14] at H
                  have c14b0 : ((rd t184 0) == 0) = true := beq_iff_eq.mpr c14
                  have c14b1 : ((rd t184 0) != 0) = false := bne_eq_false_iff_eq.mpr c14
                  clear c14
                  by_cases c15 : (t200.length : Int) = 2
                  · rw [if_pos c15] at H
                    have c15b0 : ((t200.length : Int) == 2) = true := beq_iff_eq.mpr c15
                    have c15b1 : ((t200.length : Int) != 2) = false := bne_eq_false_iff_eq.mpr c15
                    clear c15
                    by_cases c16 : 0 < (t200.length : Int)
                    · rw [if_pos c16] at H
                      have c16b0 : decide (0 < (t200.length : Int)) = true := decide_eq_true c16
                      have c16b1 : decide (0 < t200.length) = true := decide_eq_true (by omega)
                      clear c16
                      by_cases c17 : (rd t200 0) = 305418935
                      · rw [if_pos c17] at H
                        have c17b0 : ((rd t200 0) == 305418935) = true := beq_iff_eq.mpr c17
                        have c17b1 : ((rd t200 0) != 305418935) = false := bne_eq_false_iff_eq.mpr c17
                        clear c17
                        by_cases c18 : 1 < (t200.length : Int)
                        · rw [if_pos c18] at H
                          have c18b0 : decide (1 < (t200.length : Int)) = true := decide_eq_true c18
                          have c18b1 : decide (1 < t200.length) = true := decide_eq_true (by omega)
                          clear c18
                          obtain rfl := Option.some.inj H
                          go_enter Try.func8, Try.ntmps8
                          go_wp2_with (first | ((with_reducible refine gate_callee (f := 19) rfl ?_); refine goesL_ (some 8) rfl rfl Try.func19 (by kernel_rfl) rfl #[.int .i64 0] rfl (by (try simp only [List.map_toArray, List.map_cons, List.map_nil]); first | done | rfl | (simp only [List.length_drop, List.length_take]; rfl)) ?_; (with_reducible refine (asm_Label.calls 0 t159 t160 t161 t162 t163 t164 t165 _ A1.out).mono ?_); rintro e w19 ⟨rfl, hb⟩; refine ⟨_, rfl, ?_⟩; have n0_ := Aside0.mk (below_step (by repeat (first | (with_reducible first | exact HB.out | apply below_alloc | apply pw_below_drewN | apply below_drew1) | exact HB.out)) hb); clear HB; have HB := n0_; clear n0_; (try clear hb); (try clear hb2); (try clear hk); (try clear hi)) | ((with_reducible refine gate_callee (f := 13) rfl ?_); refine goesL_ (some 9) rfl rfl Try.func13 (by kernel_rfl) rfl #[.int .i64 19, .int .i64 1, .int .i64 1, .int .i64 0, .int .i64 (-1)] rfl (by (try simp only [List.map_toArray, List.map_cons, List.map_nil]); first | done | rfl | (simp only [List.length_drop, List.length_take]; rfl)) ?_; (with_reducible refine (asm_Inst.calls 19 1 1 0 (-1) t166 t167 t168 t169 t170 t171 t172 _ A2.out).mono ?_); rintro e w20 ⟨rfl, hb⟩; refine ⟨_, rfl, ?_⟩; have n0_ := Aside0.mk (below_step (by repeat (first | (with_reducible first | exact HB.out | apply below_alloc | apply pw_below_drewN | apply below_drew1) | exact HB.out)) hb); clear HB; have HB := n0_; clear n0_; (try clear hb); (try clear hb2); (try clear hk); (try clear hi)) | ((with_reducible refine gate_callee (f := 20) rfl ?_); refine goesL_ (some 10) rfl rfl Try.func20 (by kernel_rfl) rfl #[.int .i64 6, .int .i64 1, .int .i64 0, .int .i64 0] rfl (by (try simp only [List.map_toArray, List.map_cons, List.map_nil]); first | done | rfl | (simp only [List.length_drop, List.length_take]; rfl)) ?_; (with_reducible refine (asm_Branch.calls 6 1 0 0 t173 t174 t175 t176 t177 t178 t179 _ A3.out).mono ?_); rintro e w21 ⟨rfl, hb⟩; refine ⟨_, rfl, ?_⟩; have n0_ := Aside0.mk (below_step (by repeat (first | (with_reducible first | exact HB.out | apply below_alloc | apply pw_below_drewN | apply below_drew1) | exact HB.out)) hb); clear HB; have HB := n0_; clear n0_; (try clear hb); (try clear hb2); (try clear hk); (try clear hi)) | ((with_reducible refine gate_dst (N := 11) rfl ?_); (try (refine gate_guard (by rfl) ?_; dsimp only)); refine Kd.R_lit k41 _ 41 ?hg (N := 11) ?hd (xs := ([(⟨t159, (⟨t160, t161, t162, t163, t164⟩ : S39), t165⟩ : S41), (⟨t166, (⟨t167, t168, t169, t170, t171⟩ : S39), t172⟩ : S41), (⟨t173, (⟨t174, t175, t176, t177, t178⟩ : S39), t179⟩ : S41)] : List (S41))) (inner := [.int .i64 t159, .int .i64 t160, .int .i64 t161, .int .i64 t162, .int .i64 t163, .int .i64 t164, .int .i64 t165, .int .i64 t166, .int .i64 t167, .int .i64 t168, .int .i64 t169, .int .i64 t170, .int .i64 t171, .int .i64 t172, .int .i64 t173, .int .i64 t174, .int .i64 t175, .int .i64 t176, .int .i64 t177, .int .i64 t178, .int .i64 t179]) (ok := fun _ => True) (okp := fun _ => True) ?hr ?hp (fun _ hk => hk) trivial (Below.refl _ _) (Nat.le_refl _) (by simp) ?_; (case hd => rfl); (case hg => rfl); (case hr => first | (go_simp; done) | (go_simp; rfl)); (case hp => exact (Reps.c7 (show Kd.M k41 _ _ _ (⟨t159, (⟨t160, t161, t162, t163, t164⟩ : S39), t165⟩ : S41) [.int .i64 t159, .int .i64 t160, .int .i64 t161, .int .i64 t162, .int .i64 t163, .int .i64 t164, .int .i64 t165] from (k41_mkM _ _ _ (⟨t159, (⟨t160, t161, t162, t163, t164⟩ : S39), t165⟩ : S41) )) (Reps.c7 (show Kd.M k41 _ _ _ (⟨t166, (⟨t167, t168, t169, t170, t171⟩ : S39), t172⟩ : S41) [.int .i64 t166, .int .i64 t167, .int .i64 t168, .int .i64 t169, .int .i64 t170, .int .i64 t171, .int .i64 t172] from (k41_mkM _ _ _ (⟨t166, (⟨t167, t168, t169, t170, t171⟩ : S39), t172⟩ : S41) )) (Reps.c7 (show Kd.M k41 _ _ _ (⟨t173, (⟨t174, t175, t176, t177, t178⟩ : S39), t179⟩ : S41) [.int .i64 t173, .int .i64 t174, .int .i64 t175, .int .i64 t176, .int .i64 t177, .int .i64 t178, .int .i64 t179] from (k41_mkM _ _ _ (⟨t173, (⟨t174, t175, t176, t177, t178⟩ : S39), t179⟩ : S41) )) (Reps.none _ _))))); intro v181 w22 ho23 hb hg_ hnew_; clear hg_ hnew_; (first | rw [← Ny180.out] at ho23 | (simp only [Int.reduceToNat] at ho23; rw [← Ny180.out] at ho23)); have n0_ := Aside0.mk (Kd.R_lower ho23 (below_size (by repeat (first | (with_reducible first | exact HB.out | apply below_alloc | apply pw_below_drewN | apply below_drew1) | exact HB.out)))); have n1_ := Aside0.mk (below_step (by repeat (first | (with_reducible first | exact HB.out | apply below_alloc | apply pw_below_drewN | apply below_drew1) | exact HB.out)) hb); clear HB; have HO182 := n0_; have HB := n1_; clear n0_ n1_; clear hb ho23; obtain ⟨Ao24, co24, eo24⟩ := Kd.R_slice HO182.out; subst eo24) | ((with_reducible refine gate_callee (f := 10) rfl ?_); refine goesL_ (some 12) rfl rfl Try.func10 (by kernel_rfl) rfl #[.slice Ao24 y180.length co24] rfl (by (try simp only [List.map_toArray, List.map_cons, List.map_nil]); first | done | rfl | (simp only [List.length_drop, List.length_take]; rfl)) ?_; (with_reducible refine (asm_Assemble.calls k _ _ y180 t183 t184 t185 _ ?side1 ?side2 A4.out).mono ?_); (case side1 => repeat (first | exact (Kd.R_reads' HO182.out).2.2 | (with_reducible refine Kd.C_alloc ?_ _) | (with_reducible refine Kd.C_drewN ?_ _) | (with_reducible refine Kd.C_drew ?_))); (case side2 => exact (Kd.R_reads' HO182.out).2.1); rintro e w25 ⟨v186, v188, rfl, ho0, ho1, hb⟩; refine ⟨_, rfl, ?_⟩; have n0_ := Aside0.mk (Kd.R_below (by (with_reducible repeat (first | apply Kd.R_alloc | apply Kd.R_drewN | apply Kd.R_drew)); exact HO182.out) hb); have n1_ := Aside0.mk (Kd.R_lower ho0 (below_size (by repeat (first | (with_reducible first | exact HB.out | apply below_alloc | apply pw_below_drewN | apply below_drew1) | exact HB.out)))); have n2_ := Aside0.mk (Kd.R_lower ho1 (below_size (by repeat (first | (with_reducible first | exact HB.out | apply below_alloc | apply pw_below_drewN | apply below_drew1) | exact HB.out)))); have n3_ := Aside0.mk (below_step (by repeat (first | (with_reducible first | exact HB.out | apply below_alloc | apply pw_below_drewN | apply below_drew1) | exact HB.out)) hb); clear HO182; clear HB; have HO182 := n0_; have HO187 := n1_; have HO189 := n2_; have HB := n3_; clear n0_ n1_ n2_ n3_; (try clear hb); (try clear hb2); (try clear hk); (try clear hi); (try clear ho0); (try clear ho1)) | ((with_reducible refine gate_callee (f := 18) rfl ?_); refine goesL_ (some 17) rfl rfl Try.func18 (by kernel_rfl) rfl #[.int .i64 5, .int .u32 305419896] rfl (by (try simp only [List.map_toArray, List.map_cons, List.map_nil]); first | done | rfl | (simp only [List.length_drop, List.length_take]; rfl)) ?_; (with_reducible refine (asm_Const.calls 5 305419896 t190 t191 t192 t193 t194 t195 t196 _ A5.out).mono ?_); rintro e w26 ⟨rfl, hb⟩; refine ⟨_, rfl, ?_⟩; have n0_ := Aside0.mk (Kd.R_below (by (with_reducible repeat (first | apply Kd.R_alloc | apply Kd.R_drewN | apply Kd.R_drew)); exact HO182.out) hb); have n1_ := Aside0.mk (Kd.R_below (by (with_reducible repeat (first | apply Kd.R_alloc | apply Kd.R_drewN | apply Kd.R_drew)); exact HO187.out) hb); have n2_ := Aside0.mk (Kd.R_below (by (with_reducible repeat (first | apply Kd.R_alloc | apply Kd.R_drewN | apply Kd.R_drew)); exact HO189.out) hb); have n3_ := Aside0.mk (below_step (by repeat (first | (with_reducible first | exact HB.out | apply below_alloc | apply pw_below_drewN | apply below_drew1) | exact HB.out)) hb); clear HO182; clear HO187; clear HO189; clear HB; have HO182 := n0_; have HO187 := n1_; have HO189 := n2_; have HB := n3_; clear n0_ n1_ n2_ n3_; (try clear hb); (try clear hb2); (try clear hk); (try clear hi)) | ((with_reducible refine gate_dst (N := 18) rfl ?_); (try (refine gate_guard (by rfl) ?_; dsimp only)); refine Kd.R_lit k41 _ 41 ?hg (N := 18) ?hd (xs := ([(⟨t190, (⟨t191, t192, t193, t194, t195⟩ : S39), t196⟩ : S41)] : List (S41))) (inner := [.int .i64 t190, .int .i64 t191, .int .i64 t192, .int .i64 t193, .int .i64 t194, .int .i64 t195, .int .i64 t196]) (ok := fun _ => True) (okp := fun _ => True) ?hr ?hp (fun _ hk => hk) trivial (Below.refl _ _) (Nat.le_refl _) (by simp) ?_; (case hd => rfl); (case hg => rfl); (case hr => first | (go_simp; done) | (go_simp; rfl)); (case hp => exact (Reps.c7 (show Kd.M k41 _ _ _ (⟨t190, (⟨t191, t192, t193, t194, t195⟩ : S39), t196⟩ : S41) [.int .i64 t190, .int .i64 t191, .int .i64 t192, .int .i64 t193, .int .i64 t194, .int .i64 t195, .int .i64 t196] from (k41_mkM _ _ _ (⟨t190, (⟨t191, t192, t193, t194, t195⟩ : S39), t196⟩ : S41) )) (Reps.none _ _))); intro v198 w27 ho28 hb hg_ hnew_; clear hg_ hnew_; (first | rw [← Ny197.out] at ho28 | (simp only [Int.reduceToNat] at ho28; rw [← Ny197.out] at ho28)); have n0_ := Aside0.mk (Kd.R_elder' (by (with_reducible repeat (first | apply Kd.R_alloc | apply Kd.R_drewN | apply Kd.R_drew)); exact HO182.out) (Kd.R_base ho28) hb); have n1_ := Aside0.mk (Kd.R_below (by (with_reducible repeat (first | apply Kd.R_alloc | apply Kd.R_drewN | apply Kd.R_drew)); exact HO187.out) hb); have n2_ := Aside0.mk (Kd.R_below (by (with_reducible repeat (first | apply Kd.R_alloc | apply Kd.R_drewN | apply Kd.R_drew)); exact HO189.out) hb); have n3_ := Aside0.mk (Kd.R_lower (Kd.R_new' ho28 (Kd.R_lt (by (with_reducible repeat (first | apply Kd.R_alloc | apply Kd.R_drewN | apply Kd.R_drew)); exact HO182.out))) (below_size (by repeat (first | (with_reducible first | exact HB.out | apply below_alloc | apply pw_below_drewN | apply below_drew1) | exact HB.out)))); have n4_ := Aside0.mk (below_step (by repeat (first | (with_reducible first | exact HB.out | apply below_alloc | apply pw_below_drewN | apply below_drew1) | exact HB.out)) hb); clear HO182; clear HO187; clear HO189; clear HB; have HO182 := n0_; have HO187 := n1_; have HO189 := n2_; have HO199 := n3_; have HB := n4_; clear n0_ n1_ n2_ n3_ n4_; clear hb ho28; obtain ⟨Ao29, co29, eo29⟩ := Kd.R_slice HO199.out; subst eo29) | ((with_reducible refine gate_callee (f := 10) rfl ?_); refine goesL_ (some 19) rfl rfl Try.func10 (by kernel_rfl) rfl #[.slice Ao29 y197.length co29] rfl (by (try simp only [List.map_toArray, List.map_cons, List.map_nil]); first | done | rfl | (simp only [List.length_drop, List.length_take]; rfl)) ?_; (with_reducible refine (asm_Assemble.calls k _ _ y197 t200 t201 t202 _ ?side1 ?side2 A6.out).mono ?_); (case side1 => repeat (first | exact (Kd.R_reads' HO199.out).2.2 | (with_reducible refine Kd.C_alloc ?_ _) | (with_reducible refine Kd.C_drewN ?_ _) | (with_reducible refine Kd.C_drew ?_))); (case side2 => exact (Kd.R_reads' HO199.out).2.1); rintro e w30 ⟨v203, v205, rfl, ho0, ho1, hb⟩; refine ⟨_, rfl, ?_⟩; have n0_ := Aside0.mk (Kd.R_below (by (with_reducible repeat (first | apply Kd.R_alloc | apply Kd.R_drewN | apply Kd.R_drew)); exact HO182.out) hb); have n1_ := Aside0.mk (Kd.R_elder' (by (with_reducible repeat (first | apply Kd.R_alloc | apply Kd.R_drewN | apply Kd.R_drew)); exact HO187.out) (Kd.R_base ho0) hb); have n2_ := Aside0.mk (Kd.R_elder' (by (with_reducible repeat (first | apply Kd.R_alloc | apply Kd.R_drewN | apply Kd.R_drew)); exact HO189.out) (Kd.R_base ho1) hb); have n3_ := Aside0.mk (Kd.R_below (by (with_reducible repeat (first | apply Kd.R_alloc | apply Kd.R_drewN | apply Kd.R_drew)); exact HO199.out) hb); have n4_ := Aside0.mk (Kd.R_lower (Kd.R_new' ho0 (Kd.R_lt (by (with_reducible repeat (first | apply Kd.R_alloc | apply Kd.R_drewN | apply Kd.R_drew)); exact HO187.out))) (below_size (by repeat (first | (with_reducible first | exact HB.out | apply below_alloc | apply pw_below_drewN | apply below_drew1) | exact HB.out)))); have n5_ := Aside0.mk (Kd.R_lower (Kd.R_new' ho1 (Kd.R_lt (by (with_reducible repeat (first | apply Kd.R_alloc | apply Kd.R_drewN | apply Kd.R_drew)); exact HO189.out))) (below_size (by repeat (first | (with_reducible first | exact HB.out | apply below_alloc | apply pw_below_drewN | apply below_drew1) | exact HB.out)))); have n6_ := Aside0.mk (below_step (by repeat (first | (with_reducible first | exact HB.out | apply below_alloc | apply pw_below_drewN | apply below_drew1) | exact HB.out)) hb); clear HO182; clear HO187; clear HO189; clear HO199; clear HB; have HO182 := n0_; have HO187 := n1_; have HO189 := n2_; have HO199 := n3_; have HO204 := n4_; have HO206 := n5_; have HB := n6_; clear n0_ n1_ n2_ n3_ n4_ n5_ n6_; (try clear hb); (try clear hb2); (try clear hk); (try clear hi); (try clear ho0); (try clear ho1); obtain ⟨Ao31, co31, eo31⟩ := Kd.R_slice HO187.out; subst eo31; have p207 : 0 ≤ (1 : Int) := (by omega); have q207 : 1 < (t183.length : Int) := of_decide_eq_true (by first | (with_reducible assumption) | assumption); obtain ⟨ad207, e207, hx207_0⟩ := Kd.at_int (Kd.R_reads' HO187.out).2.2 1 p207 q207; cases e207; (try simp only [show (1 : Int).toNat = 1 from rfl, Nat.reduceMul, Nat.reduceEqDiff, Go.Addr.add, ↓reduceIte] at hx207_0); have qi207 : (1 < t183.length) = True := eq_true (by omega); (try rw [show ((1 : Int)).toNat = 1 from rfl] at hx207_0); replace p207 := eq_true p207; replace q207 := eq_true q207; obtain ⟨Ao32, co32, eo32⟩ := Kd.R_slice HO189.out; subst eo32; have p208 : 0 ≤ (0 : Int) := (by omega); have q208 : 0 < (t184.length : Int) := of_decide_eq_true (by first | (with_reducible assumption) | assumption); obtain ⟨ad208, e208, hx208_0⟩ := Kd.at_int (Kd.R_reads' HO189.out).2.2 0 p208 q208; cases e208; have qi208 : (0 < t184.length) = True := eq_true (by omega); (try rw [show ((0 : Int)).toNat = 0 from rfl] at hx208_0); (try rw [Addr.add_zero'] at hx208_0); replace p208 := eq_true p208; replace q208 := eq_true q208; obtain ⟨Ao33, co33, eo33⟩ := Kd.R_slice HO204.out; subst eo33; have p209 : 0 ≤ (0 : Int) := (by omega); have q209 : 0 < (t200.length : Int) := of_decide_eq_true (by first | (with_reducible assumption) | assumption); obtain ⟨ad209, e209, hx209_0⟩ := Kd.at_int (Kd.R_reads' HO204.out).2.2 0 p209 q209; cases e209; have qi209 : (0 < t200.length) = True := eq_true (by omega); (try rw [show ((0 : Int)).toNat = 0 from rfl] at hx209_0); (try rw [Addr.add_zero'] at hx209_0); replace p209 := eq_true p209; replace q209 := eq_true q209; have p210 : 0 ≤ (1 : Int) := (by omega); have q210 : 1 < (t200.length : Int) := of_decide_eq_true (by first | (with_reducible assumption) | assumption); obtain ⟨ad210, e210, hx210_0⟩ := Kd.at_int (Kd.R_reads' HO204.out).2.2 1 p210 q210; obtain rfl : ad209 = ad210 := (by injection e210); (try simp only [show (1 : Int).toNat = 1 from rfl, Nat.reduceMul, Nat.reduceEqDiff, Go.Addr.add, ↓reduceIte] at hx210_0); have qi210 : (1 < t200.length) = True := eq_true (by omega); (try rw [show ((1 : Int)).toNat = 1 from rfl] at hx210_0); replace p210 := eq_true p210; replace q210 := eq_true q210))
                          go_ret
                          exact ⟨by first | rfl | (simp [errW_none, errW_some] <;> rfl) | (simp [*, errW_none, errW_some] <;> rfl), by repeat (first | (with_reducible first | exact HB.out | apply below_alloc | apply pw_below_drewN | apply below_drew1) | exact HB.out)⟩
                        · rw [if_neg c18] at H
                          exact absurd H (by simp)
                      · rw [if_neg c17] at H
                        have c17b0 : ((rd t200 0) == 305418935) = false := beq_eq_false_iff_ne.mpr c17
                        have c17b1 : ((rd t200 0) != 305418935) = true := bne_iff_ne.mpr c17
                        obtain rfl := Option.some.inj H
                        go_enter Try.func8, Try.ntmps8
                        go_wp2_with (first | ((with_reducible refine gate_callee (f := 19) rfl ?_); refine goesL_ (some 8) rfl rfl Try.func19 (by kernel_rfl) rfl #[.int .i64 0] rfl (by (try simp only [List.map_toArray, List.map_cons, List.map_nil]); first | done | rfl | (simp only [List.length_drop, List.length_take]; rfl)) ?_; (with_reducible refine (asm_Label.calls 0 t159 t160 t161 t162 t163 t164 t165 _ A1.out).mono ?_); rintro e w34 ⟨rfl, hb⟩; refine ⟨_, rfl, ?_⟩; have n0_ := Aside0.mk (below_step (by repeat (first | (with_reducible first | exact HB.out | apply below_alloc | apply pw_below_drewN | apply below_drew1) | exact HB.out)) hb); clear HB; have HB := n0_; clear n0_; (try clear hb); (try clear hb2); (try clear hk); (try clear hi)) | ((with_reducible refine gate_callee (f := 13) rfl ?_); refine goesL_ (some 9) rfl rfl Try.func13 (by kernel_rfl) rfl #[.int .i64 19, .int .i64 1, .int .i64 1, .int .i64 0, .int .i64 (-1)] rfl (by (try simp only [List.map_toArray, List.map_cons, List.map_nil]); first | done | rfl | (simp only [List.length_drop, List.length_take]; rfl)) ?_; (with_reducible refine (asm_Inst.calls 19 1 1 0 (-1) t166 t167 t168 t169 t170 t171 t172 _ A2.out).mono ?_); rintro e w35 ⟨rfl, hb⟩; refine ⟨_, rfl, ?_⟩; have n0_ := Aside0.mk (below_step (by repeat (first | (with_reducible first | exact HB.out | apply below_alloc | apply pw_below_drewN | apply below_drew1) | exact HB.out)) hb); clear HB; have HB := n0_; clear n0_; (try clear hb); (try clear hb2); (try clear hk); (try clear hi)) | ((with_reducible refine gate_callee (f := 20) rfl ?_); refine goesL_ (some 10) rfl rfl Try.func20 (by kernel_rfl) rfl #[.int .i64 6, .int .i64 1, .int .i64 0, .int .i64 0] rfl (by (try simp only [List.map_toArray, List.map_cons, List.map_nil]); first | done | rfl | (simp only [List.length_drop, List.length_take]; rfl)) ?_; (with_reducible refine (asm_Branch.calls 6 1 0 0 t173 t174 t175 t176 t177 t178 t179 _ A3.out).mono ?_); rintro e w36 ⟨rfl, hb⟩; refine ⟨_, rfl, ?_⟩; have n0_ := Aside0.mk (below_step (by repeat (first | (with_reducible first | exact HB.out | apply below_alloc | apply pw_below_drewN | apply below_drew1) | exact HB.out)) hb); clear HB; have HB := n0_; clear n0_; (try clear hb); (try clear hb2); (try clear hk); (try clear hi)) | ((with_reducible refine gate_dst (N := 11) rfl ?_); (try (refine gate_guard (by rfl) ?_; dsimp only)); refine Kd.R_lit k41 _ 41 ?hg (N := 11) ?hd (xs := ([(⟨t159, (⟨t160, t161, t162, t163, t164⟩ : S39), t165⟩ : S41), (⟨t166, (⟨t167, t168, t169, t170, t171⟩ : S39), t172⟩ : S41), (⟨t173, (⟨t174, t175, t176, t177, t178⟩ : S39), t179⟩ : S41)] : List (S41))) (inner := [.int .i64 t159, .int .i64 t160, .int .i64 t161, .int .i64 t162, .int .i64 t163, .int .i64 t164, .int .i64 t165, .int .i64 t166, .int .i64 t167, .int .i64 t168, .int .i64 t169, .int .i64 t170, .int .i64 t171, .int .i64 t172, .int .i64 t173, .int .i64 t174, .int .i64 t175, .int .i64 t176, .int .i64 t177, .int .i64 t178, .int .i64 t179]) (ok := fun _ => True) (okp := fun _ => True) ?hr ?hp (fun _ hk => hk) trivial (Below.refl _ _) (Nat.le_refl _) (by simp) ?_; (case hd => rfl); (case hg => rfl); (case hr => first | (go_simp; done) | (go_simp; rfl)); (case hp => exact (Reps.c7 (show Kd.M k41 _ _ _ (⟨t159, (⟨t160, t161, t162, t163, t164⟩ : S39), t165⟩ : S41) [.int .i64 t159, .int .i64 t160, .int .i64 t161, .int .i64 t162, .int .i64 t163, .int .i64 t164, .int .i64 t165] from (k41_mkM _ _ _ (⟨t159, (⟨t160, t161, t162, t163, t164⟩ : S39), t165⟩ : S41) )) (Reps.c7 (show Kd.M k41 _ _ _ (⟨t166, (⟨t167, t168, t169, t170, t171⟩ : S39), t172⟩ : S41) [.int .i64 t166, .int .i64 t167, .int .i64 t168, .int .i64 t169, .int .i64 t170, .int .i64 t171, .int .i64 t172] from (k41_mkM _ _ _ (⟨t166, (⟨t167, t168, t169, t170, t171⟩ : S39), t172⟩ : S41) )) (Reps.c7 (show Kd.M k41 _ _ _ (⟨t173, (⟨t174, t175, t176, t177, t178⟩ : S39), t179⟩ : S41) [.int .i64 t173, .int .i64 t174, .int .i64 t175, .int .i64 t176, .int .i64 t177, .int .i64 t178, .int .i64 t179] from (k41_mkM _ _ _ (⟨t173, (⟨t174, t175, t176, t177, t178⟩ : S39), t179⟩ : S41) )) (Reps.none _ _))))); intro v181 w37 ho38 hb hg_ hnew_; clear hg_ hnew_; (first | rw [← Ny180.out] at ho38 | (simp only [Int.reduceToNat] at ho38; rw [← Ny180.out] at ho38)); have n0_ := Aside0.mk (Kd.R_lower ho38 (below_size (by repeat (first | (with_reducible first | exact HB.out | apply below_alloc | apply pw_below_drewN | apply below_drew1) | exact HB.out)))); have n1_ := Aside0.mk (below_step (by repeat (first | (with_reducible first | exact HB.out | apply below_alloc | apply pw_below_drewN | apply below_drew1) | exact HB.out)) hb); clear HB; have HO182 := n0_; have HB := n1_; clear n0_ n1_; clear hb ho38; obtain ⟨Ao39, co39, eo39⟩ := Kd.R_slice HO182.out; subst eo39) | ((with_reducible refine gate_callee (f := 10) rfl ?_); refine goesL_ (some 12) rfl rfl Try.func10 (by kernel_rfl) rfl #[.slice Ao39 y180.length co39] rfl (by (try simp only [List.map_toArray, List.map_cons, List.map_nil]); first | done | rfl | (simp only [List.length_drop, List.length_take]; rfl)) ?_; (with_reducible refine (asm_Assemble.calls k _ _ y180 t183 t184 t185 _ ?side1 ?side2 A4.out).mono ?_); (case side1 => repeat (first | exact (Kd.R_reads' HO182.out).2.2 | (with_reducible refine Kd.C_alloc ?_ _) | (with_reducible refine Kd.C_drewN ?_ _) | (with_reducible refine Kd.C_drew ?_))); (case side2 => exact (Kd.R_reads' HO182.out).2.1); rintro e w40 ⟨v186, v188, rfl, ho0, ho1, hb⟩; refine ⟨_, rfl, ?_⟩; have n0_ := Aside0.mk (Kd.R_below (by (with_reducible repeat (first | apply Kd.R_alloc | apply Kd.R_drewN | apply Kd.R_drew)); exact HO182.out) hb); have n1_ := Aside0.mk (Kd.R_lower ho0 (below_size (by repeat (first | (with_reducible first | exact HB.out | apply below_alloc | apply pw_below_drewN | apply below_drew1) | exact HB.out)))); have n2_ := Aside0.mk (Kd.R_lower ho1 (below_size (by repeat (first | (with_reducible first | exact HB.out | apply below_alloc | apply pw_below_drewN | apply below_drew1) | exact HB.out)))); have n3_ := Aside0.mk (below_step (by repeat (first | (with_reducible first | exact HB.out | apply below_alloc | apply pw_below_drewN | apply below_drew1) | exact HB.out)) hb); clear HO182; clear HB; have HO182 := n0_; have HO187 := n1_; have HO189 := n2_; have HB := n3_; clear n0_ n1_ n2_ n3_; (try clear hb); (try clear hb2); (try clear hk); (try clear hi); (try clear ho0); (try clear ho1)) | ((with_reducible refine gate_callee (f := 18) rfl ?_); refine goesL_ (some 17) rfl rfl Try.func18 (by kernel_rfl) rfl #[.int .i64 5, .int .u32 305419896] rfl (by (try simp only [List.map_toArray, List.map_cons, List.map_nil]); first | done | rfl | (simp only [List.length_drop, List.length_take]; rfl)) ?_; (with_reducible refine (asm_Const.calls 5 305419896 t190 t191 t192 t193 t194 t195 t196 _ A5.out).mono ?_); rintro e w41 ⟨rfl, hb⟩; refine ⟨_, rfl, ?_⟩; have n0_ := Aside0.mk (Kd.R_below (by (with_reducible repeat (first | apply Kd.R_alloc | apply Kd.R_drewN | apply Kd.R_drew)); exact HO182.out) hb); have n1_ := Aside0.mk (Kd.R_below (by (with_reducible repeat (first | apply Kd.R_alloc | apply Kd.R_drewN | apply Kd.R_drew)); exact HO187.out) hb); have n2_ := Aside0.mk (Kd.R_below (by (with_reducible repeat (first | apply Kd.R_alloc | apply Kd.R_drewN | apply Kd.R_drew)); exact HO189.out) hb); have n3_ := Aside0.mk (below_step (by repeat (first | (with_reducible first | exact HB.out | apply below_alloc | apply pw_below_drewN | apply below_drew1) | exact HB.out)) hb); clear HO182; clear HO187; clear HO189; clear HB; have HO182 := n0_; have HO187 := n1_; have HO189 := n2_; have HB := n3_; clear n0_ n1_ n2_ n3_; (try clear hb); (try clear hb2); (try clear hk); (try clear hi)) | ((with_reducible refine gate_dst (N := 18) rfl ?_); (try (refine gate_guard (by rfl) ?_; dsimp only)); refine Kd.R_lit k41 _ 41 ?hg (N := 18) ?hd (xs := ([(⟨t190, (⟨t191, t192, t193, t194, t195⟩ : S39), t196⟩ : S41)] : List (S41))) (inner := [.int .i64 t190, .int .i64 t191, .int .i64 t192, .int .i64 t193, .int .i64 t194, .int .i64 t195, .int .i64 t196]) (ok := fun _ => True) (okp := fun _ => True) ?hr ?hp (fun _ hk => hk) trivial (Below.refl _ _) (Nat.le_refl _) (by simp) ?_; (case hd => rfl); (case hg => rfl); (case hr => first | (go_simp; done) | (go_simp; rfl)); (case hp => exact (Reps.c7 (show Kd.M k41 _ _ _ (⟨t190, (⟨t191, t192, t193, t194, t195⟩ : S39), t196⟩ : S41) [.int .i64 t190, .int .i64 t191, .int .i64 t192, .int .i64 t193, .int .i64 t194, .int .i64 t195, .int .i64 t196] from (k41_mkM _ _ _ (⟨t190, (⟨t191, t192, t193, t194, t195⟩ : S39), t196⟩ : S41) )) (Reps.none _ _))); intro v198 w42 ho43 hb hg_ hnew_; clear hg_ hnew_; (first | rw [← Ny197.out] at ho43 | (simp only [Int.reduceToNat] at ho43; rw [← Ny197.out] at ho43)); have n0_ := Aside0.mk (Kd.R_elder' (by (with_reducible repeat (first | apply Kd.R_alloc | apply Kd.R_drewN | apply Kd.R_drew)); exact HO182.out) (Kd.R_base ho43) hb); have n1_ := Aside0.mk (Kd.R_below (by (with_reducible repeat (first | apply Kd.R_alloc | apply Kd.R_drewN | apply Kd.R_drew)); exact HO187.out) hb); have n2_ := Aside0.mk (Kd.R_below (by (with_reducible repeat (first | apply Kd.R_alloc | apply Kd.R_drewN | apply Kd.R_drew)); exact HO189.out) hb); have n3_ := Aside0.mk (Kd.R_lower (Kd.R_new' ho43 (Kd.R_lt (by (with_reducible repeat (first | apply Kd.R_alloc | apply Kd.R_drewN | apply Kd.R_drew)); exact HO182.out))) (below_size (by repeat (first | (with_reducible first | exact HB.out | apply below_alloc | apply pw_below_drewN | apply below_drew1) | exact HB.out)))); have n4_ := Aside0.mk (below_step (by repeat (first | (with_reducible first | exact HB.out | apply below_alloc | apply pw_below_drewN | apply below_drew1) | exact HB.out)) hb); clear HO182; clear HO187; clear HO189; clear HB; have HO182 := n0_; have HO187 := n1_; have HO189 := n2_; have HO199 := n3_; have HB := n4_; clear n0_ n1_ n2_ n3_ n4_; clear hb ho43; obtain ⟨Ao44, co44, eo44⟩ := Kd.R_slice HO199.out; subst eo44) | ((with_reducible refine gate_callee (f := 10) rfl ?_); refine goesL_ (some 19) rfl rfl Try.func10 (by kernel_rfl) rfl #[.slice Ao44 y197.length co44] rfl (by (try simp only [List.map_toArray, List.map_cons, List.map_nil]); first | done | rfl | (simp only [List.length_drop, List.length_take]; rfl)) ?_; (with_reducible refine (asm_Assemble.calls k _ _ y197 t200 t201 t202 _ ?side1 ?side2 A6.out).mono ?_); (case side1 => repeat (first | exact (Kd.R_reads' HO199.out).2.2 | (with_reducible refine Kd.C_alloc ?_ _) | (with_reducible refine Kd.C_drewN ?_ _) | (with_reducible refine Kd.C_drew ?_))); (case side2 => exact (Kd.R_reads' HO199.out).2.1); rintro e w45 ⟨v203, v205, rfl, ho0, ho1, hb⟩; refine ⟨_, rfl, ?_⟩; have n0_ := Aside0.mk (Kd.R_below (by (with_reducible repeat (first | apply Kd.R_alloc | apply Kd.R_drewN | apply Kd.R_drew)); exact HO182.out) hb); have n1_ := Aside0.mk (Kd.R_elder' (by (with_reducible repeat (first | apply Kd.R_alloc | apply Kd.R_drewN | apply Kd.R_drew)); exact HO187.out) (Kd.R_base ho0) hb); have n2_ := Aside0.mk (Kd.R_elder' (by (with_reducible repeat (first | apply Kd.R_alloc | apply Kd.R_drewN | apply Kd.R_drew)); exact HO189.out) (Kd.R_base ho1) hb); have n3_ := Aside0.mk (Kd.R_below (by (with_reducible repeat (first | apply Kd.R_alloc | apply Kd.R_drewN | apply Kd.R_drew)); exact HO199.out) hb); have n4_ := Aside0.mk (Kd.R_lower (Kd.R_new' ho0 (Kd.R_lt (by (with_reducible repeat (first | apply Kd.R_alloc | apply Kd.R_drewN | apply Kd.R_drew)); exact HO187.out))) (below_size (by repeat (first | (with_reducible first | exact HB.out | apply below_alloc | apply pw_below_drewN | apply below_drew1) | exact HB.out)))); have n5_ := Aside0.mk (Kd.R_lower (Kd.R_new' ho1 (Kd.R_lt (by (with_reducible repeat (first | apply Kd.R_alloc | apply Kd.R_drewN | apply Kd.R_drew)); exact HO189.out))) (below_size (by repeat (first | (with_reducible first | exact HB.out | apply below_alloc | apply pw_below_drewN | apply below_drew1) | exact HB.out)))); have n6_ := Aside0.mk (below_step (by repeat (first | (with_reducible first | exact HB.out | apply below_alloc | apply pw_below_drewN | apply below_drew1) | exact HB.out)) hb); clear HO182; clear HO187; clear HO189; clear HO199; clear HB; have HO182 := n0_; have HO187 := n1_; have HO189 := n2_; have HO199 := n3_; have HO204 := n4_; have HO206 := n5_; have HB := n6_; clear n0_ n1_ n2_ n3_ n4_ n5_ n6_; (try clear hb); (try clear hb2); (try clear hk); (try clear hi); (try clear ho0); (try clear ho1); obtain ⟨Ao46, co46, eo46⟩ := Kd.R_slice HO187.out; subst eo46; have p207 : 0 ≤ (1 : Int) := (by omega); have q207 : 1 < (t183.length : Int) := of_decide_eq_true (by first | (with_reducible assumption) | assumption); obtain ⟨ad207, e207, hx207_0⟩ := Kd.at_int (Kd.R_reads' HO187.out).2.2 1 p207 q207; cases e207; (try simp only [show (1 : Int).toNat = 1 from rfl, Nat.reduceMul, Nat.reduceEqDiff, Go.Addr.add, ↓reduceIte] at hx207_0); have qi207 : (1 < t183.length) = True := eq_true (by omega); (try rw [show ((1 : Int)).toNat = 1 from rfl] at hx207_0); replace p207 := eq_true p207; replace q207 := eq_true q207; obtain ⟨Ao47, co47, eo47⟩ := Kd.R_slice HO189.out; subst eo47; have p208 : 0 ≤ (0 : Int) := (by omega); have q208 : 0 < (t184.length : Int) := of_decide_eq_true (by first | (with_reducible assumption) | assumption); obtain ⟨ad208, e208, hx208_0⟩ := Kd.at_int (Kd.R_reads' HO189.out).2.2 0 p208 q208; cases e208; have qi208 : (0 < t184.length) = True := eq_true (by omega); (try rw [show ((0 : Int)).toNat = 0 from rfl] at hx208_0); (try rw [Addr.add_zero'] at hx208_0); replace p208 := eq_true p208; replace q208 := eq_true q208; obtain ⟨Ao48, co48, eo48⟩ := Kd.R_slice HO204.out; subst eo48; have p209 : 0 ≤ (0 : Int) := (by omega); have q209 : 0 < (t200.length : Int) := of_decide_eq_true (by first | (with_reducible assumption) | assumption); obtain ⟨ad209, e209, hx209_0⟩ := Kd.at_int (Kd.R_reads' HO204.out).2.2 0 p209 q209; cases e209; have qi209 : (0 < t200.length) = True := eq_true (by omega); (try rw [show ((0 : Int)).toNat = 0 from rfl] at hx209_0); (try rw [Addr.add_zero'] at hx209_0); replace p209 := eq_true p209; replace q209 := eq_true q209))
                        go_ret
                        exact ⟨by first | rfl | (simp [errW_none, errW_some] <;> rfl) | (simp [*, errW_none, errW_some] <;> rfl), by repeat (first | (with_reducible first | exact HB.out | apply below_alloc | apply pw_below_drewN | apply below_drew1) | exact HB.out)⟩
                    · rw [if_neg c16] at H
                      exact absurd H (by simp)
                  · rw [if_neg c15] at H
                    have c15b0 : ((t200.length : Int) == 2) = false := beq_eq_false_iff_ne.mpr c15
                    have c15b1 : ((t200.length : Int) != 2) = true := bne_iff_ne.mpr c15
                    obtain rfl := Option.some.inj H
                    go_enter Try.func8, Try.ntmps8
                    go_wp2_with (first | ((with_reducible refine gate_callee (f := 19) rfl ?_); refine goesL_ (some 8) rfl rfl Try.func19 (by kernel_rfl) rfl #[.int .i64 0] rfl (by (try simp only [List.map_toArray, List.map_cons, List.map_nil]); first | done | rfl | (simp only [List.length_drop, List.length_take]; rfl)) ?_; (with_reducible refine (asm_Label.calls 0 t159 t160 t161 t162 t163 t164 t165 _ A1.out).mono ?_); rintro e w49 ⟨rfl, hb⟩; refine ⟨_, rfl, ?_⟩; have n0_ := Aside0.mk (below_step (by repeat (first | (with_reducible first | exact HB.out | apply below_alloc | apply pw_below_drewN | apply below_drew1) | exact HB.out)) hb); clear HB; have HB := n0_; clear n0_; (try clear hb); (try clear hb2); (try clear hk); (try clear hi)) | ((with_reducible refine gate_callee (f := 13) rfl ?_); refine goesL_ (some 9) rfl rfl Try.func13 (by kernel_rfl) rfl #[.int .i64 19, .int .i64 1, .int .i64 1, .int .i64 0, .int .i64 (-1)] rfl (by (try simp only [List.map_toArray, List.map_cons, List.map_nil]); first | done | rfl | (simp only [List.length_drop, List.length_take]; rfl)) ?_; (with_reducible refine (asm_Inst.calls 19 1 1 0 (-1) t166 t167 t168 t169 t170 t171 t172 _ A2.out).mono ?_); rintro e w50 ⟨rfl, hb⟩; refine ⟨_, rfl, ?_⟩; have n0_ := Aside0.mk (below_step (by repeat (first | (with_reducible first | exact HB.out | apply below_alloc | apply pw_below_drewN | apply below_drew1) | exact HB.out)) hb); clear HB; have HB := n0_; clear n0_; (try clear hb); (try clear hb2); (try clear hk); (try clear hi)) | ((with_reducible refine gate_callee (f := 20) rfl ?_); refine goesL_ (some 10) rfl rfl Try.func20 (by kernel_rfl) rfl #[.int .i64 6, .int .i64 1, .int .i64 0, .int .i64 0] rfl (by (try simp only [List.map_toArray, List.map_cons, List.map_nil]); first | done | rfl | (simp only [List.length_drop, List.length_take]; rfl)) ?_; (with_reducible refine (asm_Branch.calls 6 1 0 0 t173 t174 t175 t176 t177 t178 t179 _ A3.out).mono ?_); rintro e w51 ⟨rfl, hb⟩; refine ⟨_, rfl, ?_⟩; have n0_ := Aside0.mk (below_step (by repeat (first | (with_reducible first | exact HB.out | apply below_alloc | apply pw_below_drewN | apply below_drew1) | exact HB.out)) hb); clear HB; have HB := n0_; clear n0_; (try clear hb); (try clear hb2); (try clear hk); (try clear hi)) | ((with_reducible refine gate_dst (N := 11) rfl ?_); (try (refine gate_guard (by rfl) ?_; dsimp only)); refine Kd.R_lit k41 _ 41 ?hg (N := 11) ?hd (xs := ([(⟨t159, (⟨t160, t161, t162, t163, t164⟩ : S39), t165⟩ : S41), (⟨t166, (⟨t167, t168, t169, t170, t171⟩ : S39), t172⟩ : S41), (⟨t173, (⟨t174, t175, t176, t177, t178⟩ : S39), t179⟩ : S41)] : List (S41))) (inner := [.int .i64 t159, .int .i64 t160, .int .i64 t161, .int .i64 t162, .int .i64 t163, .int .i64 t164, .int .i64 t165, .int .i64 t166, .int .i64 t167, .int .i64 t168, .int .i64 t169, .int .i64 t170, .int .i64 t171, .int .i64 t172, .int .i64 t173, .int .i64 t174, .int .i64 t175, .int .i64 t176, .int .i64 t177, .int .i64 t178, .int .i64 t179]) (ok := fun _ => True) (okp := fun _ => True) ?hr ?hp (fun _ hk => hk) trivial (Below.refl _ _) (Nat.le_refl _) (by simp) ?_; (case hd => rfl); (case hg => rfl); (case hr => first | (go_simp; done) | (go_simp; rfl)); (case hp => exact (Reps.c7 (show Kd.M k41 _ _ _ (⟨t159, (⟨t160, t161, t162, t163, t164⟩ : S39), t165⟩ : S41) [.int .i64 t159, .int .i64 t160, .int .i64 t161, .int .i64 t162, .int .i64 t163, .int .i64 t164, .int .i64 t165] from (k41_mkM _ _ _ (⟨t159, (⟨t160, t161, t162, t163, t164⟩ : S39), t165⟩ : S41) )) (Reps.c7 (show Kd.M k41 _ _ _ (⟨t166, (⟨t167, t168, t169, t170, t171⟩ : S39), t172⟩ : S41) [.int .i64 t166, .int .i64 t167, .int .i64 t168, .int .i64 t169, .int .i64 t170, .int .i64 t171, .int .i64 t172] from (k41_mkM _ _ _ (⟨t166, (⟨t167, t168, t169, t170, t171⟩ : S39), t172⟩ : S41) )) (Reps.c7 (show Kd.M k41 _ _ _ (⟨t173, (⟨t174, t175, t176, t177, t178⟩ : S39), t179⟩ : S41) [.int .i64 t173, .int .i64 t174, .int .i64 t175, .int .i64 t176, .int .i64 t177, .int .i64 t178, .int .i64 t179] from (k41_mkM _ _ _ (⟨t173, (⟨t174, t175, t176, t177, t178⟩ : S39), t179⟩ : S41) )) (Reps.none _ _))))); intro v181 w52 ho53 hb hg_ hnew_; clear hg_ hnew_; (first | rw [← Ny180.out] at ho53 | (simp only [Int.reduceToNat] at ho53; rw [← Ny180.out] at ho53)); have n0_ := Aside0.mk (Kd.R_lower ho53 (below_size (by repeat (first | (with_reducible first | exact HB.out | apply below_alloc | apply pw_below_drewN | apply below_drew1) | exact HB.out)))); have n1_ := Aside0.mk (below_step (by repeat (first | (with_reducible first | exact HB.out | apply below_alloc | apply pw_below_drewN | apply below_drew1) | exact HB.out)) hb); clear HB; have HO182 := n0_; have HB := n1_; clear n0_ n1_; clear hb ho53; obtain ⟨Ao54, co54, eo54⟩ := Kd.R_slice HO182.out; subst eo54) | ((with_reducible refine gate_callee (f := 10) rfl ?_); refine goesL_ (some 12) rfl rfl Try.func10 (by kernel_rfl) rfl #[.slice Ao54 y180.length co54] rfl (by (try simp only [List.map_toArray, List.map_cons, List.map_nil]); first | done | rfl | (simp only [List.length_drop, List.length_take]; rfl)) ?_; (with_reducible refine (asm_Assemble.calls k _ _ y180 t183 t184 t185 _ ?side1 ?side2 A4.out).mono ?_); (case side1 => repeat (first | exact (Kd.R_reads' HO182.out).2.2 | (with_reducible refine Kd.C_alloc ?_ _) | (with_reducible refine Kd.C_drewN ?_ _) | (with_reducible refine Kd.C_drew ?_))); (case side2 => exact (Kd.R_reads' HO182.out).2.1); rintro e w55 ⟨v186, v188, rfl, ho0, ho1, hb⟩; refine ⟨_, rfl, ?_⟩; have n0_ := Aside0.mk (Kd.R_below (by (with_reducible repeat (first | apply Kd.R_alloc | apply Kd.R_drewN | apply Kd.R_drew)); exact HO182.out) hb); have n1_ := Aside0.mk (Kd.R_lower ho0 (below_size (by repeat (first | (with_reducible first | exact HB.out | apply below_alloc | apply pw_below_drewN | apply below_drew1) | exact HB.out)))); have n2_ := Aside0.mk (Kd.R_lower ho1 (below_size (by repeat (first | (with_reducible first | exact HB.out | apply below_alloc | apply pw_below_drewN | apply below_drew1) | exact HB.out)))); have n3_ := Aside0.mk (below_step (by repeat (first | (with_reducible first | exact HB.out | apply below_alloc | apply pw_below_drewN | apply below_drew1) | exact HB.out)) hb); clear HO182; clear HB; have HO182 := n0_; have HO187 := n1_; have HO189 := n2_; have HB := n3_; clear n0_ n1_ n2_ n3_; (try clear hb); (try clear hb2); (try clear hk); (try clear hi); (try clear ho0); (try clear ho1)) | ((with_reducible refine gate_callee (f := 18) rfl ?_); refine goesL_ (some 17) rfl rfl Try.func18 (by kernel_rfl) rfl #[.int .i64 5, .int .u32 305419896] rfl (by (try simp only [List.map_toArray, List.map_cons, List.map_nil]); first | done | rfl | (simp only [List.length_drop, List.length_take]; rfl)) ?_; (with_reducible refine (asm_Const.calls 5 305419896 t190 t191 t192 t193 t194 t195 t196 _ A5.out).mono ?_); rintro e w56 ⟨rfl, hb⟩; refine ⟨_, rfl, ?_⟩; have n0_ := Aside0.mk (Kd.R_below (by (with_reducible repeat (first | apply Kd.R_alloc | apply Kd.R_drewN | apply Kd.R_drew)); exact HO182.out) hb); have n1_ := Aside0.mk (Kd.R_below (by (with_reducible repeat (first | apply Kd.R_alloc | apply Kd.R_drewN | apply Kd.R_drew)); exact HO187.out) hb); have n2_ := Aside0.mk (Kd.R_below (by (with_reducible repeat (first | apply Kd.R_alloc | apply Kd.R_drewN | apply Kd.R_drew)); exact HO189.out) hb); have n3_ := Aside0.mk (below_step (by repeat (first | (with_reducible first | exact HB.out | apply below_alloc | apply pw_below_drewN | apply below_drew1) | exact HB.out)) hb); clear HO182; clear HO187; clear HO189; clear HB; have HO182 := n0_; have HO187 := n1_; have HO189 := n2_; have HB := n3_; clear n0_ n1_ n2_ n3_; (try clear hb); (try clear hb2); (try clear hk); (try clear hi)) | ((with_reducible refine gate_dst (N := 18) rfl ?_); (try (refine gate_guard (by rfl) ?_; dsimp only)); refine Kd.R_lit k41 _ 41 ?hg (N := 18) ?hd (xs := ([(⟨t190, (⟨t191, t192, t193, t194, t195⟩ : S39), t196⟩ : S41)] : List (S41))) (inner := [.int .i64 t190, .int .i64 t191, .int .i64 t192, .int .i64 t193, .int .i64 t194, .int .i64 t195, .int .i64 t196]) (ok := fun _ => True) (okp := fun _ => True) ?hr ?hp (fun _ hk => hk) trivial (Below.refl _ _) (Nat.le_refl _) (by simp) ?_; (case hd => rfl); (case hg => rfl); (case hr => first | (go_simp; done) | (go_simp; rfl)); (case hp => exact (Reps.c7 (show Kd.M k41 _ _ _ (⟨t190, (⟨t191, t192, t193, t194, t195⟩ : S39), t196⟩ : S41) [.int .i64 t190, .int .i64 t191, .int .i64 t192, .int .i64 t193, .int .i64 t194, .int .i64 t195, .int .i64 t196] from (k41_mkM _ _ _ (⟨t190, (⟨t191, t192, t193, t194, t195⟩ : S39), t196⟩ : S41) )) (Reps.none _ _))); intro v198 w57 ho58 hb hg_ hnew_; clear hg_ hnew_; (first | rw [← Ny197.out] at ho58 | (simp only [Int.reduceToNat] at ho58; rw [← Ny197.out] at ho58)); have n0_ := Aside0.mk (Kd.R_elder' (by (with_reducible repeat (first | apply Kd.R_alloc | apply Kd.R_drewN | apply Kd.R_drew)); exact HO182.out) (Kd.R_base ho58) hb); have n1_ := Aside0.mk (Kd.R_below (by (with_reducible repeat (first | apply Kd.R_alloc | apply Kd.R_drewN | apply Kd.R_drew)); exact HO187.out) hb); have n2_ := Aside0.mk (Kd.R_below (by (with_reducible repeat (first | apply Kd.R_alloc | apply Kd.R_drewN | apply Kd.R_drew)); exact HO189.out) hb); have n3_ := Aside0.mk (Kd.R_lower (Kd.R_new' ho58 (Kd.R_lt (by (with_reducible repeat (first | apply Kd.R_alloc | apply Kd.R_drewN | apply Kd.R_drew)); exact HO182.out))) (below_size (by repeat (first | (with_reducible first | exact HB.out | apply below_alloc | apply pw_below_drewN | apply below_drew1) | exact HB.out)))); have n4_ := Aside0.mk (below_step (by repeat (first | (with_reducible first | exact HB.out | apply below_alloc | apply pw_below_drewN | apply below_drew1) | exact HB.out)) hb); clear HO182; clear HO187; clear HO189; clear HB; have HO182 := n0_; have HO187 := n1_; have HO189 := n2_; have HO199 := n3_; have HB := n4_; clear n0_ n1_ n2_ n3_ n4_; clear hb ho58; obtain ⟨Ao59, co59, eo59⟩ := Kd.R_slice HO199.out; subst eo59) | ((with_reducible refine gate_callee (f := 10) rfl ?_); refine goesL_ (some 19) rfl rfl Try.func10 (by kernel_rfl) rfl #[.slice Ao59 y197.length co59] rfl (by (try simp only [List.map_toArray, List.map_cons, List.map_nil]); first | done | rfl | (simp only [List.length_drop, List.length_take]; rfl)) ?_; (with_reducible refine (asm_Assemble.calls k _ _ y197 t200 t201 t202 _ ?side1 ?side2 A6.out).mono ?_); (case side1 => repeat (first | exact (Kd.R_reads' HO199.out).2.2 | (with_reducible refine Kd.C_alloc ?_ _) | (with_reducible refine Kd.C_drewN ?_ _) | (with_reducible refine Kd.C_drew ?_))); (case side2 => exact (Kd.R_reads' HO199.out).2.1); rintro e w60 ⟨v203, v205, rfl, ho0, ho1, hb⟩; refine ⟨_, rfl, ?_⟩; have n0_ := Aside0.mk (Kd.R_below (by (with_reducible repeat (first | apply Kd.R_alloc | apply Kd.R_drewN | apply Kd.R_drew)); exact HO182.out) hb); have n1_ := Aside0.mk (Kd.R_elder' (by (with_reducible repeat (first | apply Kd.R_alloc | apply Kd.R_drewN | apply Kd.R_drew)); exact HO187.out) (Kd.R_base ho0) hb); have n2_ := Aside0.mk (Kd.R_elder' (by (with_reducible repeat (first | apply Kd.R_alloc | apply Kd.R_drewN | apply Kd.R_drew)); exact HO189.out) (Kd.R_base ho1) hb); have n3_ := Aside0.mk (Kd.R_below (by (with_reducible repeat (first | apply Kd.R_alloc | apply Kd.R_drewN | apply Kd.R_drew)); exact HO199.out) hb); have n4_ := Aside0.mk (Kd.R_lower (Kd.R_new' ho0 (Kd.R_lt (by (with_reducible repeat (first | apply Kd.R_alloc | apply Kd.R_drewN | apply Kd.R_drew)); exact HO187.out))) (below_size (by repeat (first | (with_reducible first | exact HB.out | apply below_alloc | apply pw_below_drewN | apply below_drew1) | exact HB.out)))); have n5_ := Aside0.mk (Kd.R_lower (Kd.R_new' ho1 (Kd.R_lt (by (with_reducible repeat (first | apply Kd.R_alloc | apply Kd.R_drewN | apply Kd.R_drew)); exact HO189.out))) (below_size (by repeat (first | (with_reducible first | exact HB.out | apply below_alloc | apply pw_below_drewN | apply below_drew1) | exact HB.out)))); have n6_ := Aside0.mk (below_step (by repeat (first | (with_reducible first | exact HB.out | apply below_alloc | apply pw_below_drewN | apply below_drew1) | exact HB.out)) hb); clear HO182; clear HO187; clear HO189; clear HO199; clear HB; have HO182 := n0_; have HO187 := n1_; have HO189 := n2_; have HO199 := n3_; have HO204 := n4_; have HO206 := n5_; have HB := n6_; clear n0_ n1_ n2_ n3_ n4_ n5_ n6_; (try clear hb); (try clear hb2); (try clear hk); (try clear hi); (try clear ho0); (try clear ho1); obtain ⟨Ao61, co61, eo61⟩ := Kd.R_slice HO187.out; subst eo61; have p207 : 0 ≤ (1 : Int) := (by omega); have q207 : 1 < (t183.length : Int) := of_decide_eq_true (by first | (with_reducible assumption) | assumption); obtain ⟨ad207, e207, hx207_0⟩ := Kd.at_int (Kd.R_reads' HO187.out).2.2 1 p207 q207; cases e207; (try simp only [show (1 : Int).toNat = 1 from rfl, Nat.reduceMul, Nat.reduceEqDiff, Go.Addr.add, ↓reduceIte] at hx207_0); have qi207 : (1 < t183.length) = True := eq_true (by omega); (try rw [show ((1 : Int)).toNat = 1 from rfl] at hx207_0); replace p207 := eq_true p207; replace q207 := eq_true q207; obtain ⟨Ao62, co62, eo62⟩ := Kd.R_slice HO189.out; subst eo62; have p208 : 0 ≤ (0 : Int) := (by omega); have q208 : 0 < (t184.length : Int) := of_decide_eq_true (by first | (with_reducible assumption) | assumption); obtain ⟨ad208, e208, hx208_0⟩ := Kd.at_int (Kd.R_reads' HO189.out).2.2 0 p208 q208; cases e208; have qi208 : (0 < t184.length) = True := eq_true (by omega); (try rw [show ((0 : Int)).toNat = 0 from rfl] at hx208_0); (try rw [Addr.add_zero'] at hx208_0); replace p208 := eq_true p208; replace q208 := eq_true q208; obtain ⟨Ao63, co63, eo63⟩ := Kd.R_slice HO204.out; subst eo63))
                    go_ret
                    exact ⟨by first | rfl | (simp [errW_none, errW_some] <;> rfl) | (simp [*, errW_none, errW_some] <;> rfl), by repeat (first | (with_reducible first | exact HB.out | apply below_alloc | apply pw_below_drewN | apply below_drew1) | exact HB.out)⟩
                · rw [if_neg c14] at H
                  have c14b0 : ((rd t184 0) == 0) = false := beq_eq_false_iff_ne.mpr c14
                  have c14b1 : ((rd t184 0) != 0) = true := bne_iff_ne.mpr c14
                  obtain rfl := Option.some.inj H
                  go_enter Try.func8, Try.ntmps8
                  go_wp2_with (first | ((with_reducible refine gate_callee (f := 19) rfl ?_); refine goesL_ (some 8) rfl rfl Try.func19 (by kernel_rfl) rfl #[.int .i64 0] rfl (by (try simp only [List.map_toArray, List.map_cons, List.map_nil]); first | done | rfl | (simp only [List.length_drop, List.length_take]; rfl)) ?_; (with_reducible refine (asm_Label.calls 0 t159 t160 t161 t162 t163 t164 t165 _ A1.out).mono ?_); rintro e w64 ⟨rfl, hb⟩; refine ⟨_, rfl, ?_⟩; have n0_ := Aside0.mk (below_step (by repeat (first | (with_reducible first | exact HB.out | apply below_alloc | apply pw_below_drewN | apply below_drew1) | exact HB.out)) hb); clear HB; have HB := n0_; clear n0_; (try clear hb); (try clear hb2); (try clear hk); (try clear hi)) | ((with_reducible refine gate_callee (f := 13) rfl ?_); refine goesL_ (some 9) rfl rfl Try.func13 (by kernel_rfl) rfl #[.int .i64 19, .int .i64 1, .int .i64 1, .int .i64 0, .int .i64 (-1)] rfl (by (try simp only [List.map_toArray, List.map_cons, List.map_nil]); first | done | rfl | (simp only [List.length_drop, List.length_take]; rfl)) ?_; (with_reducible refine (asm_Inst.calls 19 1 1 0 (-1) t166 t167 t168 t169 t170 t171 t172 _ A2.out).mono ?_); rintro e w65 ⟨rfl, hb⟩; refine ⟨_, rfl, ?_⟩; have n0_ := Aside0.mk (below_step (by repeat (first | (with_reducible first | exact HB.out | apply below_alloc | apply pw_below_drewN | apply below_drew1) | exact HB.out)) hb); clear HB; have HB := n0_; clear n0_; (try clear hb); (try clear hb2); (try clear hk); (try clear hi)) | ((with_reducible refine gate_callee (f := 20) rfl ?_); refine goesL_ (some 10) rfl rfl Try.func20 (by kernel_rfl) rfl #[.int .i64 6, .int .i64 1, .int .i64 0, .int .i64 0] rfl (by (try simp only [List.map_toArray, List.map_cons, List.map_nil]); first | done | rfl | (simp only [List.length_drop, List.length_take]; rfl)) ?_; (with_reducible refine (asm_Branch.calls 6 1 0 0 t173 t174 t175 t176 t177 t178 t179 _ A3.out).mono ?_); rintro e w66 ⟨rfl, hb⟩; refine ⟨_, rfl, ?_⟩; have n0_ := Aside0.mk (below_step (by repeat (first | (with_reducible first | exact HB.out | apply below_alloc | apply pw_below_drewN | apply below_drew1) | exact HB.out)) hb); clear HB; have HB := n0_; clear n0_; (try clear hb); (try clear hb2); (try clear hk); (try clear hi)) | ((with_reducible refine gate_dst (N := 11) rfl ?_); (try (refine gate_guard (by rfl) ?_; dsimp only)); refine Kd.R_lit k41 _ 41 ?hg (N := 11) ?hd (xs := ([(⟨t159, (⟨t160, t161, t162, t163, t164⟩ : S39), t165⟩ : S41), (⟨t166, (⟨t167, t168, t169, t170, t171⟩ : S39), t172⟩ : S41), (⟨t173, (⟨t174, t175, t176, t177, t178⟩ : S39), t179⟩ : S41)] : List (S41))) (inner := [.int .i64 t159, .int .i64 t160, .int .i64 t161, .int .i64 t162, .int .i64 t163, .int .i64 t164, .int .i64 t165, .int .i64 t166, .int .i64 t167, .int .i64 t168, .int .i64 t169, .int .i64 t170, .int .i64 t171, .int .i64 t172, .int .i64 t173, .int .i64 t174, .int .i64 t175, .int .i64 t176, .int .i64 t177, .int .i64 t178, .int .i64 t179]) (ok := fun _ => True) (okp := fun _ => True) ?hr ?hp (fun _ hk => hk) trivial (Below.refl _ _) (Nat.le_refl _) (by simp) ?_; (case hd => rfl); (case hg => rfl); (case hr => first | (go_simp; done) | (go_simp; rfl)); (case hp => exact (Reps.c7 (show Kd.M k41 _ _ _ (⟨t159, (⟨t160, t161, t162, t163, t164⟩ : S39), t165⟩ : S41) [.int .i64 t159, .int .i64 t160, .int .i64 t161, .int .i64 t162, .int .i64 t163, .int .i64 t164, .int .i64 t165] from (k41_mkM _ _ _ (⟨t159, (⟨t160, t161, t162, t163, t164⟩ : S39), t165⟩ : S41) )) (Reps.c7 (show Kd.M k41 _ _ _ (⟨t166, (⟨t167, t168, t169, t170, t171⟩ : S39), t172⟩ : S41) [.int .i64 t166, .int .i64 t167, .int .i64 t168, .int .i64 t169, .int .i64 t170, .int .i64 t171, .int .i64 t172] from (k41_mkM _ _ _ (⟨t166, (⟨t167, t168, t169, t170, t171⟩ : S39), t172⟩ : S41) )) (Reps.c7 (show Kd.M k41 _ _ _ (⟨t173, (⟨t174, t175, t176, t177, t178⟩ : S39), t179⟩ : S41) [.int .i64 t173, .int .i64 t174, .int .i64 t175, .int .i64 t176, .int .i64 t177, .int .i64 t178, .int .i64 t179] from (k41_mkM _ _ _ (⟨t173, (⟨t174, t175, t176, t177, t178⟩ : S39), t179⟩ : S41) )) (Reps.none _ _))))); intro v181 w67 ho68 hb hg_ hnew_; clear hg_ hnew_; (first | rw [← Ny180.out] at ho68 | (simp only [Int.reduceToNat] at ho68; rw [← Ny180.out] at ho68)); have n0_ := Aside0.mk (Kd.R_lower ho68 (below_size (by repeat (first | (with_reducible first | exact HB.out | apply below_alloc | apply pw_below_drewN | apply below_drew1) | exact HB.out)))); have n1_ := Aside0.mk (below_step (by repeat (first | (with_reducible first | exact HB.out | apply below_alloc | apply pw_below_drewN | apply below_drew1) | exact HB.out)) hb); clear HB; have HO182 := n0_; have HB := n1_; clear n0_ n1_; clear hb ho68; obtain ⟨Ao69, co69, eo69⟩ := Kd.R_slice HO182.out; subst eo69) | ((with_reducible refine gate_callee (f := 10) rfl ?_); refine goesL_ (some 12) rfl rfl Try.func10 (by kernel_rfl) rfl #[.slice Ao69 y180.length co69] rfl (by (try simp only [List.map_toArray, List.map_cons, List.map_nil]); first | done | rfl | (simp only [List.length_drop, List.length_take]; rfl)) ?_; (with_reducible refine (asm_Assemble.calls k _ _ y180 t183 t184 t185 _ ?side1 ?side2 A4.out).mono ?_); (case side1 => repeat (first | exact (Kd.R_reads' HO182.out).2.2 | (with_reducible refine Kd.C_alloc ?_ _) | (with_reducible refine Kd.C_drewN ?_ _) | (with_reducible refine Kd.C_drew ?_))); (case side2 => exact (Kd.R_reads' HO182.out).2.1); rintro e w70 ⟨v186, v188, rfl, ho0, ho1, hb⟩; refine ⟨_, rfl, ?_⟩; have n0_ := Aside0.mk (Kd.R_below (by (with_reducible repeat (first | apply Kd.R_alloc | apply Kd.R_drewN | apply Kd.R_drew)); exact HO182.out) hb); have n1_ := Aside0.mk (Kd.R_lower ho0 (below_size (by repeat (first | (with_reducible first | exact HB.out | apply below_alloc | apply pw_below_drewN | apply below_drew1) | exact HB.out)))); have n2_ := Aside0.mk (Kd.R_lower ho1 (below_size (by repeat (first | (with_reducible first | exact HB.out | apply below_alloc | apply pw_below_drewN | apply below_drew1) | exact HB.out)))); have n3_ := Aside0.mk (below_step (by repeat (first | (with_reducible first | exact HB.out | apply below_alloc | apply pw_below_drewN | apply below_drew1) | exact HB.out)) hb); clear HO182; clear HB; have HO182 := n0_; have HO187 := n1_; have HO189 := n2_; have HB := n3_; clear n0_ n1_ n2_ n3_; (try clear hb); (try clear hb2); (try clear hk); (try clear hi); (try clear ho0); (try clear ho1)) | ((with_reducible refine gate_callee (f := 18) rfl ?_); refine goesL_ (some 17) rfl rfl Try.func18 (by kernel_rfl) rfl #[.int .i64 5, .int .u32 305419896] rfl (by (try simp only [List.map_toArray, List.map_cons, List.map_nil]); first | done | rfl | (simp only [List.length_drop, List.length_take]; rfl)) ?_; (with_reducible refine (asm_Const.calls 5 305419896 t190 t191 t192 t193 t194 t195 t196 _ A5.out).mono ?_); rintro e w71 ⟨rfl, hb⟩; refine ⟨_, rfl, ?_⟩; have n0_ := Aside0.mk (Kd.R_below (by (with_reducible repeat (first | apply Kd.R_alloc | apply Kd.R_drewN | apply Kd.R_drew)); exact HO182.out) hb); have n1_ := Aside0.mk (Kd.R_below (by (with_reducible repeat (first | apply Kd.R_alloc | apply Kd.R_drewN | apply Kd.R_drew)); exact HO187.out) hb); have n2_ := Aside0.mk (Kd.R_below (by (with_reducible repeat (first | apply Kd.R_alloc | apply Kd.R_drewN | apply Kd.R_drew)); exact HO189.out) hb); have n3_ := Aside0.mk (below_step (by repeat (first | (with_reducible first | exact HB.out | apply below_alloc | apply pw_below_drewN | apply below_drew1) | exact HB.out)) hb); clear HO182; clear HO187; clear HO189; clear HB; have HO182 := n0_; have HO187 := n1_; have HO189 := n2_; have HB := n3_; clear n0_ n1_ n2_ n3_; (try clear hb); (try clear hb2); (try clear hk); (try clear hi)) | ((with_reducible refine gate_dst (N := 18) rfl ?_); (try (refine gate_guard (by rfl) ?_; dsimp only)); refine Kd.R_lit k41 _ 41 ?hg (N := 18) ?hd (xs := ([(⟨t190, (⟨t191, t192, t193, t194, t195⟩ : S39), t196⟩ : S41)] : List (S41))) (inner := [.int .i64 t190, .int .i64 t191, .int .i64 t192, .int .i64 t193, .int .i64 t194, .int .i64 t195, .int .i64 t196]) (ok := fun _ => True) (okp := fun _ => True) ?hr ?hp (fun _ hk => hk) trivial (Below.refl _ _) (Nat.le_refl _) (by simp) ?_; (case hd => rfl); (case hg => rfl); (case hr => first | (go_simp; done) | (go_simp; rfl)); (case hp => exact (Reps.c7 (show Kd.M k41 _ _ _ (⟨t190, (⟨t191, t192, t193, t194, t195⟩ : S39), t196⟩ : S41) [.int .i64 t190, .int .i64 t191, .int .i64 t192, .int .i64 t193, .int .i64 t194, .int .i64 t195, .int .i64 t196] from (k41_mkM _ _ _ (⟨t190, (⟨t191, t192, t193, t194, t195⟩ : S39), t196⟩ : S41) )) (Reps.none _ _))); intro v198 w72 ho73 hb hg_ hnew_; clear hg_ hnew_; (first | rw [← Ny197.out] at ho73 | (simp only [Int.reduceToNat] at ho73; rw [← Ny197.out] at ho73)); have n0_ := Aside0.mk (Kd.R_elder' (by (with_reducible repeat (first | apply Kd.R_alloc | apply Kd.R_drewN | apply Kd.R_drew)); exact HO182.out) (Kd.R_base ho73) hb); have n1_ := Aside0.mk (Kd.R_below (by (with_reducible repeat (first | apply Kd.R_alloc | apply Kd.R_drewN | apply Kd.R_drew)); exact HO187.out) hb); have n2_ := Aside0.mk (Kd.R_below (by (with_reducible repeat (first | apply Kd.R_alloc | apply Kd.R_drewN | apply Kd.R_drew)); exact HO189.out) hb); have n3_ := Aside0.mk (Kd.R_lower (Kd.R_new' ho73 (Kd.R_lt (by (with_reducible repeat (first | apply Kd.R_alloc | apply Kd.R_drewN | apply Kd.R_drew)); exact HO182.out))) (below_size (by repeat (first | (with_reducible first | exact HB.out | apply below_alloc | apply pw_below_drewN | apply below_drew1) | exact HB.out)))); have n4_ := Aside0.mk (below_step (by repeat (first | (with_reducible first | exact HB.out | apply below_alloc | apply pw_below_drewN | apply below_drew1) | exact HB.out)) hb); clear HO182; clear HO187; clear HO189; clear HB; have HO182 := n0_; have HO187 := n1_; have HO189 := n2_; have HO199 := n3_; have HB := n4_; clear n0_ n1_ n2_ n3_ n4_; clear hb ho73; obtain ⟨Ao74, co74, eo74⟩ := Kd.R_slice HO199.out; subst eo74) | ((with_reducible refine gate_callee (f := 10) rfl ?_); refine goesL_ (some 19) rfl rfl Try.func10 (by kernel_rfl) rfl #[.slice Ao74 y197.length co74] rfl (by (try simp only [List.map_toArray, List.map_cons, List.map_nil]); first | done | rfl | (simp only [List.length_drop, List.length_take]; rfl)) ?_; (with_reducible refine (asm_Assemble.calls k _ _ y197 t200 t201 t202 _ ?side1 ?side2 A6.out).mono ?_); (case side1 => repeat (first | exact (Kd.R_reads' HO199.out).2.2 | (with_reducible refine Kd.C_alloc ?_ _) | (with_reducible refine Kd.C_drewN ?_ _) | (with_reducible refine Kd.C_drew ?_))); (case side2 => exact (Kd.R_reads' HO199.out).2.1); rintro e w75 ⟨v203, v205, rfl, ho0, ho1, hb⟩; refine ⟨_, rfl, ?_⟩; have n0_ := Aside0.mk (Kd.R_below (by (with_reducible repeat (first | apply Kd.R_alloc | apply Kd.R_drewN | apply Kd.R_drew)); exact HO182.out) hb); have n1_ := Aside0.mk (Kd.R_elder' (by (with_reducible repeat (first | apply Kd.R_alloc | apply Kd.R_drewN | apply Kd.R_drew)); exact HO187.out) (Kd.R_base ho0) hb); have n2_ := Aside0.mk (Kd.R_elder' (by (with_reducible repeat (first | apply Kd.R_alloc | apply Kd.R_drewN | apply Kd.R_drew)); exact HO189.out) (Kd.R_base ho1) hb); have n3_ := Aside0.mk (Kd.R_below (by (with_reducible repeat (first | apply Kd.R_alloc | apply Kd.R_drewN | apply Kd.R_drew)); exact HO199.out) hb); have n4_ := Aside0.mk (Kd.R_lower (Kd.R_new' ho0 (Kd.R_lt (by (with_reducible repeat (first | apply Kd.R_alloc | apply Kd.R_drewN | apply Kd.R_drew)); exact HO187.out))) (below_size (by repeat (first | (with_reducible first | exact HB.out | apply below_alloc | apply pw_below_drewN | apply below_drew1) | exact HB.out)))); have n5_ := Aside0.mk (Kd.R_lower (Kd.R_new' ho1 (Kd.R_lt (by (with_reducible repeat (first | apply Kd.R_alloc | apply Kd.R_drewN | apply Kd.R_drew)); exact HO189.out))) (below_size (by repeat (first | (with_reducible first | exact HB.out | apply below_alloc | apply pw_below_drewN | apply below_drew1) | exact HB.out)))); have n6_ := Aside0.mk (below_step (by repeat (first | (with_reducible first | exact HB.out | apply below_alloc | apply pw_below_drewN | apply below_drew1) | exact HB.out)) hb); clear HO182; clear HO187; clear HO189; clear HO199; clear HB; have HO182 := n0_; have HO187 := n1_; have HO189 := n2_; have HO199 := n3_; have HO204 := n4_; have HO206 := n5_; have HB := n6_; clear n0_ n1_ n2_ n3_ n4_ n5_ n6_; (try clear hb); (try clear hb2); (try clear hk); (try clear hi); (try clear ho0); (try clear ho1); obtain ⟨Ao76, co76, eo76⟩ := Kd.R_slice HO187.out; subst eo76; have p207 : 0 ≤ (1 : Int) := (by omega); have q207 : 1 < (t183.length : Int) := of_decide_eq_true (by first | (with_reducible assumption) | assumption); obtain ⟨ad207, e207, hx207_0⟩ := Kd.at_int (Kd.R_reads' HO187.out).2.2 1 p207 q207; cases e207; (try simp only [show (1 : Int).toNat = 1 from rfl, Nat.reduceMul, Nat.reduceEqDiff, Go.Addr.add, ↓reduceIte] at hx207_0); have qi207 : (1 < t183.length) = True := eq_true (by omega); (try rw [show ((1 : Int)).toNat = 1 from rfl] at hx207_0); replace p207 := eq_true p207; replace q207 := eq_true q207; obtain ⟨Ao77, co77, eo77⟩ := Kd.R_slice HO189.out; subst eo77; have p208 : 0 ≤ (0 : Int) := (by omega); have q208 : 0 < (t184.length : Int) := of_decide_eq_true (by first | (with_reducible assumption) | assumption); obtain ⟨ad208, e208, hx208_0⟩ := Kd.at_int (Kd.R_reads' HO189.out).2.2 0 p208 q208; cases e208; have qi208 : (0 < t184.length) = True := eq_true (by omega); (try rw [show ((0 : Int)).toNat = 0 from rfl] at hx208_0); (try rw [Addr.add_zero'] at hx208_0); replace p208 := eq_true p208; replace q208 := eq_true q208))
                  go_ret
                  exact ⟨by first | rfl | (simp [errW_none, errW_some] <;> rfl) | (simp [*, errW_none, errW_some] <;> rfl), by repeat (first | (with_reducible first | exact HB.out | apply below_alloc | apply pw_below_drewN | apply below_drew1) | exact HB.out)⟩
              · rw [if_neg c13] at H
                exact absurd H (by simp)
            · rw [if_neg c12] at H
              have c12b0 : ((t184.length : Int) == 1) = false := beq_eq_false_iff_ne.mpr c12
              have c12b1 : ((t184.length : Int) != 1) = true := bne_iff_ne.mpr c12
              obtain rfl := Option.some.inj H
              go_enter Try.func8, Try.ntmps8
              go_wp2_with (first | ((with_reducible refine gate_callee (f := 19) rfl ?_); refine goesL_ (some 8) rfl rfl Try.func19 (by kernel_rfl) rfl #[.int .i64 0] rfl (by (try simp only [List.map_toArray, List.map_cons, List.map_nil]); first | done | rfl | (simp only [List.length_drop, List.length_take]; rfl)) ?_; (with_reducible refine (asm_Label.calls 0 t159 t160 t161 t162 t163 t164 t165 _ A1.out).mono ?_); rintro e w78 ⟨rfl, hb⟩; refine ⟨_, rfl, ?_⟩; have n0_ := Aside0.mk (below_step (by repeat (first | (with_reducible first | exact HB.out | apply below_alloc | apply pw_below_drewN | apply below_drew1) | exact HB.out)) hb); clear HB; have HB := n0_; clear n0_; (try clear hb); (try clear hb2); (try clear hk); (try clear hi)) | ((with_reducible refine gate_callee (f := 13) rfl ?_); refine goesL_ (some 9) rfl rfl Try.func13 (by kernel_rfl) rfl #[.int .i64 19, .int .i64 1, .int .i64 1, .int .i64 0, .int .i64 (-1)] rfl (by (try simp only [List.map_toArray, List.map_cons, List.map_nil]); first | done | rfl | (simp only [List.length_drop, List.length_take]; rfl)) ?_; (with_reducible refine (asm_Inst.calls 19 1 1 0 (-1) t166 t167 t168 t169 t170 t171 t172 _ A2.out).mono ?_); rintro e w79 ⟨rfl, hb⟩; refine ⟨_, rfl, ?_⟩; have n0_ := Aside0.mk (below_step (by repeat (first | (with_reducible first | exact HB.out | apply below_alloc | apply pw_below_drewN | apply below_drew1) | exact HB.out)) hb); clear HB; have HB := n0_; clear n0_; (try clear hb); (try clear hb2); (try clear hk); (try clear hi)) | ((with_reducible refine gate_callee (f := 20) rfl ?_); refine goesL_ (some 10) rfl rfl Try.func20 (by kernel_rfl) rfl #[.int .i64 6, .int .i64 1, .int .i64 0, .int .i64 0] rfl (by (try simp only [List.map_toArray, List.map_cons, List.map_nil]); first | done | rfl | (simp only [List.length_drop, List.length_take]; rfl)) ?_; (with_reducible refine (asm_Branch.calls 6 1 0 0 t173 t174 t175 t176 t177 t178 t179 _ A3.out).mono ?_); rintro e w80 ⟨rfl, hb⟩; refine ⟨_, rfl, ?_⟩; have n0_ := Aside0.mk (below_step (by repeat (first | (with_reducible first | exact HB.out | apply below_alloc | apply pw_below_drewN | apply below_drew1) | exact HB.out)) hb); clear HB; have HB := n0_; clear n0_; (try clear hb); (try clear hb2); (try clear hk); (try clear hi)) | ((with_reducible refine gate_dst (N := 11) rfl ?_); (try (refine gate_guard (by rfl) ?_; dsimp only)); refine Kd.R_lit k41 _ 41 ?hg (N := 11) ?hd (xs := ([(⟨t159, (⟨t160, t161, t162, t163, t164⟩ : S39), t165⟩ : S41), (⟨t166, (⟨t167, t168, t169, t170, t171⟩ : S39), t172⟩ : S41), (⟨t173, (⟨t174, t175, t176, t177, t178⟩ : S39), t179⟩ : S41)] : List (S41))) (inner := [.int .i64 t159, .int .i64 t160, .int .i64 t161, .int .i64 t162, .int .i64 t163, .int .i64 t164, .int .i64 t165, .int .i64 t166, .int .i64 t167, .int .i64 t168, .int .i64 t169, .int .i64 t170, .int .i64 t171, .int .i64 t172, .int .i64 t173, .int .i64 t174, .int .i64 t175, .int .i64 t176, .int .i64 t177, .int .i64 t178, .int .i64 t179]) (ok := fun _ => True) (okp := fun _ => True) ?hr ?hp (fun _ hk => hk) trivial (Below.refl _ _) (Nat.le_refl _) (by simp) ?_; (case hd => rfl); (case hg => rfl); (case hr => first | (go_simp; done) | (go_simp; rfl)); (case hp => exact (Reps.c7 (show Kd.M k41 _ _ _ (⟨t159, (⟨t160, t161, t162, t163, t164⟩ : S39), t165⟩ : S41) [.int .i64 t159, .int .i64 t160, .int .i64 t161, .int .i64 t162, .int .i64 t163, .int .i64 t164, .int .i64 t165] from (k41_mkM _ _ _ (⟨t159, (⟨t160, t161, t162, t163, t164⟩ : S39), t165⟩ : S41) )) (Reps.c7 (show Kd.M k41 _ _ _ (⟨t166, (⟨t167, t168, t169, t170, t171⟩ : S39), t172⟩ : S41) [.int .i64 t166, .int .i64 t167, .int .i64 t168, .int .i64 t169, .int .i64 t170, .int .i64 t171, .int .i64 t172] from (k41_mkM _ _ _ (⟨t166, (⟨t167, t168, t169, t170, t171⟩ : S39), t172⟩ : S41) )) (Reps.c7 (show Kd.M k41 _ _ _ (⟨t173, (⟨t174, t175, t176, t177, t178⟩ : S39), t179⟩ : S41) [.int .i64 t173, .int .i64 t174, .int .i64 t175, .int .i64 t176, .int .i64 t177, .int .i64 t178, .int .i64 t179] from (k41_mkM _ _ _ (⟨t173, (⟨t174, t175, t176, t177, t178⟩ : S39), t179⟩ : S41) )) (Reps.none _ _))))); intro v181 w81 ho82 hb hg_ hnew_; clear hg_ hnew_; (first | rw [← Ny180.out] at ho82 | (simp only [Int.reduceToNat] at ho82; rw [← Ny180.out] at ho82)); have n0_ := Aside0.mk (Kd.R_lower ho82 (below_size (by repeat (first | (with_reducible first | exact HB.out | apply below_alloc | apply pw_below_drewN | apply below_drew1) | exact HB.out)))); have n1_ := Aside0.mk (below_step (by repeat (first | (with_reducible first | exact HB.out | apply below_alloc | apply pw_below_drewN | apply below_drew1) | exact HB.out)) hb); clear HB; have HO182 := n0_; have HB := n1_; clear n0_ n1_; clear hb ho82; obtain ⟨Ao83, co83, eo83⟩ := Kd.R_slice HO182.out; subst eo83) | ((with_reducible refine gate_callee (f := 10) rfl ?_); refine goesL_ (some 12) rfl rfl Try.func10 (by kernel_rfl) rfl #[.slice Ao83 y180.length co83] rfl (by (try simp only [List.map_toArray, List.map_cons, List.map_nil]); first | done | rfl | (simp only [List.length_drop, List.length_take]; rfl)) ?_; (with_reducible refine (asm_Assemble.calls k _ _ y180 t183 t184 t185 _ ?side1 ?side2 A4.out).mono ?_); (case side1 => repeat (first | exact (Kd.R_reads' HO182.out).2.2 | (with_reducible refine Kd.C_alloc ?_ _) | (with_reducible refine Kd.C_drewN ?_ _) | (with_reducible refine Kd.C_drew ?_))); (case side2 => exact (Kd.R_reads' HO182.out).2.1); rintro e w84 ⟨v186, v188, rfl, ho0, ho1, hb⟩; refine ⟨_, rfl, ?_⟩; have n0_ := Aside0.mk (Kd.R_below (by (with_reducible repeat (first | apply Kd.R_alloc | apply Kd.R_drewN | apply Kd.R_drew)); exact HO182.out) hb); have n1_ := Aside0.mk (Kd.R_lower ho0 (below_size (by repeat (first | (with_reducible first | exact HB.out | apply below_alloc | apply pw_below_drewN | apply below_drew1) | exact HB.out)))); have n2_ := Aside0.mk (Kd.R_lower ho1 (below_size (by repeat (first | (with_reducible first | exact HB.out | apply below_alloc | apply pw_below_drewN | apply below_drew1) | exact HB.out)))); have n3_ := Aside0.mk (below_step (by repeat (first | (with_reducible first | exact HB.out | apply below_alloc | apply pw_below_drewN | apply below_drew1) | exact HB.out)) hb); clear HO182; clear HB; have HO182 := n0_; have HO187 := n1_; have HO189 := n2_; have HB := n3_; clear n0_ n1_ n2_ n3_; (try clear hb); (try clear hb2); (try clear hk); (try clear hi); (try clear ho0); (try clear ho1)) | ((with_reducible refine gate_callee (f := 18) rfl ?_); refine goesL_ (some 17) rfl rfl Try.func18 (by kernel_rfl) rfl #[.int .i64 5, .int .u32 305419896] rfl (by (try simp only [List.map_toArray, List.map_cons, List.map_nil]); first | done | rfl | (simp only [List.length_drop, List.length_take]; rfl)) ?_; (with_reducible refine (asm_Const.calls 5 305419896 t190 t191 t192 t193 t194 t195 t196 _ A5.out).mono ?_); rintro e w85 ⟨rfl, hb⟩; refine ⟨_, rfl, ?_⟩; have n0_ := Aside0.mk (Kd.R_below (by (with_reducible repeat (first | apply Kd.R_alloc | apply Kd.R_drewN | apply Kd.R_drew)); exact HO182.out) hb); have n1_ := Aside0.mk (Kd.R_below (by (with_reducible repeat (first | apply Kd.R_alloc | apply Kd.R_drewN | apply Kd.R_drew)); exact HO187.out) hb); have n2_ := Aside0.mk (Kd.R_below (by (with_reducible repeat (first | apply Kd.R_alloc | apply Kd.R_drewN | apply Kd.R_drew)); exact HO189.out) hb); have n3_ := Aside0.mk (below_step (by repeat (first | (with_reducible first | exact HB.out | apply below_alloc | apply pw_below_drewN | apply below_drew1) | exact HB.out)) hb); clear HO182; clear HO187; clear HO189; clear HB; have HO182 := n0_; have HO187 := n1_; have HO189 := n2_; have HB := n3_; clear n0_ n1_ n2_ n3_; (try clear hb); (try clear hb2); (try clear hk); (try clear hi)) | ((with_reducible refine gate_dst (N := 18) rfl ?_); (try (refine gate_guard (by rfl) ?_; dsimp only)); refine Kd.R_lit k41 _ 41 ?hg (N := 18) ?hd (xs := ([(⟨t190, (⟨t191, t192, t193, t194, t195⟩ : S39), t196⟩ : S41)] : List (S41))) (inner := [.int .i64 t190, .int .i64 t191, .int .i64 t192, .int .i64 t193, .int .i64 t194, .int .i64 t195, .int .i64 t196]) (ok := fun _ => True) (okp := fun _ => True) ?hr ?hp (fun _ hk => hk) trivial (Below.refl _ _) (Nat.le_refl _) (by simp) ?_; (case hd => rfl); (case hg => rfl); (case hr => first | (go_simp; done) | (go_simp; rfl)); (case hp => exact (Reps.c7 (show Kd.M k41 _ _ _ (⟨t190, (⟨t191, t192, t193, t194, t195⟩ : S39), t196⟩ : S41) [.int .i64 t190, .int .i64 t191, .int .i64 t192, .int .i64 t193, .int .i64 t194, .int .i64 t195, .int .i64 t196] from (k41_mkM _ _ _ (⟨t190, (⟨t191, t192, t193, t194, t195⟩ : S39), t196⟩ : S41) )) (Reps.none _ _))); intro v198 w86 ho87 hb hg_ hnew_; clear hg_ hnew_; (first | rw [← Ny197.out] at ho87 | (simp only [Int.reduceToNat] at ho87; rw [← Ny197.out] at ho87)); have n0_ := Aside0.mk (Kd.R_elder' (by (with_reducible repeat (first | apply Kd.R_alloc | apply Kd.R_drewN | apply Kd.R_drew)); exact HO182.out) (Kd.R_base ho87) hb); have n1_ := Aside0.mk (Kd.R_below (by (with_reducible repeat (first | apply Kd.R_alloc | apply Kd.R_drewN | apply Kd.R_drew)); exact HO187.out) hb); have n2_ := Aside0.mk (Kd.R_below (by (with_reducible repeat (first | apply Kd.R_alloc | apply Kd.R_drewN | apply Kd.R_drew)); exact HO189.out) hb); have n3_ := Aside0.mk (Kd.R_lower (Kd.R_new' ho87 (Kd.R_lt (by (with_reducible repeat (first | apply Kd.R_alloc | apply Kd.R_drewN | apply Kd.R_drew)); exact HO182.out))) (below_size (by repeat (first | (with_reducible first | exact HB.out | apply below_alloc | apply pw_below_drewN | apply below_drew1) | exact HB.out)))); have n4_ := Aside0.mk (below_step (by repeat (first | (with_reducible first | exact HB.out | apply below_alloc | apply pw_below_drewN | apply below_drew1) | exact HB.out)) hb); clear HO182; clear HO187; clear HO189; clear HB; have HO182 := n0_; have HO187 := n1_; have HO189 := n2_; have HO199 := n3_; have HB := n4_; clear n0_ n1_ n2_ n3_ n4_; clear hb ho87; obtain ⟨Ao88, co88, eo88⟩ := Kd.R_slice HO199.out; subst eo88) | ((with_reducible refine gate_callee (f := 10) rfl ?_); refine goesL_ (some 19) rfl rfl Try.func10 (by kernel_rfl) rfl #[.slice Ao88 y197.length co88] rfl (by (try simp only [List.map_toArray, List.map_cons, List.map_nil]); first | done | rfl | (simp only [List.length_drop, List.length_take]; rfl)) ?_; (with_reducible refine (asm_Assemble.calls k _ _ y197 t200 t201 t202 _ ?side1 ?side2 A6.out).mono ?_); (case side1 => repeat (first | exact (Kd.R_reads' HO199.out).2.2 | (with_reducible refine Kd.C_alloc ?_ _) | (with_reducible refine Kd.C_drewN ?_ _) | (with_reducible refine Kd.C_drew ?_))); (case side2 => exact (Kd.R_reads' HO199.out).2.1); rintro e w89 ⟨v203, v205, rfl, ho0, ho1, hb⟩; refine ⟨_, rfl, ?_⟩; have n0_ := Aside0.mk (Kd.R_below (by (with_reducible repeat (first | apply Kd.R_alloc | apply Kd.R_drewN | apply Kd.R_drew)); exact HO182.out) hb); have n1_ := Aside0.mk (Kd.R_elder' (by (with_reducible repeat (first | apply Kd.R_alloc | apply Kd.R_drewN | apply Kd.R_drew)); exact HO187.out) (Kd.R_base ho0) hb); have n2_ := Aside0.mk (Kd.R_elder' (by (with_reducible repeat (first | apply Kd.R_alloc | apply Kd.R_drewN | apply Kd.R_drew)); exact HO189.out) (Kd.R_base ho1) hb); have n3_ := Aside0.mk (Kd.R_below (by (with_reducible repeat (first | apply Kd.R_alloc | apply Kd.R_drewN | apply Kd.R_drew)); exact HO199.out) hb); have n4_ := Aside0.mk (Kd.R_lower (Kd.R_new' ho0 (Kd.R_lt (by (with_reducible repeat (first | apply Kd.R_alloc | apply Kd.R_drewN | apply Kd.R_drew)); exact HO187.out))) (below_size (by repeat (first | (with_reducible first | exact HB.out | apply below_alloc | apply pw_below_drewN | apply below_drew1) | exact HB.out)))); have n5_ := Aside0.mk (Kd.R_lower (Kd.R_new' ho1 (Kd.R_lt (by (with_reducible repeat (first | apply Kd.R_alloc | apply Kd.R_drewN | apply Kd.R_drew)); exact HO189.out))) (below_size (by repeat (first | (with_reducible first | exact HB.out | apply below_alloc | apply pw_below_drewN | apply below_drew1) | exact HB.out)))); have n6_ := Aside0.mk (below_step (by repeat (first | (with_reducible first | exact HB.out | apply below_alloc | apply pw_below_drewN | apply below_drew1) | exact HB.out)) hb); clear HO182; clear HO187; clear HO189; clear HO199; clear HB; have HO182 := n0_; have HO187 := n1_; have HO189 := n2_; have HO199 := n3_; have HO204 := n4_; have HO206 := n5_; have HB := n6_; clear n0_ n1_ n2_ n3_ n4_ n5_ n6_; (try clear hb); (try clear hb2); (try clear hk); (try clear hi); (try clear ho0); (try clear ho1); obtain ⟨Ao90, co90, eo90⟩ := Kd.R_slice HO187.out; subst eo90; have p207 : 0 ≤ (1 : Int) := (by omega); have q207 : 1 < (t183.length : Int) := of_decide_eq_true (by first | (with_reducible assumption) | assumption); obtain ⟨ad207, e207, hx207_0⟩ := Kd.at_int (Kd.R_reads' HO187.out).2.2 1 p207 q207; cases e207; (try simp only [show (1 : Int).toNat = 1 from rfl, Nat.reduceMul, Nat.reduceEqDiff, Go.Addr.add, ↓reduceIte] at hx207_0); have qi207 : (1 < t183.length) = True := eq_true (by omega); (try rw [show ((1 : Int)).toNat = 1 from rfl] at hx207_0); replace p207 := eq_true p207; replace q207 := eq_true q207; obtain ⟨Ao91, co91, eo91⟩ := Kd.R_slice HO189.out; subst eo91))
              go_ret
              exact ⟨by first | rfl | (simp [errW_none, errW_some] <;> rfl) | (simp [*, errW_none, errW_some] <;> rfl), by repeat (first | (with_reducible first | exact HB.out | apply below_alloc | apply pw_below_drewN | apply below_drew1) | exact HB.out)⟩
          · rw [if_neg c11] at H
            have c11b0 : ((rd t183 1) == 4261453539) = false := beq_eq_false_iff_ne.mpr c11
            have c11b1 : ((rd t183 1) != 4261453539) = true := bne_iff_ne.mpr c11
            obtain rfl := Option.some.inj H
            go_enter Try.func8, Try.ntmps8
            go_wp2_with (first | ((with_reducible refine gate_callee (f := 19) rfl ?_); refine goesL_ (some 8) rfl rfl Try.func19 (by kernel_rfl) rfl #[.int .i64 0] rfl (by (try simp only [List.map_toArray, List.map_cons, List.map_nil]); first | done | rfl | (simp only [List.length_drop, List.length_take]; rfl)) ?_; (with_reducible refine (asm_Label.calls 0 t159 t160 t161 t162 t163 t164 t165 _ A1.out).mono ?_); rintro e w92 ⟨rfl, hb⟩; refine ⟨_, rfl, ?_⟩; have n0_ := Aside0.mk (below_step (by repeat (first | (with_reducible first | exact HB.out | apply below_alloc | apply pw_below_drewN | apply below_drew1) | exact HB.out)) hb); clear HB; have HB := n0_; clear n0_; (try clear hb); (try clear hb2); (try clear hk); (try clear hi)) | ((with_reducible refine gate_callee (f := 13) rfl ?_); refine goesL_ (some 9) rfl rfl Try.func13 (by kernel_rfl) rfl #[.int .i64 19, .int .i64 1, .int .i64 1, .int .i64 0, .int .i64 (-1)] rfl (by (try simp only [List.map_toArray, List.map_cons, List.map_nil]); first | done | rfl | (simp only [List.length_drop, List.length_take]; rfl)) ?_; (with_reducible refine (asm_Inst.calls 19 1 1 0 (-1) t166 t167 t168 t169 t170 t171 t172 _ A2.out).mono ?_); rintro e w93 ⟨rfl, hb⟩; refine ⟨_, rfl, ?_⟩; have n0_ := Aside0.mk (below_step (by repeat (first | (with_reducible first | exact HB.out | apply below_alloc | apply pw_below_drewN | apply below_drew1) | exact HB.out)) hb); clear HB; have HB := n0_; clear n0_; (try clear hb); (try clear hb2); (try clear hk); (try clear hi)) | ((with_reducible refine gate_callee (f := 20) rfl ?_); refine goesL_ (some 10) rfl rfl Try.func20 (by kernel_rfl) rfl #[.int .i64 6, .int .i64 1, .int .i64 0, .int .i64 0] rfl (by (try simp only [List.map_toArray, List.map_cons, List.map_nil]); first | done | rfl | (simp only [List.length_drop, List.length_take]; rfl)) ?_; (with_reducible refine (asm_Branch.calls 6 1 0 0 t173 t174 t175 t176 t177 t178 t179 _ A3.out).mono ?_); rintro e w94 ⟨rfl, hb⟩; refine ⟨_, rfl, ?_⟩; have n0_ := Aside0.mk (below_step (by repeat (first | (with_reducible first | exact HB.out | apply below_alloc | apply pw_below_drewN | apply below_drew1) | exact HB.out)) hb); clear HB; have HB := n0_; clear n0_; (try clear hb); (try clear hb2); (try clear hk); (try clear hi)) | ((with_reducible refine gate_dst (N := 11) rfl ?_); (try (refine gate_guard (by rfl) ?_; dsimp only)); refine Kd.R_lit k41 _ 41 ?hg (N := 11) ?hd (xs := ([(⟨t159, (⟨t160, t161, t162, t163, t164⟩ : S39), t165⟩ : S41), (⟨t166, (⟨t167, t168, t169, t170, t171⟩ : S39), t172⟩ : S41), (⟨t173, (⟨t174, t175, t176, t177, t178⟩ : S39), t179⟩ : S41)] : List (S41))) (inner := [.int .i64 t159, .int .i64 t160, .int .i64 t161, .int .i64 t162, .int .i64 t163, .int .i64 t164, .int .i64 t165, .int .i64 t166, .int .i64 t167, .int .i64 t168, .int .i64 t169, .int .i64 t170, .int .i64 t171, .int .i64 t172, .int .i64 t173, .int .i64 t174, .int .i64 t175, .int .i64 t176, .int .i64 t177, .int .i64 t178, .int .i64 t179]) (ok := fun _ => True) (okp := fun _ => True) ?hr ?hp (fun _ hk => hk) trivial (Below.refl _ _) (Nat.le_refl _) (by simp) ?_; (case hd => rfl); (case hg => rfl); (case hr => first | (go_simp; done) | (go_simp; rfl)); (case hp => exact (Reps.c7 (show Kd.M k41 _ _ _ (⟨t159, (⟨t160, t161, t162, t163, t164⟩ : S39), t165⟩ : S41) [.int .i64 t159, .int .i64 t160, .int .i64 t161, .int .i64 t162, .int .i64 t163, .int .i64 t164, .int .i64 t165] from (k41_mkM _ _ _ (⟨t159, (⟨t160, t161, t162, t163, t164⟩ : S39), t165⟩ : S41) )) (Reps.c7 (show Kd.M k41 _ _ _ (⟨t166, (⟨t167, t168, t169, t170, t171⟩ : S39), t172⟩ : S41) [.int .i64 t166, .int .i64 t167, .int .i64 t168, .int .i64 t169, .int .i64 t170, .int .i64 t171, .int .i64 t172] from (k41_mkM _ _ _ (⟨t166, (⟨t167, t168, t169, t170, t171⟩ : S39), t172⟩ : S41) )) (Reps.c7 (show Kd.M k41 _ _ _ (⟨t173, (⟨t174, t175, t176, t177, t178⟩ : S39), t179⟩ : S41) [.int .i64 t173, .int .i64 t174, .int .i64 t175, .int .i64 t176, .int .i64 t177, .int .i64 t178, .int .i64 t179] from (k41_mkM _ _ _ (⟨t173, (⟨t174, t175, t176, t177, t178⟩ : S39), t179⟩ : S41) )) (Reps.none _ _))))); intro v181 w95 ho96 hb hg_ hnew_; clear hg_ hnew_; (first | rw [← Ny180.out] at ho96 | (simp only [Int.reduceToNat] at ho96; rw [← Ny180.out] at ho96)); have n0_ := Aside0.mk (Kd.R_lower ho96 (below_size (by repeat (first | (with_reducible first | exact HB.out | apply below_alloc | apply pw_below_drewN | apply below_drew1) | exact HB.out)))); have n1_ := Aside0.mk (below_step (by repeat (first | (with_reducible first | exact HB.out | apply below_alloc | apply pw_below_drewN | apply below_drew1) | exact HB.out)) hb); clear HB; have HO182 := n0_; have HB := n1_; clear n0_ n1_; clear hb ho96; obtain ⟨Ao97, co97, eo97⟩ := Kd.R_slice HO182.out; subst eo97) | ((with_reducible refine gate_callee (f := 10) rfl ?_); refine goesL_ (some 12) rfl rfl Try.func10 (by kernel_rfl) rfl #[.slice Ao97 y180.length co97] rfl (by (try simp only [List.map_toArray, List.map_cons, List.map_nil]); first | done | rfl | (simp only [List.length_drop, List.length_take]; rfl)) ?_; (with_reducible refine (asm_Assemble.calls k _ _ y180 t183 t184 t185 _ ?side1 ?side2 A4.out).mono ?_); (case side1 => repeat (first | exact (Kd.R_reads' HO182.out).2.2 | (with_reducible refine Kd.C_alloc ?_ _) | (with_reducible refine Kd.C_drewN ?_ _) | (with_reducible refine Kd.C_drew ?_))); (case side2 => exact (Kd.R_reads' HO182.out).2.1); rintro e w98 ⟨v186, v188, rfl, ho0, ho1, hb⟩; refine ⟨_, rfl, ?_⟩; have n0_ := Aside0.mk (Kd.R_below (by (with_reducible repeat (first | apply Kd.R_alloc | apply Kd.R_drewN | apply Kd.R_drew)); exact HO182.out) hb); have n1_ := Aside0.mk (Kd.R_lower ho0 (below_size (by repeat (first | (with_reducible first | exact HB.out | apply below_alloc | apply pw_below_drewN | apply below_drew1) | exact HB.out)))); have n2_ := Aside0.mk (Kd.R_lower ho1 (below_size (by repeat (first | (with_reducible first | exact HB.out | apply below_alloc | apply pw_below_drewN | apply below_drew1) | exact HB.out)))); have n3_ := Aside0.mk (below_step (by repeat (first | (with_reducible first | exact HB.out | apply below_alloc | apply pw_below_drewN | apply below_drew1) | exact HB.out)) hb); clear HO182; clear HB; have HO182 := n0_; have HO187 := n1_; have HO189 := n2_; have HB := n3_; clear n0_ n1_ n2_ n3_; (try clear hb); (try clear hb2); (try clear hk); (try clear hi); (try clear ho0); (try clear ho1)) | ((with_reducible refine gate_callee (f := 18) rfl ?_); refine goesL_ (some 17) rfl rfl Try.func18 (by kernel_rfl) rfl #[.int .i64 5, .int .u32 305419896] rfl (by (try simp only [List.map_toArray, List.map_cons, List.map_nil]); first | done | rfl | (simp only [List.length_drop, List.length_take]; rfl)) ?_; (with_reducible refine (asm_Const.calls 5 305419896 t190 t191 t192 t193 t194 t195 t196 _ A5.out).mono ?_); rintro e w99 ⟨rfl, hb⟩; refine ⟨_, rfl, ?_⟩; have n0_ := Aside0.mk (Kd.R_below (by (with_reducible repeat (first | apply Kd.R_alloc | apply Kd.R_drewN | apply Kd.R_drew)); exact HO182.out) hb); have n1_ := Aside0.mk (Kd.R_below (by (with_reducible repeat (first | apply Kd.R_alloc | apply Kd.R_drewN | apply Kd.R_drew)); exact HO187.out) hb); have n2_ := Aside0.mk (Kd.R_below (by (with_reducible repeat (first | apply Kd.R_alloc | apply Kd.R_drewN | apply Kd.R_drew)); exact HO189.out) hb); have n3_ := Aside0.mk (below_step (by repeat (first | (with_reducible first | exact HB.out | apply below_alloc | apply pw_below_drewN | apply below_drew1) | exact HB.out)) hb); clear HO182; clear HO187; clear HO189; clear HB; have HO182 := n0_; have HO187 := n1_; have HO189 := n2_; have HB := n3_; clear n0_ n1_ n2_ n3_; (try clear hb); (try clear hb2); (try clear hk); (try clear hi)) | ((with_reducible refine gate_dst (N := 18) rfl ?_); (try (refine gate_guard (by rfl) ?_; dsimp only)); refine Kd.R_lit k41 _ 41 ?hg (N := 18) ?hd (xs := ([(⟨t190, (⟨t191, t192, t193, t194, t195⟩ : S39), t196⟩ : S41)] : List (S41))) (inner := [.int .i64 t190, .int .i64 t191, .int .i64 t192, .int .i64 t193, .int .i64 t194, .int .i64 t195, .int .i64 t196]) (ok := fun _ => True) (okp := fun _ => True) ?hr ?hp (fun _ hk => hk) trivial (Below.refl _ _) (Nat.le_refl _) (by simp) ?_; (case hd => rfl); (case hg => rfl); (case hr => first | (go_simp; done) | (go_simp; rfl)); (case hp => exact (Reps.c7 (show Kd.M k41 _ _ _ (⟨t190, (⟨t191, t192, t193, t194, t195⟩ : S39), t196⟩ : S41) [.int .i64 t190, .int .i64 t191, .int .i64 t192, .int .i64 t193, .int .i64 t194, .int .i64 t195, .int .i64 t196] from (k41_mkM _ _ _ (⟨t190, (⟨t191, t192, t193, t194, t195⟩ : S39), t196⟩ : S41) )) (Reps.none _ _))); intro v198 w100 ho101 hb hg_ hnew_; clear hg_ hnew_; (first | rw [← Ny197.out] at ho101 | (simp only [Int.reduceToNat] at ho101; rw [← Ny197.out] at ho101)); have n0_ := Aside0.mk (Kd.R_elder' (by (with_reducible repeat (first | apply Kd.R_alloc | apply Kd.R_drewN | apply Kd.R_drew)); exact HO182.out) (Kd.R_base ho101) hb); have n1_ := Aside0.mk (Kd.R_below (by (with_reducible repeat (first | apply Kd.R_alloc | apply Kd.R_drewN | apply Kd.R_drew)); exact HO187.out) hb); have n2_ := Aside0.mk (Kd.R_below (by (with_reducible repeat (first | apply Kd.R_alloc | apply Kd.R_drewN | apply Kd.R_drew)); exact HO189.out) hb); have n3_ := Aside0.mk (Kd.R_lower (Kd.R_new' ho101 (Kd.R_lt (by (with_reducible repeat (first | apply Kd.R_alloc | apply Kd.R_drewN | apply Kd.R_drew)); exact HO182.out))) (below_size (by repeat (first | (with_reducible first | exact HB.out | apply below_alloc | apply pw_below_drewN | apply below_drew1) | exact HB.out)))); have n4_ := Aside0.mk (below_step (by repeat (first | (with_reducible first | exact HB.out | apply below_alloc | apply pw_below_drewN | apply below_drew1) | exact HB.out)) hb); clear HO182; clear HO187; clear HO189; clear HB; have HO182 := n0_; have HO187 := n1_; have HO189 := n2_; have HO199 := n3_; have HB := n4_; clear n0_ n1_ n2_ n3_ n4_; clear hb ho101; obtain ⟨Ao102, co102, eo102⟩ := Kd.R_slice HO199.out; subst eo102) | ((with_reducible refine gate_callee (f := 10) rfl ?_); refine goesL_ (some 19) rfl rfl Try.func10 (by kernel_rfl) rfl #[.slice Ao102 y197.length co102] rfl (by (try simp only [List.map_toArray, List.map_cons, List.map_nil]); first | done | rfl | (simp only [List.length_drop, List.length_take]; rfl)) ?_; (with_reducible refine (asm_Assemble.calls k _ _ y197 t200 t201 t202 _ ?side1 ?side2 A6.out).mono ?_); (case side1 => repeat (first | exact (Kd.R_reads' HO199.out).2.2 | (with_reducible refine Kd.C_alloc ?_ _) | (with_reducible refine Kd.C_drewN ?_ _) | (with_reducible refine Kd.C_drew ?_))); (case side2 => exact (Kd.R_reads' HO199.out).2.1); rintro e w103 ⟨v203, v205, rfl, ho0, ho1, hb⟩; refine ⟨_, rfl, ?_⟩; have n0_ := Aside0.mk (Kd.R_below (by (with_reducible repeat (first | apply Kd.R_alloc | apply Kd.R_drewN | apply Kd.R_drew)); exact HO182.out) hb); have n1_ := Aside0.mk (Kd.R_elder' (by (with_reducible repeat (first | apply Kd.R_alloc | apply Kd.R_drewN | apply Kd.R_drew)); exact HO187.out) (Kd.R_base ho0) hb); have n2_ := Aside0.mk (Kd.R_elder' (by (with_reducible repeat (first | apply Kd.R_alloc | apply Kd.R_drewN | apply Kd.R_drew)); exact HO189.out) (Kd.R_base ho1) hb); have n3_ := Aside0.mk (Kd.R_below (by (with_reducible repeat (first | apply Kd.R_alloc | apply Kd.R_drewN | apply Kd.R_drew)); exact HO199.out) hb); have n4_ := Aside0.mk (Kd.R_lower (Kd.R_new' ho0 (Kd.R_lt (by (with_reducible repeat (first | apply Kd.R_alloc | apply Kd.R_drewN | apply Kd.R_drew)); exact HO187.out))) (below_size (by repeat (first | (with_reducible first | exact HB.out | apply below_alloc | apply pw_below_drewN | apply below_drew1) | exact HB.out)))); have n5_ := Aside0.mk (Kd.R_lower (Kd.R_new' ho1 (Kd.R_lt (by (with_reducible repeat (first | apply Kd.R_alloc | apply Kd.R_drewN | apply Kd.R_drew)); exact HO189.out))) (below_size (by repeat (first | (with_reducible first | exact HB.out | apply below_alloc | apply pw_below_drewN | apply below_drew1) | exact HB.out)))); have n6_ := Aside0.mk (below_step (by repeat (first | (with_reducible first | exact HB.out | apply below_alloc | apply pw_below_drewN | apply below_drew1) | exact HB.out)) hb); clear HO182; clear HO187; clear HO189; clear HO199; clear HB; have HO182 := n0_; have HO187 := n1_; have HO189 := n2_; have HO199 := n3_; have HO204 := n4_; have HO206 := n5_; have HB := n6_; clear n0_ n1_ n2_ n3_ n4_ n5_ n6_; (try clear hb); (try clear hb2); (try clear hk); (try clear hi); (try clear ho0); (try clear ho1); obtain ⟨Ao104, co104, eo104⟩ := Kd.R_slice HO187.out; subst eo104; have p207 : 0 ≤ (1 : Int) := (by omega); have q207 : 1 < (t183.length : Int) := of_decide_eq_true (by first | (with_reducible assumption) | assumption); obtain ⟨ad207, e207, hx207_0⟩ := Kd.at_int (Kd.R_reads' HO187.out).2.2 1 p207 q207; cases e207; (try simp only [show (1 : Int).toNat = 1 from rfl, Nat.reduceMul, Nat.reduceEqDiff, Go.Addr.add, ↓reduceIte] at hx207_0); have qi207 : (1 < t183.length) = True := eq_true (by omega); (try rw [show ((1 : Int)).toNat = 1 from rfl] at hx207_0); replace p207 := eq_true p207; replace q207 := eq_true q207))
            go_ret
            exact ⟨by first | rfl | (simp [errW_none, errW_some] <;> rfl) | (simp [*, errW_none, errW_some] <;> rfl), by repeat (first | (with_reducible first | exact HB.out | apply below_alloc | apply pw_below_drewN | apply below_drew1) | exact HB.out)⟩
        · rw [if_neg c10] at H
          exact absurd H (by simp)
      · rw [if_neg c9] at H
        have c9b0 : ((t183.length : Int) == 2) = false := beq_eq_false_iff_ne.mpr c9
        have c9b1 : ((t183.length : Int) != 2) = true := bne_iff_ne.mpr c9
        obtain rfl := Option.some.inj H
        go_enter Try.func8, Try.ntmps8
        go_wp2_with (first | ((with_reducible refine gate_callee (f := 19) rfl ?_); refine goesL_ (some 8) rfl rfl Try.func19 (by kernel_rfl) rfl #[.int .i64 0] rfl (by (try simp only [List.map_toArray, List.map_cons, List.map_nil]); first | done | rfl | (simp only [List.length_drop, List.length_take]; rfl)) ?_; (with_reducible refine (asm_Label.calls 0 t159 t160 t161 t162 t163 t164 t165 _ A1.out).mono ?_); rintro e w105 ⟨rfl, hb⟩; refine ⟨_, rfl, ?_⟩; have n0_ := Aside0.mk (below_step (by repeat (first | (with_reducible first | exact HB.out | apply below_alloc | apply pw_below_drewN | apply below_drew1) | exact HB.out)) hb); clear HB; have HB := n0_; clear n0_; (try clear hb); (try clear hb2); (try clear hk); (try clear hi)) | ((with_reducible refine gate_callee (f := 13) rfl ?_); refine goesL_ (some 9) rfl rfl Try.func13 (by kernel_rfl) rfl #[.int .i64 19, .int .i64 1, .int .i64 1, .int .i64 0, .int .i64 (-1)] rfl (by (try simp only [List.map_toArray, List.map_cons, List.map_nil]); first | done | rfl | (simp only [List.length_drop, List.length_take]; rfl)) ?_; (with_reducible refine (asm_Inst.calls 19 1 1 0 (-1) t166 t167 t168 t169 t170 t171 t172 _ A2.out).mono ?_); rintro e w106 ⟨rfl, hb⟩; refine ⟨_, rfl, ?_⟩; have n0_ := Aside0.mk (below_step (by repeat (first | (with_reducible first | exact HB.out | apply below_alloc | apply pw_below_drewN | apply below_drew1) | exact HB.out)) hb); clear HB; have HB := n0_; clear n0_; (try clear hb); (try clear hb2); (try clear hk); (try clear hi)) | ((with_reducible refine gate_callee (f := 20) rfl ?_); refine goesL_ (some 10) rfl rfl Try.func20 (by kernel_rfl) rfl #[.int .i64 6, .int .i64 1, .int .i64 0, .int .i64 0] rfl (by (try simp only [List.map_toArray, List.map_cons, List.map_nil]); first | done | rfl | (simp only [List.length_drop, List.length_take]; rfl)) ?_; (with_reducible refine (asm_Branch.calls 6 1 0 0 t173 t174 t175 t176 t177 t178 t179 _ A3.out).mono ?_); rintro e w107 ⟨rfl, hb⟩; refine ⟨_, rfl, ?_⟩; have n0_ := Aside0.mk (below_step (by repeat (first | (with_reducible first | exact HB.out | apply below_alloc | apply pw_below_drewN | apply below_drew1) | exact HB.out)) hb); clear HB; have HB := n0_; clear n0_; (try clear hb); (try clear hb2); (try clear hk); (try clear hi)) | ((with_reducible refine gate_dst (N := 11) rfl ?_); (try (refine gate_guard (by rfl) ?_; dsimp only)); refine Kd.R_lit k41 _ 41 ?hg (N := 11) ?hd (xs := ([(⟨t159, (⟨t160, t161, t162, t163, t164⟩ : S39), t165⟩ : S41), (⟨t166, (⟨t167, t168, t169, t170, t171⟩ : S39), t172⟩ : S41), (⟨t173, (⟨t174, t175, t176, t177, t178⟩ : S39), t179⟩ : S41)] : List (S41))) (inner := [.int .i64 t159, .int .i64 t160, .int .i64 t161, .int .i64 t162, .int .i64 t163, .int .i64 t164, .int .i64 t165, .int .i64 t166, .int .i64 t167, .int .i64 t168, .int .i64 t169, .int .i64 t170, .int .i64 t171, .int .i64 t172, .int .i64 t173, .int .i64 t174, .int .i64 t175, .int .i64 t176, .int .i64 t177, .int .i64 t178, .int .i64 t179]) (ok := fun _ => True) (okp := fun _ => True) ?hr ?hp (fun _ hk => hk) trivial (Below.refl _ _) (Nat.le_refl _) (by simp) ?_; (case hd => rfl); (case hg => rfl); (case hr => first | (go_simp; done) | (go_simp; rfl)); (case hp => exact (Reps.c7 (show Kd.M k41 _ _ _ (⟨t159, (⟨t160, t161, t162, t163, t164⟩ : S39), t165⟩ : S41) [.int .i64 t159, .int .i64 t160, .int .i64 t161, .int .i64 t162, .int .i64 t163, .int .i64 t164, .int .i64 t165] from (k41_mkM _ _ _ (⟨t159, (⟨t160, t161, t162, t163, t164⟩ : S39), t165⟩ : S41) )) (Reps.c7 (show Kd.M k41 _ _ _ (⟨t166, (⟨t167, t168, t169, t170, t171⟩ : S39), t172⟩ : S41) [.int .i64 t166, .int .i64 t167, .int .i64 t168, .int .i64 t169, .int .i64 t170, .int .i64 t171, .int .i64 t172] from (k41_mkM _ _ _ (⟨t166, (⟨t167, t168, t169, t170, t171⟩ : S39), t172⟩ : S41) )) (Reps.c7 (show Kd.M k41 _ _ _ (⟨t173, (⟨t174, t175, t176, t177, t178⟩ : S39), t179⟩ : S41) [.int .i64 t173, .int .i64 t174, .int .i64 t175, .int .i64 t176, .int .i64 t177, .int .i64 t178, .int .i64 t179] from (k41_mkM _ _ _ (⟨t173, (⟨t174, t175, t176, t177, t178⟩ : S39), t179⟩ : S41) )) (Reps.none _ _))))); intro v181 w108 ho109 hb hg_ hnew_; clear hg_ hnew_; (first | rw [← Ny180.out] at ho109 | (simp only [Int.reduceToNat] at ho109; rw [← Ny180.out] at ho109)); have n0_ := Aside0.mk (Kd.R_lower ho109 (below_size (by repeat (first | (with_reducible first | exact HB.out | apply below_alloc | apply pw_below_drewN | apply below_drew1) | exact HB.out)))); have n1_ := Aside0.mk (below_step (by repeat (first | (with_reducible first | exact HB.out | apply below_alloc | apply pw_below_drewN | apply below_drew1) | exact HB.out)) hb); clear HB; have HO182 := n0_; have HB := n1_; clear n0_ n1_; clear hb ho109; obtain ⟨Ao110, co110, eo110⟩ := Kd.R_slice HO182.out; subst eo110) | ((with_reducible refine gate_callee (f := 10) rfl ?_); refine goesL_ (some 12) rfl rfl Try.func10 (by kernel_rfl) rfl #[.slice Ao110 y180.length co110] rfl (by (try simp only [List.map_toArray, List.map_cons, List.map_nil]); first | done | rfl | (simp only [List.length_drop, List.length_take]; rfl)) ?_; (with_reducible refine (asm_Assemble.calls k _ _ y180 t183 t184 t185 _ ?side1 ?side2 A4.out).mono ?_); (case side1 => repeat (first | exact (Kd.R_reads' HO182.out).2.2 | (with_reducible refine Kd.C_alloc ?_ _) | (with_reducible refine Kd.C_drewN ?_ _) | (with_reducible refine Kd.C_drew ?_))); (case side2 => exact (Kd.R_reads' HO182.out).2.1); rintro e w111 ⟨v186, v188, rfl, ho0, ho1, hb⟩; refine ⟨_, rfl, ?_⟩; have n0_ := Aside0.mk (Kd.R_below (by (with_reducible repeat (first | apply Kd.R_alloc | apply Kd.R_drewN | apply Kd.R_drew)); exact HO182.out) hb); have n1_ := Aside0.mk (Kd.R_lower ho0 (below_size (by repeat (first | (with_reducible first | exact HB.out | apply below_alloc | apply pw_below_drewN | apply below_drew1) | exact HB.out)))); have n2_ := Aside0.mk (Kd.R_lower ho1 (below_size (by repeat (first | (with_reducible first | exact HB.out | apply below_alloc | apply pw_below_drewN | apply below_drew1) | exact HB.out)))); have n3_ := Aside0.mk (below_step (by repeat (first | (with_reducible first | exact HB.out | apply below_alloc | apply pw_below_drewN | apply below_drew1) | exact HB.out)) hb); clear HO182; clear HB; have HO182 := n0_; have HO187 := n1_; have HO189 := n2_; have HB := n3_; clear n0_ n1_ n2_ n3_; (try clear hb); (try clear hb2); (try clear hk); (try clear hi); (try clear ho0); (try clear ho1)) | ((with_reducible refine gate_callee (f := 18) rfl ?_); refine goesL_ (some 17) rfl rfl Try.func18 (by kernel_rfl) rfl #[.int .i64 5, .int .u32 305419896] rfl (by (try simp only [List.map_toArray, List.map_cons, List.map_nil]); first | done | rfl | (simp only [List.length_drop, List.length_take]; rfl)) ?_; (with_reducible refine (asm_Const.calls 5 305419896 t190 t191 t192 t193 t194 t195 t196 _ A5.out).mono ?_); rintro e w112 ⟨rfl, hb⟩; refine ⟨_, rfl, ?_⟩; have n0_ := Aside0.mk (Kd.R_below (by (with_reducible repeat (first | apply Kd.R_alloc | apply Kd.R_drewN | apply Kd.R_drew)); exact HO182.out) hb); have n1_ := Aside0.mk (Kd.R_below (by (with_reducible repeat (first | apply Kd.R_alloc | apply Kd.R_drewN | apply Kd.R_drew)); exact HO187.out) hb); have n2_ := Aside0.mk (Kd.R_below (by (with_reducible repeat (first | apply Kd.R_alloc | apply Kd.R_drewN | apply Kd.R_drew)); exact HO189.out) hb); have n3_ := Aside0.mk (below_step (by repeat (first | (with_reducible first | exact HB.out | apply below_alloc | apply pw_below_drewN | apply below_drew1) | exact HB.out)) hb); clear HO182; clear HO187; clear HO189; clear HB; have HO182 := n0_; have HO187 := n1_; have HO189 := n2_; have HB := n3_; clear n0_ n1_ n2_ n3_; (try clear hb); (try clear hb2); (try clear hk); (try clear hi)) | ((with_reducible refine gate_dst (N := 18) rfl ?_); (try (refine gate_guard (by rfl) ?_; dsimp only)); refine Kd.R_lit k41 _ 41 ?hg (N := 18) ?hd (xs := ([(⟨t190, (⟨t191, t192, t193, t194, t195⟩ : S39), t196⟩ : S41)] : List (S41))) (inner := [.int .i64 t190, .int .i64 t191, .int .i64 t192, .int .i64 t193, .int .i64 t194, .int .i64 t195, .int .i64 t196]) (ok := fun _ => True) (okp := fun _ => True) ?hr ?hp (fun _ hk => hk) trivial (Below.refl _ _) (Nat.le_refl _) (by simp) ?_; (case hd => rfl); (case hg => rfl); (case hr => first | (go_simp; done) | (go_simp; rfl)); (case hp => exact (Reps.c7 (show Kd.M k41 _ _ _ (⟨t190, (⟨t191, t192, t193, t194, t195⟩ : S39), t196⟩ : S41) [.int .i64 t190, .int .i64 t191, .int .i64 t192, .int .i64 t193, .int .i64 t194, .int .i64 t195, .int .i64 t196] from (k41_mkM _ _ _ (⟨t190, (⟨t191, t192, t193, t194, t195⟩ : S39), t196⟩ : S41) )) (Reps.none _ _))); intro v198 w113 ho114 hb hg_ hnew_; clear hg_ hnew_; (first | rw [← Ny197.out] at ho114 | (simp only [Int.reduceToNat] at ho114; rw [← Ny197.out] at ho114)); have n0_ := Aside0.mk (Kd.R_elder' (by (with_reducible repeat (first | apply Kd.R_alloc | apply Kd.R_drewN | apply Kd.R_drew)); exact HO182.out) (Kd.R_base ho114) hb); have n1_ := Aside0.mk (Kd.R_below (by (with_reducible repeat (first | apply Kd.R_alloc | apply Kd.R_drewN | apply Kd.R_drew)); exact HO187.out) hb); have n2_ := Aside0.mk (Kd.R_below (by (with_reducible repeat (first | apply Kd.R_alloc | apply Kd.R_drewN | apply Kd.R_drew)); exact HO189.out) hb); have n3_ := Aside0.mk (Kd.R_lower (Kd.R_new' ho114 (Kd.R_lt (by (with_reducible repeat (first | apply Kd.R_alloc | apply Kd.R_drewN | apply Kd.R_drew)); exact HO182.out))) (below_size (by repeat (first | (with_reducible first | exact HB.out | apply below_alloc | apply pw_below_drewN | apply below_drew1) | exact HB.out)))); have n4_ := Aside0.mk (below_step (by repeat (first | (with_reducible first | exact HB.out | apply below_alloc | apply pw_below_drewN | apply below_drew1) | exact HB.out)) hb); clear HO182; clear HO187; clear HO189; clear HB; have HO182 := n0_; have HO187 := n1_; have HO189 := n2_; have HO199 := n3_; have HB := n4_; clear n0_ n1_ n2_ n3_ n4_; clear hb ho114; obtain ⟨Ao115, co115, eo115⟩ := Kd.R_slice HO199.out; subst eo115) | ((with_reducible refine gate_callee (f := 10) rfl ?_); refine goesL_ (some 19) rfl rfl Try.func10 (by kernel_rfl) rfl #[.slice Ao115 y197.length co115] rfl (by (try simp only [List.map_toArray, List.map_cons, List.map_nil]); first | done | rfl | (simp only [List.length_drop, List.length_take]; rfl)) ?_; (with_reducible refine (asm_Assemble.calls k _ _ y197 t200 t201 t202 _ ?side1 ?side2 A6.out).mono ?_); (case side1 => repeat (first | exact (Kd.R_reads' HO199.out).2.2 | (with_reducible refine Kd.C_alloc ?_ _) | (with_reducible refine Kd.C_drewN ?_ _) | (with_reducible refine Kd.C_drew ?_))); (case side2 => exact (Kd.R_reads' HO199.out).2.1); rintro e w116 ⟨v203, v205, rfl, ho0, ho1, hb⟩; refine ⟨_, rfl, ?_⟩; have n0_ := Aside0.mk (Kd.R_below (by (with_reducible repeat (first | apply Kd.R_alloc | apply Kd.R_drewN | apply Kd.R_drew)); exact HO182.out) hb); have n1_ := Aside0.mk (Kd.R_elder' (by (with_reducible repeat (first | apply Kd.R_alloc | apply Kd.R_drewN | apply Kd.R_drew)); exact HO187.out) (Kd.R_base ho0) hb); have n2_ := Aside0.mk (Kd.R_elder' (by (with_reducible repeat (first | apply Kd.R_alloc | apply Kd.R_drewN | apply Kd.R_drew)); exact HO189.out) (Kd.R_base ho1) hb); have n3_ := Aside0.mk (Kd.R_below (by (with_reducible repeat (first | apply Kd.R_alloc | apply Kd.R_drewN | apply Kd.R_drew)); exact HO199.out) hb); have n4_ := Aside0.mk (Kd.R_lower (Kd.R_new' ho0 (Kd.R_lt (by (with_reducible repeat (first | apply Kd.R_alloc | apply Kd.R_drewN | apply Kd.R_drew)); exact HO187.out))) (below_size (by repeat (first | (with_reducible first | exact HB.out | apply below_alloc | apply pw_below_drewN | apply below_drew1) | exact HB.out)))); have n5_ := Aside0.mk (Kd.R_lower (Kd.R_new' ho1 (Kd.R_lt (by (with_reducible repeat (first | apply Kd.R_alloc | apply Kd.R_drewN | apply Kd.R_drew)); exact HO189.out))) (below_size (by repeat (first | (with_reducible first | exact HB.out | apply below_alloc | apply pw_below_drewN | apply below_drew1) | exact HB.out)))); have n6_ := Aside0.mk (below_step (by repeat (first | (with_reducible first | exact HB.out | apply below_alloc | apply pw_below_drewN | apply below_drew1) | exact HB.out)) hb); clear HO182; clear HO187; clear HO189; clear HO199; clear HB; have HO182 := n0_; have HO187 := n1_; have HO189 := n2_; have HO199 := n3_; have HO204 := n4_; have HO206 := n5_; have HB := n6_; clear n0_ n1_ n2_ n3_ n4_ n5_ n6_; (try clear hb); (try clear hb2); (try clear hk); (try clear hi); (try clear ho0); (try clear ho1); obtain ⟨Ao117, co117, eo117⟩ := Kd.R_slice HO187.out; subst eo117))
        go_ret
        exact ⟨by first | rfl | (simp [errW_none, errW_some] <;> rfl) | (simp [*, errW_none, errW_some] <;> rfl), by repeat (first | (with_reducible first | exact HB.out | apply below_alloc | apply pw_below_drewN | apply below_drew1) | exact HB.out)⟩
    · rw [if_neg c8] at H
      have c8b0 : (t202 == 0) = false := beq_eq_false_iff_ne.mpr c8
      have c8b1 : (t202 != 0) = true := bne_iff_ne.mpr c8
      obtain rfl := Option.some.inj H
      go_enter Try.func8, Try.ntmps8
      go_wp2_with (first | ((with_reducible refine gate_callee (f := 19) rfl ?_); refine goesL_ (some 8) rfl rfl Try.func19 (by kernel_rfl) rfl #[.int .i64 0] rfl (by (try simp only [List.map_toArray, List.map_cons, List.map_nil]); first | done | rfl | (simp only [List.length_drop, List.length_take]; rfl)) ?_; (with_reducible refine (asm_Label.calls 0 t159 t160 t161 t162 t163 t164 t165 _ A1.out).mono ?_); rintro e w118 ⟨rfl, hb⟩; refine ⟨_, rfl, ?_⟩; have n0_ := Aside0.mk (below_step (by repeat (first | (with_reducible first | exact HB.out | apply below_alloc | apply pw_below_drewN | apply below_drew1) | exact HB.out)) hb); clear HB; have HB := n0_; clear n0_; (try clear hb); (try clear hb2); (try clear hk); (try clear hi)) | ((with_reducible refine gate_callee (f := 13) rfl ?_); refine goesL_ (some 9) rfl rfl Try.func13 (by kernel_rfl) rfl #[.int .i64 19, .int .i64 1, .int .i64 1, .int .i64 0, .int .i64 (-1)] rfl (by (try simp only [List.map_toArray, List.map_cons, List.map_nil]); first | done | rfl | (simp only [List.length_drop, List.length_take]; rfl)) ?_; (with_reducible refine (asm_Inst.calls 19 1 1 0 (-1) t166 t167 t168 t169 t170 t171 t172 _ A2.out).mono ?_); rintro e w119 ⟨rfl, hb⟩; refine ⟨_, rfl, ?_⟩; have n0_ := Aside0.mk (below_step (by repeat (first | (with_reducible first | exact HB.out | apply below_alloc | apply pw_below_drewN | apply below_drew1) | exact HB.out)) hb); clear HB; have HB := n0_; clear n0_; (try clear hb); (try clear hb2); (try clear hk); (try clear hi)) | ((with_reducible refine gate_callee (f := 20) rfl ?_); refine goesL_ (some 10) rfl rfl Try.func20 (by kernel_rfl) rfl #[.int .i64 6, .int .i64 1, .int .i64 0, .int .i64 0] rfl (by (try simp only [List.map_toArray, List.map_cons, List.map_nil]); first | done | rfl | (simp only [List.length_drop, List.length_take]; rfl)) ?_; (with_reducible refine (asm_Branch.calls 6 1 0 0 t173 t174 t175 t176 t177 t178 t179 _ A3.out).mono ?_); rintro e w120 ⟨rfl, hb⟩; refine ⟨_, rfl, ?_⟩; have n0_ := Aside0.mk (below_step (by repeat (first | (with_reducible first | exact HB.out | apply below_alloc | apply pw_below_drewN | apply below_drew1) | exact HB.out)) hb); clear HB; have HB := n0_; clear n0_; (try clear hb); (try clear hb2); (try clear hk); (try clear hi)) | ((with_reducible refine gate_dst (N := 11) rfl ?_); (try (refine gate_guard (by rfl) ?_; dsimp only)); refine Kd.R_lit k41 _ 41 ?hg (N := 11) ?hd (xs := ([(⟨t159, (⟨t160, t161, t162, t163, t164⟩ : S39), t165⟩ : S41), (⟨t166, (⟨t167, t168, t169, t170, t171⟩ : S39), t172⟩ : S41), (⟨t173, (⟨t174, t175, t176, t177, t178⟩ : S39), t179⟩ : S41)] : List (S41))) (inner := [.int .i64 t159, .int .i64 t160, .int .i64 t161, .int .i64 t162, .int .i64 t163, .int .i64 t164, .int .i64 t165, .int .i64 t166, .int .i64 t167, .int .i64 t168, .int .i64 t169, .int .i64 t170, .int .i64 t171, .int .i64 t172, .int .i64 t173, .int .i64 t174, .int .i64 t175, .int .i64 t176, .int .i64 t177, .int .i64 t178, .int .i64 t179]) (ok := fun _ => True) (okp := fun _ => True) ?hr ?hp (fun _ hk => hk) trivial (Below.refl _ _) (Nat.le_refl _) (by simp) ?_; (case hd => rfl); (case hg => rfl); (case hr => first | (go_simp; done) | (go_simp; rfl)); (case hp => exact (Reps.c7 (show Kd.M k41 _ _ _ (⟨t159, (⟨t160, t161, t162, t163, t164⟩ : S39), t165⟩ : S41) [.int .i64 t159, .int .i64 t160, .int .i64 t161, .int .i64 t162, .int .i64 t163, .int .i64 t164, .int .i64 t165] from (k41_mkM _ _ _ (⟨t159, (⟨t160, t161, t162, t163, t164⟩ : S39), t165⟩ : S41) )) (Reps.c7 (show Kd.M k41 _ _ _ (⟨t166, (⟨t167, t168, t169, t170, t171⟩ : S39), t172⟩ : S41) [.int .i64 t166, .int .i64 t167, .int .i64 t168, .int .i64 t169, .int .i64 t170, .int .i64 t171, .int .i64 t172] from (k41_mkM _ _ _ (⟨t166, (⟨t167, t168, t169, t170, t171⟩ : S39), t172⟩ : S41) )) (Reps.c7 (show Kd.M k41 _ _ _ (⟨t173, (⟨t174, t175, t176, t177, t178⟩ : S39), t179⟩ : S41) [.int .i64 t173, .int .i64 t174, .int .i64 t175, .int .i64 t176, .int .i64 t177, .int .i64 t178, .int .i64 t179] from (k41_mkM _ _ _ (⟨t173, (⟨t174, t175, t176, t177, t178⟩ : S39), t179⟩ : S41) )) (Reps.none _ _))))); intro v181 w121 ho122 hb hg_ hnew_; clear hg_ hnew_; (first | rw [← Ny180.out] at ho122 | (simp only [Int.reduceToNat] at ho122; rw [← Ny180.out] at ho122)); have n0_ := Aside0.mk (Kd.R_lower ho122 (below_size (by repeat (first | (with_reducible first | exact HB.out | apply below_alloc | apply pw_below_drewN | apply below_drew1) | exact HB.out)))); have n1_ := Aside0.mk (below_step (by repeat (first | (with_reducible first | exact HB.out | apply below_alloc | apply pw_below_drewN | apply below_drew1) | exact HB.out)) hb); clear HB; have HO182 := n0_; have HB := n1_; clear n0_ n1_; clear hb ho122; obtain ⟨Ao123, co123, eo123⟩ := Kd.R_slice HO182.out; subst eo123) | ((with_reducible refine gate_callee (f := 10) rfl ?_); refine goesL_ (some 12) rfl rfl Try.func10 (by kernel_rfl) rfl #[.slice Ao123 y180.length co123] rfl (by (try simp only [List.map_toArray, List.map_cons, List.map_nil]); first | done | rfl | (simp only [List.length_drop, List.length_take]; rfl)) ?_; (with_reducible refine (asm_Assemble.calls k _ _ y180 t183 t184 t185 _ ?side1 ?side2 A4.out).mono ?_); (case side1 => repeat (first | exact (Kd.R_reads' HO182.out).2.2 | (with_reducible refine Kd.C_alloc ?_ _) | (with_reducible refine Kd.C_drewN ?_ _) | (with_reducible refine Kd.C_drew ?_))); (case side2 => exact (Kd.R_reads' HO182.out).2.1); rintro e w124 ⟨v186, v188, rfl, ho0, ho1, hb⟩; refine ⟨_, rfl, ?_⟩; have n0_ := Aside0.mk (Kd.R_below (by (with_reducible repeat (first | apply Kd.R_alloc | apply Kd.R_drewN | apply Kd.R_drew)); exact HO182.out) hb); have n1_ := Aside0.mk (Kd.R_lower ho0 (below_size (by repeat (first | (with_reducible first | exact HB.out | apply below_alloc | apply pw_below_drewN | apply below_drew1) | exact HB.out)))); have n2_ := Aside0.mk (Kd.R_lower ho1 (below_size (by repeat (first | (with_reducible first | exact HB.out | apply below_alloc | apply pw_below_drewN | apply below_drew1) | exact HB.out)))); have n3_ := Aside0.mk (below_step (by repeat (first | (with_reducible first | exact HB.out | apply below_alloc | apply pw_below_drewN | apply below_drew1) | exact HB.out)) hb); clear HO182; clear HB; have HO182 := n0_; have HO187 := n1_; have HO189 := n2_; have HB := n3_; clear n0_ n1_ n2_ n3_; (try clear hb); (try clear hb2); (try clear hk); (try clear hi); (try clear ho0); (try clear ho1)) | ((with_reducible refine gate_callee (f := 18) rfl ?_); refine goesL_ (some 17) rfl rfl Try.func18 (by kernel_rfl) rfl #[.int .i64 5, .int .u32 305419896] rfl (by (try simp only [List.map_toArray, List.map_cons, List.map_nil]); first | done | rfl | (simp only [List.length_drop, List.length_take]; rfl)) ?_; (with_reducible refine (asm_Const.calls 5 305419896 t190 t191 t192 t193 t194 t195 t196 _ A5.out).mono ?_); rintro e w125 ⟨rfl, hb⟩; refine ⟨_, rfl, ?_⟩; have n0_ := Aside0.mk (Kd.R_below (by (with_reducible repeat (first | apply Kd.R_alloc | apply Kd.R_drewN | apply Kd.R_drew)); exact HO182.out) hb); have n1_ := Aside0.mk (Kd.R_below (by (with_reducible repeat (first | apply Kd.R_alloc | apply Kd.R_drewN | apply Kd.R_drew)); exact HO187.out) hb); have n2_ := Aside0.mk (Kd.R_below (by (with_reducible repeat (first | apply Kd.R_alloc | apply Kd.R_drewN | apply Kd.R_drew)); exact HO189.out) hb); have n3_ := Aside0.mk (below_step (by repeat (first | (with_reducible first | exact HB.out | apply below_alloc | apply pw_below_drewN | apply below_drew1) | exact HB.out)) hb); clear HO182; clear HO187; clear HO189; clear HB; have HO182 := n0_; have HO187 := n1_; have HO189 := n2_; have HB := n3_; clear n0_ n1_ n2_ n3_; (try clear hb); (try clear hb2); (try clear hk); (try clear hi)) | ((with_reducible refine gate_dst (N := 18) rfl ?_); (try (refine gate_guard (by rfl) ?_; dsimp only)); refine Kd.R_lit k41 _ 41 ?hg (N := 18) ?hd (xs := ([(⟨t190, (⟨t191, t192, t193, t194, t195⟩ : S39), t196⟩ : S41)] : List (S41))) (inner := [.int .i64 t190, .int .i64 t191, .int .i64 t192, .int .i64 t193, .int .i64 t194, .int .i64 t195, .int .i64 t196]) (ok := fun _ => True) (okp := fun _ => True) ?hr ?hp (fun _ hk => hk) trivial (Below.refl _ _) (Nat.le_refl _) (by simp) ?_; (case hd => rfl); (case hg => rfl); (case hr => first | (go_simp; done) | (go_simp; rfl)); (case hp => exact (Reps.c7 (show Kd.M k41 _ _ _ (⟨t190, (⟨t191, t192, t193, t194, t195⟩ : S39), t196⟩ : S41) [.int .i64 t190, .int .i64 t191, .int .i64 t192, .int .i64 t193, .int .i64 t194, .int .i64 t195, .int .i64 t196] from (k41_mkM _ _ _ (⟨t190, (⟨t191, t192, t193, t194, t195⟩ : S39), t196⟩ : S41) )) (Reps.none _ _))); intro v198 w126 ho127 hb hg_ hnew_; clear hg_ hnew_; (first | rw [← Ny197.out] at ho127 | (simp only [Int.reduceToNat] at ho127; rw [← Ny197.out] at ho127)); have n0_ := Aside0.mk (Kd.R_elder' (by (with_reducible repeat (first | apply Kd.R_alloc | apply Kd.R_drewN | apply Kd.R_drew)); exact HO182.out) (Kd.R_base ho127) hb); have n1_ := Aside0.mk (Kd.R_below (by (with_reducible repeat (first | apply Kd.R_alloc | apply Kd.R_drewN | apply Kd.R_drew)); exact HO187.out) hb); have n2_ := Aside0.mk (Kd.R_below (by (with_reducible repeat (first | apply Kd.R_alloc | apply Kd.R_drewN | apply Kd.R_drew)); exact HO189.out) hb); have n3_ := Aside0.mk (Kd.R_lower (Kd.R_new' ho127 (Kd.R_lt (by (with_reducible repeat (first | apply Kd.R_alloc | apply Kd.R_drewN | apply Kd.R_drew)); exact HO182.out))) (below_size (by repeat (first | (with_reducible first | exact HB.out | apply below_alloc | apply pw_below_drewN | apply below_drew1) | exact HB.out)))); have n4_ := Aside0.mk (below_step (by repeat (first | (with_reducible first | exact HB.out | apply below_alloc | apply pw_below_drewN | apply below_drew1) | exact HB.out)) hb); clear HO182; clear HO187; clear HO189; clear HB; have HO182 := n0_; have HO187 := n1_; have HO189 := n2_; have HO199 := n3_; have HB := n4_; clear n0_ n1_ n2_ n3_ n4_; clear hb ho127; obtain ⟨Ao128, co128, eo128⟩ := Kd.R_slice HO199.out; subst eo128) | ((with_reducible refine gate_callee (f := 10) rfl ?_); refine goesL_ (some 19) rfl rfl Try.func10 (by kernel_rfl) rfl #[.slice Ao128 y197.length co128] rfl (by (try simp only [List.map_toArray, List.map_cons, List.map_nil]); first | done | rfl | (simp only [List.length_drop, List.length_take]; rfl)) ?_; (with_reducible refine (asm_Assemble.calls k _ _ y197 t200 t201 t202 _ ?side1 ?side2 A6.out).mono ?_); (case side1 => repeat (first | exact (Kd.R_reads' HO199.out).2.2 | (with_reducible refine Kd.C_alloc ?_ _) | (with_reducible refine Kd.C_drewN ?_ _) | (with_reducible refine Kd.C_drew ?_))); (case side2 => exact (Kd.R_reads' HO199.out).2.1); rintro e w129 ⟨v203, v205, rfl, ho0, ho1, hb⟩; refine ⟨_, rfl, ?_⟩; have n0_ := Aside0.mk (Kd.R_below (by (with_reducible repeat (first | apply Kd.R_alloc | apply Kd.R_drewN | apply Kd.R_drew)); exact HO182.out) hb); have n1_ := Aside0.mk (Kd.R_elder' (by (with_reducible repeat (first | apply Kd.R_alloc | apply Kd.R_drewN | apply Kd.R_drew)); exact HO187.out) (Kd.R_base ho0) hb); have n2_ := Aside0.mk (Kd.R_elder' (by (with_reducible repeat (first | apply Kd.R_alloc | apply Kd.R_drewN | apply Kd.R_drew)); exact HO189.out) (Kd.R_base ho1) hb); have n3_ := Aside0.mk (Kd.R_below (by (with_reducible repeat (first | apply Kd.R_alloc | apply Kd.R_drewN | apply Kd.R_drew)); exact HO199.out) hb); have n4_ := Aside0.mk (Kd.R_lower (Kd.R_new' ho0 (Kd.R_lt (by (with_reducible repeat (first | apply Kd.R_alloc | apply Kd.R_drewN | apply Kd.R_drew)); exact HO187.out))) (below_size (by repeat (first | (with_reducible first | exact HB.out | apply below_alloc | apply pw_below_drewN | apply below_drew1) | exact HB.out)))); have n5_ := Aside0.mk (Kd.R_lower (Kd.R_new' ho1 (Kd.R_lt (by (with_reducible repeat (first | apply Kd.R_alloc | apply Kd.R_drewN | apply Kd.R_drew)); exact HO189.out))) (below_size (by repeat (first | (with_reducible first | exact HB.out | apply below_alloc | apply pw_below_drewN | apply below_drew1) | exact HB.out)))); have n6_ := Aside0.mk (below_step (by repeat (first | (with_reducible first | exact HB.out | apply below_alloc | apply pw_below_drewN | apply below_drew1) | exact HB.out)) hb); clear HO182; clear HO187; clear HO189; clear HO199; clear HB; have HO182 := n0_; have HO187 := n1_; have HO189 := n2_; have HO199 := n3_; have HO204 := n4_; have HO206 := n5_; have HB := n6_; clear n0_ n1_ n2_ n3_ n4_ n5_ n6_; (try clear hb); (try clear hb2); (try clear hk); (try clear hi); (try clear ho0); (try clear ho1)))
      go_ret
      exact ⟨by first | rfl | (simp [errW_none, errW_some] <;> rfl) | (simp [*, errW_none, errW_some] <;> rfl), by repeat (first | (with_reducible first | exact HB.out | apply below_alloc | apply pw_below_drewN | apply below_drew1) | exact HB.out)⟩
  · rw [if_neg c7] at H
    have c7b0 : (t185 == 0) = false := beq_eq_false_iff_ne.mpr c7
    have c7b1 : (t185 != 0) = true := bne_iff_ne.mpr c7
    obtain rfl := Option.some.inj H
    go_enter Try.func8, Try.ntmps8
    go_wp2_with (first | ((with_reducible refine gate_callee (f := 19) rfl ?_); refine goesL_ (some 8) rfl rfl Try.func19 (by kernel_rfl) rfl #[.int .i64 0] rfl (by (try simp only [List.map_toArray, List.map_cons, List.map_nil]); first | done | rfl | (simp only [List.length_drop, List.length_take]; rfl)) ?_; (with_reducible refine (asm_Label.calls 0 t159 t160 t161 t162 t163 t164 t165 _ A1.out).mono ?_); rintro e w130 ⟨rfl, hb⟩; refine ⟨_, rfl, ?_⟩; have n0_ := Aside0.mk (below_step (by repeat (first | (with_reducible first | exact HB.out | apply below_alloc | apply pw_below_drewN | apply below_drew1) | exact HB.out)) hb); clear HB; have HB := n0_; clear n0_; (try clear hb); (try clear hb2); (try clear hk); (try clear hi)) | ((with_reducible refine gate_callee (f := 13) rfl ?_); refine goesL_ (some 9) rfl rfl Try.func13 (by kernel_rfl) rfl #[.int .i64 19, .int .i64 1, .int .i64 1, .int .i64 0, .int .i64 (-1)] rfl (by (try simp only [List.map_toArray, List.map_cons, List.map_nil]); first | done | rfl | (simp only [List.length_drop, List.length_take]; rfl)) ?_; (with_reducible refine (asm_Inst.calls 19 1 1 0 (-1) t166 t167 t168 t169 t170 t171 t172 _ A2.out).mono ?_); rintro e w131 ⟨rfl, hb⟩; refine ⟨_, rfl, ?_⟩; have n0_ := Aside0.mk (below_step (by repeat (first | (with_reducible first | exact HB.out | apply below_alloc | apply pw_below_drewN | apply below_drew1) | exact HB.out)) hb); clear HB; have HB := n0_; clear n0_; (try clear hb); (try clear hb2); (try clear hk); (try clear hi)) | ((with_reducible refine gate_callee (f := 20) rfl ?_); refine goesL_ (some 10) rfl rfl Try.func20 (by kernel_rfl) rfl #[.int .i64 6, .int .i64 1, .int .i64 0, .int .i64 0] rfl (by (try simp only [List.map_toArray, List.map_cons, List.map_nil]); first | done | rfl | (simp only [List.length_drop, List.length_take]; rfl)) ?_; (with_reducible refine (asm_Branch.calls 6 1 0 0 t173 t174 t175 t176 t177 t178 t179 _ A3.out).mono ?_); rintro e w132 ⟨rfl, hb⟩; refine ⟨_, rfl, ?_⟩; have n0_ := Aside0.mk (below_step (by repeat (first | (with_reducible first | exact HB.out | apply below_alloc | apply pw_below_drewN | apply below_drew1) | exact HB.out)) hb); clear HB; have HB := n0_; clear n0_; (try clear hb); (try clear hb2); (try clear hk); (try clear hi)) | ((with_reducible refine gate_dst (N := 11) rfl ?_); (try (refine gate_guard (by rfl) ?_; dsimp only)); refine Kd.R_lit k41 _ 41 ?hg (N := 11) ?hd (xs := ([(⟨t159, (⟨t160, t161, t162, t163, t164⟩ : S39), t165⟩ : S41), (⟨t166, (⟨t167, t168, t169, t170, t171⟩ : S39), t172⟩ : S41), (⟨t173, (⟨t174, t175, t176, t177, t178⟩ : S39), t179⟩ : S41)] : List (S41))) (inner := [.int .i64 t159, .int .i64 t160, .int .i64 t161, .int .i64 t162, .int .i64 t163, .int .i64 t164, .int .i64 t165, .int .i64 t166, .int .i64 t167, .int .i64 t168, .int .i64 t169, .int .i64 t170, .int .i64 t171, .int .i64 t172, .int .i64 t173, .int .i64 t174, .int .i64 t175, .int .i64 t176, .int .i64 t177, .int .i64 t178, .int .i64 t179]) (ok := fun _ => True) (okp := fun _ => True) ?hr ?hp (fun _ hk => hk) trivial (Below.refl _ _) (Nat.le_refl _) (by simp) ?_; (case hd => rfl); (case hg => rfl); (case hr => first | (go_simp; done) | (go_simp; rfl)); (case hp => exact (Reps.c7 (show Kd.M k41 _ _ _ (⟨t159, (⟨t160, t161, t162, t163, t164⟩ : S39), t165⟩ : S41) [.int .i64 t159, .int .i64 t160, .int .i64 t161, .int .i64 t162, .int .i64 t163, .int .i64 t164, .int .i64 t165] from (k41_mkM _ _ _ (⟨t159, (⟨t160, t161, t162, t163, t164⟩ : S39), t165⟩ : S41) )) (Reps.c7 (show Kd.M k41 _ _ _ (⟨t166, (⟨t167, t168, t169, t170, t171⟩ : S39), t172⟩ : S41) [.int .i64 t166, .int .i64 t167, .int .i64 t168, .int .i64 t169, .int .i64 t170, .int .i64 t171, .int .i64 t172] from (k41_mkM _ _ _ (⟨t166, (⟨t167, t168, t169, t170, t171⟩ : S39), t172⟩ : S41) )) (Reps.c7 (show Kd.M k41 _ _ _ (⟨t173, (⟨t174, t175, t176, t177, t178⟩ : S39), t179⟩ : S41) [.int .i64 t173, .int .i64 t174, .int .i64 t175, .int .i64 t176, .int .i64 t177, .int .i64 t178, .int .i64 t179] from (k41_mkM _ _ _ (⟨t173, (⟨t174, t175, t176, t177, t178⟩ : S39), t179⟩ : S41) )) (Reps.none _ _))))); intro v181 w133 ho134 hb hg_ hnew_; clear hg_ hnew_; (first | rw [← Ny180.out] at ho134 | (simp only [Int.reduceToNat] at ho134; rw [← Ny180.out] at ho134)); have n0_ := Aside0.mk (Kd.R_lower ho134 (below_size (by repeat (first | (with_reducible first | exact HB.out | apply below_alloc | apply pw_below_drewN | apply below_drew1) | exact HB.out)))); have n1_ := Aside0.mk (below_step (by repeat (first | (with_reducible first | exact HB.out | apply below_alloc | apply pw_below_drewN | apply below_drew1) | exact HB.out)) hb); clear HB; have HO182 := n0_; have HB := n1_; clear n0_ n1_; clear hb ho134; obtain ⟨Ao135, co135, eo135⟩ := Kd.R_slice HO182.out; subst eo135) | ((with_reducible refine gate_callee (f := 10) rfl ?_); refine goesL_ (some 12) rfl rfl Try.func10 (by kernel_rfl) rfl #[.slice Ao135 y180.length co135] rfl (by (try simp only [List.map_toArray, List.map_cons, List.map_nil]); first | done | rfl | (simp only [List.length_drop, List.length_take]; rfl)) ?_; (with_reducible refine (asm_Assemble.calls k _ _ y180 t183 t184 t185 _ ?side1 ?side2 A4.out).mono ?_); (case side1 => repeat (first | exact (Kd.R_reads' HO182.out).2.2 | (with_reducible refine Kd.C_alloc ?_ _) | (with_reducible refine Kd.C_drewN ?_ _) | (with_reducible refine Kd.C_drew ?_))); (case side2 => exact (Kd.R_reads' HO182.out).2.1); rintro e w136 ⟨v186, v188, rfl, ho0, ho1, hb⟩; refine ⟨_, rfl, ?_⟩; have n0_ := Aside0.mk (Kd.R_below (by (with_reducible repeat (first | apply Kd.R_alloc | apply Kd.R_drewN | apply Kd.R_drew)); exact HO182.out) hb); have n1_ := Aside0.mk (Kd.R_lower ho0 (below_size (by repeat (first | (with_reducible first | exact HB.out | apply below_alloc | apply pw_below_drewN | apply below_drew1) | exact HB.out)))); have n2_ := Aside0.mk (Kd.R_lower ho1 (below_size (by repeat (first | (with_reducible first | exact HB.out | apply below_alloc | apply pw_below_drewN | apply below_drew1) | exact HB.out)))); have n3_ := Aside0.mk (below_step (by repeat (first | (with_reducible first | exact HB.out | apply below_alloc | apply pw_below_drewN | apply below_drew1) | exact HB.out)) hb); clear HO182; clear HB; have HO182 := n0_; have HO187 := n1_; have HO189 := n2_; have HB := n3_; clear n0_ n1_ n2_ n3_; (try clear hb); (try clear hb2); (try clear hk); (try clear hi); (try clear ho0); (try clear ho1)) | ((with_reducible refine gate_callee (f := 18) rfl ?_); refine goesL_ (some 17) rfl rfl Try.func18 (by kernel_rfl) rfl #[.int .i64 5, .int .u32 305419896] rfl (by (try simp only [List.map_toArray, List.map_cons, List.map_nil]); first | done | rfl | (simp only [List.length_drop, List.length_take]; rfl)) ?_; (with_reducible refine (asm_Const.calls 5 305419896 t190 t191 t192 t193 t194 t195 t196 _ A5.out).mono ?_); rintro e w137 ⟨rfl, hb⟩; refine ⟨_, rfl, ?_⟩; have n0_ := Aside0.mk (Kd.R_below (by (with_reducible repeat (first | apply Kd.R_alloc | apply Kd.R_drewN | apply Kd.R_drew)); exact HO182.out) hb); have n1_ := Aside0.mk (Kd.R_below (by (with_reducible repeat (first | apply Kd.R_alloc | apply Kd.R_drewN | apply Kd.R_drew)); exact HO187.out) hb); have n2_ := Aside0.mk (Kd.R_below (by (with_reducible repeat (first | apply Kd.R_alloc | apply Kd.R_drewN | apply Kd.R_drew)); exact HO189.out) hb); have n3_ := Aside0.mk (below_step (by repeat (first | (with_reducible first | exact HB.out | apply below_alloc | apply pw_below_drewN | apply below_drew1) | exact HB.out)) hb); clear HO182; clear HO187; clear HO189; clear HB; have HO182 := n0_; have HO187 := n1_; have HO189 := n2_; have HB := n3_; clear n0_ n1_ n2_ n3_; (try clear hb); (try clear hb2); (try clear hk); (try clear hi)) | ((with_reducible refine gate_dst (N := 18) rfl ?_); (try (refine gate_guard (by rfl) ?_; dsimp only)); refine Kd.R_lit k41 _ 41 ?hg (N := 18) ?hd (xs := ([(⟨t190, (⟨t191, t192, t193, t194, t195⟩ : S39), t196⟩ : S41)] : List (S41))) (inner := [.int .i64 t190, .int .i64 t191, .int .i64 t192, .int .i64 t193, .int .i64 t194, .int .i64 t195, .int .i64 t196]) (ok := fun _ => True) (okp := fun _ => True) ?hr ?hp (fun _ hk => hk) trivial (Below.refl _ _) (Nat.le_refl _) (by simp) ?_; (case hd => rfl); (case hg => rfl); (case hr => first | (go_simp; done) | (go_simp; rfl)); (case hp => exact (Reps.c7 (show Kd.M k41 _ _ _ (⟨t190, (⟨t191, t192, t193, t194, t195⟩ : S39), t196⟩ : S41) [.int .i64 t190, .int .i64 t191, .int .i64 t192, .int .i64 t193, .int .i64 t194, .int .i64 t195, .int .i64 t196] from (k41_mkM _ _ _ (⟨t190, (⟨t191, t192, t193, t194, t195⟩ : S39), t196⟩ : S41) )) (Reps.none _ _))); intro v198 w138 ho139 hb hg_ hnew_; clear hg_ hnew_; (first | rw [← Ny197.out] at ho139 | (simp only [Int.reduceToNat] at ho139; rw [← Ny197.out] at ho139)); have n0_ := Aside0.mk (Kd.R_elder' (by (with_reducible repeat (first | apply Kd.R_alloc | apply Kd.R_drewN | apply Kd.R_drew)); exact HO182.out) (Kd.R_base ho139) hb); have n1_ := Aside0.mk (Kd.R_below (by (with_reducible repeat (first | apply Kd.R_alloc | apply Kd.R_drewN | apply Kd.R_drew)); exact HO187.out) hb); have n2_ := Aside0.mk (Kd.R_below (by (with_reducible repeat (first | apply Kd.R_alloc | apply Kd.R_drewN | apply Kd.R_drew)); exact HO189.out) hb); have n3_ := Aside0.mk (Kd.R_lower (Kd.R_new' ho139 (Kd.R_lt (by (with_reducible repeat (first | apply Kd.R_alloc | apply Kd.R_drewN | apply Kd.R_drew)); exact HO182.out))) (below_size (by repeat (first | (with_reducible first | exact HB.out | apply below_alloc | apply pw_below_drewN | apply below_drew1) | exact HB.out)))); have n4_ := Aside0.mk (below_step (by repeat (first | (with_reducible first | exact HB.out | apply below_alloc | apply pw_below_drewN | apply below_drew1) | exact HB.out)) hb); clear HO182; clear HO187; clear HO189; clear HB; have HO182 := n0_; have HO187 := n1_; have HO189 := n2_; have HO199 := n3_; have HB := n4_; clear n0_ n1_ n2_ n3_ n4_; clear hb ho139; obtain ⟨Ao140, co140, eo140⟩ := Kd.R_slice HO199.out; subst eo140) | ((with_reducible refine gate_callee (f := 10) rfl ?_); refine goesL_ (some 19) rfl rfl Try.func10 (by kernel_rfl) rfl #[.slice Ao140 y197.length co140] rfl (by (try simp only [List.map_toArray, List.map_cons, List.map_nil]); first | done | rfl | (simp only [List.length_drop, List.length_take]; rfl)) ?_; (with_reducible refine (asm_Assemble.calls k _ _ y197 t200 t201 t202 _ ?side1 ?side2 A6.out).mono ?_); (case side1 => repeat (first | exact (Kd.R_reads' HO199.out).2.2 | (with_reducible refine Kd.C_alloc ?_ _) | (with_reducible refine Kd.C_drewN ?_ _) | (with_reducible refine Kd.C_drew ?_))); (case side2 => exact (Kd.R_reads' HO199.out).2.1); rintro e w141 ⟨v203, v205, rfl, ho0, ho1, hb⟩; refine ⟨_, rfl, ?_⟩; have n0_ := Aside0.mk (Kd.R_below (by (with_reducible repeat (first | apply Kd.R_alloc | apply Kd.R_drewN | apply Kd.R_drew)); exact HO182.out) hb); have n1_ := Aside0.mk (Kd.R_elder' (by (with_reducible repeat (first | apply Kd.R_alloc | apply Kd.R_drewN | apply Kd.R_drew)); exact HO187.out) (Kd.R_base ho0) hb); have n2_ := Aside0.mk (Kd.R_elder' (by (with_reducible repeat (first | apply Kd.R_alloc | apply Kd.R_drewN | apply Kd.R_drew)); exact HO189.out) (Kd.R_base ho1) hb); have n3_ := Aside0.mk (Kd.R_below (by (with_reducible repeat (first | apply Kd.R_alloc | apply Kd.R_drewN | apply Kd.R_drew)); exact HO199.out) hb); have n4_ := Aside0.mk (Kd.R_lower (Kd.R_new' ho0 (Kd.R_lt (by (with_reducible repeat (first | apply Kd.R_alloc | apply Kd.R_drewN | apply Kd.R_drew)); exact HO187.out))) (below_size (by repeat (first | (with_reducible first | exact HB.out | apply below_alloc | apply pw_below_drewN | apply below_drew1) | exact HB.out)))); have n5_ := Aside0.mk (Kd.R_lower (Kd.R_new' ho1 (Kd.R_lt (by (with_reducible repeat (first | apply Kd.R_alloc | apply Kd.R_drewN | apply Kd.R_drew)); exact HO189.out))) (below_size (by repeat (first | (with_reducible first | exact HB.out | apply below_alloc | apply pw_below_drewN | apply below_drew1) | exact HB.out)))); have n6_ := Aside0.mk (below_step (by repeat (first | (with_reducible first | exact HB.out | apply below_alloc | apply pw_below_drewN | apply below_drew1) | exact HB.out)) hb); clear HO182; clear HO187; clear HO189; clear HO199; clear HB; have HO182 := n0_; have HO187 := n1_; have HO189 := n2_; have HO199 := n3_; have HO204 := n4_; have HO206 := n5_; have HB := n6_; clear n0_ n1_ n2_ n3_ n4_ n5_ n6_; (try clear hb); (try clear hb2); (try clear hk); (try clear hi); (try clear ho0); (try clear ho1)))
    go_ret
    exact ⟨by first | rfl | (simp [errW_none, errW_some] <;> rfl) | (simp [*, errW_none, errW_some] <;> rfl), by repeat (first | (with_reducible first | exact HB.out | apply below_alloc | apply pw_below_drewN | apply below_drew1) | exact HB.out)⟩
end Go.Proofs.Ytecbponmpinnoaa.P
end
section
namespace Go.Proofs.Ytecbponmpinnoaa.P
open Go.RowKit Go.Proofs.YtecbponmpinnoaaW.PrintWords Go.Proofs.YtecbponmpinnoaaW.PrintLast Go.Proofs.YtecbponmpinnoaaW.PrintMore
attribute [local go_sem] max2_int min2_int max_two min_two max_three min_three max_four min_four   
set_option linter.unusedVariables false
set_option linter.unusedSimpArgs false
def rushlightref01_Cut.f (a0 : Int) : Option (Int) := if (Int.tmod a0 4294967296) < 0 then (some ((wrap64 ((Int.tmod a0 4294967296) + 4294967296)) % 4294967296)) else (some ((Int.tmod a0 4294967296) % 4294967296))
set_option maxHeartbeats 8000000 in
set_option maxRecDepth 100000 in
theorem rushlightref01_Cut.calls (a0 : Int) (r : Int) (w : World) (h : rushlightref01_Cut.f a0 = some r) :
    Calls Try.prog 25 #[.int .i64 a0] w fun e w' => e = .returned (.int .u32 r) ∧ Drawn0 w w' := by
  have H : (if (Int.tmod a0 4294967296) < 0 then (some ((wrap64 ((Int.tmod a0 4294967296) + 4294967296)) % 4294967296)) else (some ((Int.tmod a0 4294967296) % 4294967296))) = some r := h
  clear h
  by_cases c2 : (Int.tmod a0 4294967296) < 0
  · rw [if_pos c2] at H
    have c2b0 : decide ((Int.tmod a0 4294967296) < 0) = true := decide_eq_true c2
    clear c2
    obtain rfl := Option.some.inj H
    go_enter Try.func25, Try.ntmps25
    go_wp2
    go_ret
    exact ⟨by first | rfl | (simp; done) | (simp [*]; done), by repeat (first | exact Drawn0.refl _ | apply Drawn0.step)⟩
  · rw [if_neg c2] at H
    have c2b0 : decide ((Int.tmod a0 4294967296) < 0) = false := decide_eq_false c2
    clear c2
    obtain rfl := Option.some.inj H
    go_enter Try.func25, Try.ntmps25
    go_wp2
    go_ret
    exact ⟨by first | rfl | (simp; done) | (simp [*]; done), by repeat (first | exact Drawn0.refl _ | apply Drawn0.step)⟩
end Go.Proofs.Ytecbponmpinnoaa.P
end
