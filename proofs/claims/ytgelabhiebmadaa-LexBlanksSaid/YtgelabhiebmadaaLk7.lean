/- A claim's text, put together by a program of this session (wip/tools/shake.py): the declarations that the claim needs. -/
import Derived.Test.YtgelabhiebmadaaLk0
import Derived.Test.YtgelabhiebmadaaLk1
import Derived.Test.YtgelabhiebmadaaLk2
import Derived.Test.YtgelabhiebmadaaLk3
import Derived.Test.YtgelabhiebmadaaLk4
import Derived.Test.YtgelabhiebmadaaLk5
import Derived.Test.YtgelabhiebmadaaLk6
import Derived.Test.YtgelabhiebmadaaProg
import Derived.Below
import Derived.Deep.Draws
import Derived.Deep.AppendLies
import Derived.Maps.AppendAt
import Derived.OwnWalk
import Derived.Laws.BytesArg
import Derived.Laws.MakeOwn
import Derived.Laws.OwnMore
import Derived.Deep.OwnRows
import Derived.Tactics
import Derived.Lib.ConvBytes
import Derived.Laws.Slices
import Derived.WalkKit
import Derived.KernelRfl
import Derived.RowKit3
import Derived.Deep.LoopGhost
import Derived.Deep.QuietTactic
import Derived.BigQuiet
import Derived.WideLaws
import Derived.Deep.DeepCutAuto
import Derived.Deep.CutBlock
import Derived.Deep.RegionHeld3
import Derived.Laws.Rows
import Derived.Lib.AppendStr
import Derived.ArgAppend
import Derived.Laws.IdiomCopy
import Derived.OrdersHeld
import Derived.Laws.BitsLemmas
import Derived.RowKit
import Derived.Deep.WholeRow
import Derived.Outline
import Derived.WalkMore
import Derived.ScopeJumps
import Derived.Deep.DeepFit
import Derived.Carry
import Derived.WalkArith
import Derived.RegionTactic
import Derived.ChangeAlike
import Derived.Shelf.Strings.Builder1
import Derived.Shelf.Strings.Builder2
import Derived.Shelf.Strings.OnBuilder
import Derived.Shelf.Strings.Search1
import Derived.Shelf.Strings.Search2
import Derived.Shelf.Strings.Search3
import Derived.Shelf.LaysM
import Derived.Shelf.Strings.Shaped
import Derived.Laws.StructEq
set_option linter.unusedVariables false
set_option linter.unusedSimpArgs false
section
namespace Go.Proofs.Ytgelabhiebmadaa.P
open Go.RowKit Go.Proofs.YtgelabhiebmadaaW.PrintWords Go.Proofs.YtgelabhiebmadaaW.PrintLast Go.Proofs.YtgelabhiebmadaaW.PrintMore
attribute [local go_sem] max2_int min2_int max_two min_two max_three min_three max_four min_four   
set_option linter.unusedVariables false
set_option linter.unusedSimpArgs false
def errW : Option Int → Value
  | none => .nilIface
  | some c => .iface 0 (.int .i64 c)
theorem errW_none : errW none = .nilIface := rfl
theorem errW_some (c : Int) : errW (some c) = .iface 0 (.int .i64 c) := rfl
theorem info33 : (Try.prog.info? 33).map (fun i => (i.zero, i.size, i.bytes)) = some (some (.agg #[(.int .i64 0), (.string ⟨#[]⟩), (.int .u32 0), (.int .i64 0), (.int .i64 0)]), 5, 48) := by kernel_rfl
structure S26 where
  f0 : Int
  f1 : Int
def z26 : S26 := ⟨(0 : Int), (0 : Int)⟩
def k26 : Kd S26 := Kd.iso (Kd.pair (Kd.int .i64) (Kd.int .i64)) (fun x : S26 => (x.f0, x.f1))
theorem k26_open {w : World} {x : S26} {cs : List Value} (h : k26.K w x cs) : cs = [.int .i64 x.f0, .int .i64 x.f1] := by
  obtain ⟨_, _, rfl, rfl, rfl⟩ := h
  exact rfl
theorem k26_mkM (w : World) (base : Nat) (ok : Nat → Prop) (x : S26)  : k26.M w base ok x [.int .i64 x.f0, .int .i64 x.f1] := ⟨[.int .i64 x.f0], [.int .i64 x.f1], rfl, rfl, rfl⟩
structure S33 where
  f0 : Int
  f1 : ByteArray
  f2 : Int
  f3 : S26
def z33 : S33 := ⟨(0 : Int), (⟨#[]⟩ : ByteArray), (0 : Int), z26⟩
def k33 : Kd S33 := Kd.iso (Kd.pair (Kd.int .i64) (Kd.pair Kd.string (Kd.pair (Kd.int .u32) k26))) (fun x : S33 => (x.f0, x.f1, x.f2, x.f3))
theorem k33_open {w : World} {x : S33} {cs : List Value} (h : k33.K w x cs) : cs = [.int .i64 x.f0, .string x.f1, .int .u32 x.f2, .int .i64 x.f3.f0, .int .i64 x.f3.f1] := by
  obtain ⟨_, _, rfl, rfl, ⟨_, _, rfl, rfl, ⟨_, _, rfl, rfl, s3⟩⟩⟩ := h
  obtain rfl := k26_open s3
  exact rfl
theorem k33_mkM (w : World) (base : Nat) (ok : Nat → Prop) (x : S33)  : k33.M w base ok x [.int .i64 x.f0, .string x.f1, .int .u32 x.f2, .int .i64 x.f3.f0, .int .i64 x.f3.f1] := ⟨[.int .i64 x.f0], [.string x.f1, .int .u32 x.f2, .int .i64 x.f3.f0, .int .i64 x.f3.f1], rfl, rfl, ⟨[.string x.f1], [.int .u32 x.f2, .int .i64 x.f3.f0, .int .i64 x.f3.f1], rfl, rfl, ⟨[.int .u32 x.f2], [.int .i64 x.f3.f0, .int .i64 x.f3.f1], rfl, rfl, (k26_mkM w base ok x.f3 )⟩⟩⟩
def rd_T33 (xs : List S33) (i : Int) : S33 := xs.getD i.toNat z33
theorem at_T33 {w : World} {A : Option Addr} {n : Nat} {xs : List S33} (h : Kd.C k33 w A n xs) (i : Int) (h0 : 0 ≤ i) (h1 : i < n) : ∃ ad , A = some ad ∧ w.cell? (ad.add (i.toNat * 5)) = some (.int .i64 (rd_T33 xs i).f0) ∧ w.cell? ⟨(ad.add (i.toNat * 5)).block, (ad.add (i.toNat * 5)).off + 1, none⟩ = some (.string (rd_T33 xs i).f1) ∧ w.cell? ⟨(ad.add (i.toNat * 5)).block, (ad.add (i.toNat * 5)).off + 2, none⟩ = some (.int .u32 (rd_T33 xs i).f2) ∧ w.cell? ⟨(ad.add (i.toNat * 5)).block, (ad.add (i.toNat * 5)).off + 3, none⟩ = some (.int .i64 (rd_T33 xs i).f3.f0) ∧ w.cell? ⟨(ad.add (i.toNat * 5)).block, (ad.add (i.toNat * 5)).off + 4, none⟩ = some (.int .i64 (rd_T33 xs i).f3.f1) := by
  obtain ⟨ad, c, e, _, hK, hc0⟩ := Kd.C_get h z33 i h0 h1
  have hc : ∀ j u, c[j]? = some u → w.cell? (ad.add (i.toNat * 5 + j)) = some u := hc0
  obtain rfl := k33_open hK
  exact ⟨ad, e, hc 0 _ rfl, by rw [← add_field _ _ 1 (by omega)]; exact hc 1 _ rfl, by rw [← add_field _ _ 2 (by omega)]; exact hc 2 _ rfl, by rw [← add_field _ _ 3 (by omega)]; exact hc 3 _ rfl, by rw [← add_field _ _ 4 (by omega)]; exact hc 4 _ rfl⟩
end Go.Proofs.Ytgelabhiebmadaa.P
end
section
namespace Go.Proofs.Ytgelabhiebmadaa.P
open Go.RowKit Go.Proofs.YtgelabhiebmadaaW.PrintWords Go.Proofs.YtgelabhiebmadaaW.PrintLast Go.Proofs.YtgelabhiebmadaaW.PrintMore
attribute [local go_sem] max2_int min2_int max_two min_two max_three min_three max_four min_four   
set_option linter.unusedVariables false
set_option linter.unusedSimpArgs false
def stringslite_HasPrefix.f (a0 : ByteArray) (a1 : ByteArray) : Option (Bool) := if (a0.size : Int) ≥ (a1.size : Int) then (if 0 ≤ (a1.size : Int) then (if (a1.size : Int) ≤ (a0.size : Int) then (some ((a0.extract 0 ((a1.size : Int) : Int).toNat).toList == a1.toList)) else (none)) else (none)) else (some false)
set_option maxHeartbeats 8000000 in
set_option maxRecDepth 100000 in
theorem stringslite_HasPrefix.calls (a0 : ByteArray) (a1 : ByteArray) (r : Bool) (w : World) (h : stringslite_HasPrefix.f a0 a1 = some r) :
    Calls Try.prog 35 #[.string a0, .string a1] w fun e w' => e = .returned (.bool r) ∧ Drawn0 w w' := by
  have H : (if (a0.size : Int) ≥ (a1.size : Int) then (if 0 ≤ (a1.size : Int) then (if (a1.size : Int) ≤ (a0.size : Int) then (some ((a0.extract 0 ((a1.size : Int) : Int).toNat).toList == a1.toList)) else (none)) else (none)) else (some false)) = some r := h
  clear h
  by_cases c3 : (a0.size : Int) ≥ (a1.size : Int)
  · rw [if_pos c3] at H
    have c3b0 : decide ((a1.size : Int) ≤ (a0.size : Int)) = true := decide_eq_true c3
    have c3b1 : decide (a1.size ≤ a0.size) = true := decide_eq_true (Int.ofNat_le.mp c3)
    clear c3
    by_cases c4 : 0 ≤ (a1.size : Int)
    · rw [if_pos c4] at H
      have c4b0 := eq_true c4
      have c4b1 : decide (0 ≤ (a1.size : Int)) = true := decide_eq_true c4
      clear c4
      by_cases c5 : (a1.size : Int) ≤ (a0.size : Int)
      · rw [if_pos c5] at H
        have c5b0 := eq_true c5
        have c5b1 : decide ((a1.size : Int) ≤ (a0.size : Int)) = true := decide_eq_true c5
        clear c5
        obtain rfl := Option.some.inj H
        go_enter Try.func35, Try.ntmps35
        go_wp2
        go_ret
        exact ⟨by first | rfl | (simp; done) | (simp [*]; done), by repeat (first | exact Drawn0.refl _ | apply Drawn0.step)⟩
      · rw [if_neg c5] at H
        exact absurd H (by simp)
    · rw [if_neg c4] at H
      exact absurd H (by simp)
  · rw [if_neg c3] at H
    have c3b0 : decide ((a1.size : Int) ≤ (a0.size : Int)) = false := decide_eq_false c3
    have c3b1 : decide (a1.size ≤ a0.size) = false := decide_eq_false (fun h => c3 (Int.ofNat_le.mpr h))
    clear c3
    obtain rfl := Option.some.inj H
    go_enter Try.func35, Try.ntmps35
    go_wp2
    go_ret
    exact ⟨by first | rfl | (simp; done) | (simp [*]; done), by repeat (first | exact Drawn0.refl _ | apply Drawn0.step)⟩
def strings_HasPrefix.f (a0 : ByteArray) (a1 : ByteArray) : Option (Bool) := (stringslite_HasPrefix.f a0 a1).bind fun t101 => (some t101)
set_option maxHeartbeats 8000000 in
set_option maxRecDepth 100000 in
theorem strings_HasPrefix.calls (a0 : ByteArray) (a1 : ByteArray) (r : Bool) (w : World) (h : strings_HasPrefix.f a0 a1 = some r) :
    Calls Try.prog 21 #[.string a0, .string a1] w fun e w' => e = .returned (.bool r) ∧ Drawn0 w w' := by
  have H : ((stringslite_HasPrefix.f a0 a1).bind fun t101 => (some t101)) = some r := h
  clear h
  replace H := Option.bind_eq_some_iff.mp H
  obtain ⟨t101, A30, H⟩ := H
  replace H : (some t101) = some r := H
  have A3 := Aside0.mk A30
  clear A30
  obtain rfl := Option.some.inj H
  go_enter Try.func21, Try.ntmps21
  go_wp2_with (first | ((with_reducible refine gate_callee (f := 35) rfl ?_); refine goesL_ (some 7) rfl rfl Try.func35 (by kernel_rfl) rfl #[.string a0, .string a1] rfl (by (try simp only [List.map_toArray, List.map_cons, List.map_nil]); first | done | rfl | (simp only [List.length_drop, List.length_take]; rfl)) ?_; (with_reducible refine (stringslite_HasPrefix.calls a0 a1 t101 _ A3.out).mono ?_); rintro e w' ⟨rfl, ⟨nd, rfl⟩⟩; refine ⟨_, rfl, ?_⟩))
  go_ret
  exact ⟨by first | rfl | (simp; done) | (simp [*]; done), by repeat (first | exact Drawn0.refl _ | apply Drawn0.step)⟩
def G0 (w : World) : Prop := ∃ m, w.cell? ⟨0, 0, none⟩ = some (.int .i64 m)
theorem G0.of_shaped {w : World} (h : w.ShapedOpen Try.prog) : G0 w := Try.laysM143.s1_3 w h
theorem G0.at_ {w w' : World} (h : G0 w) (hb : Below w.heap.size w w') : G0 w' := by
  obtain ⟨m, hm⟩ := h
  exact ⟨m, pw_cell_below hb hm⟩
def strings_Index.f (a0 a1 : ByteArray) : Option Int := if a0.size < 4294967281 then some (Lib.index a0.data.toList a1.data.toList) else none
theorem strings_Index.calls (a0 a1 : ByteArray) (r : Int) (w : World) (hG : G0 w) (h : strings_Index.f a0 a1 = some r) : Calls Try.prog 22 #[.string a0, .string a1] w fun e w' => e = .returned (.int .i64 r) ∧ Drawn0 w w' := by
  unfold strings_Index.f at h
  by_cases hs : a0.size < 4294967281
  case neg => rw [if_neg hs] at h; cases h
  rw [if_pos hs] at h
  obtain rfl := Option.some.inj h
  obtain ⟨m, hm⟩ := hG
  refine (Try.strings_Index a0 a1 m w hs hm).mono ?_
  rintro e w' ⟨rfl, rfl⟩
  exact ⟨rfl, Drawn0.refl _⟩
def spanFrom (p : Int → Bool) (s : ByteArray) (i : Nat) : Nat := ((s.data.toList.drop i).takeWhile fun b => p (b.toNat : Int)).length
theorem span_step (p : Int → Bool) (s : ByteArray) (i : Nat) (h : i < s.size) : spanFrom p s i = if p (bt s i) = true then spanFrom p s (i + 1) + 1 else 0 := by
  have hl : i < s.data.toList.length := by rw [data_length]; exact h
  have hb : bt s (i : Int) = ((s.data.toList[i]'hl).toNat : Int) := by
    simp only [bt, Int.toNat_natCast, h, dite_true]
    rfl
  unfold spanFrom
  rw [List.drop_eq_getElem_cons hl, List.takeWhile_cons, hb]
  split <;> rfl
theorem span_end (p : Int → Bool) (s : ByteArray) (i : Nat) (h : s.size ≤ i) : spanFrom p s i = 0 := by
  unfold spanFrom
  rw [List.drop_eq_nil_of_le (by rw [data_length]; exact h)]
  rfl
theorem span_le (p : Int → Bool) (s : ByteArray) (i : Nat) : spanFrom p s i ≤ s.size - i := by
  unfold spanFrom
  have h := (List.takeWhile_prefix (p := fun b : UInt8 => p (b.toNat : Int)) (l := s.data.toList.drop i)).length_le
  rw [List.length_drop, data_length] at h
  exact h
theorem span_round (p : Int → Bool) (s : ByteArray) (x : Int) (h0 : 0 ≤ x) (h1 : x < s.size) (hs : s.size ≤ 9223372036854775807) (h : (spanFrom p s 0 : Int) = x + spanFrom p s x.toNat) :
    (p (bt s x) = true → 0 ≤ wrap64 (x + 1) ∧ wrap64 (x + 1) ≤ s.size ∧ (spanFrom p s 0 : Int) = wrap64 (x + 1) + spanFrom p s (wrap64 (x + 1)).toNat ∧ s.size - (wrap64 (x + 1)).toNat < s.size - x.toNat) ∧ (p (bt s x) = false → (spanFrom p s 0 : Int) = x) := by
  obtain ⟨k, rfl⟩ := Int.eq_ofNat_of_zero_le h0
  have hst := span_step p s k (by omega)
  have e : wrap64 ((k : Int) + 1) = ((k + 1 : Nat) : Int) := by unfold wrap64; omega
  rw [e]
  simp only [Int.toNat_natCast] at h ⊢
  constructor
  · intro hp
    rw [hp, if_pos rfl] at hst
    omega
  · intro hp
    rw [hp, if_neg (by simp)] at hst
    omega
def blankB (c : Int) : Bool := c == 32 || c == 9 || c == 10 || c == 13
theorem blank_fn (c : Int) (r : Bool) (w : World) (h : blankB c = r) : Calls Try.prog 24 #[.int .u8 c] w fun e w' => e = .returned (.bool r) ∧ Drawn0 w w' := by
  unfold blankB at h
  cases c1 : c == 32 with
  | true =>
    rw [c1] at h
    obtain rfl : true = r := by simpa using h
    clear h
    go_enter Try.func24, Try.ntmps24
    go_wp2
    go_ret
    exact ⟨rfl, Drawn0.refl _⟩
  | false =>
  cases c2 : c == 9 with
  | true =>
    rw [c1, c2] at h
    obtain rfl : true = r := by simpa using h
    clear h
    go_enter Try.func24, Try.ntmps24
    go_wp2
    go_ret
    exact ⟨rfl, Drawn0.refl _⟩
  | false =>
  cases c3 : c == 10 with
  | true =>
    rw [c1, c2, c3] at h
    obtain rfl : true = r := by simpa using h
    clear h
    go_enter Try.func24, Try.ntmps24
    go_wp2
    go_ret
    exact ⟨rfl, Drawn0.refl _⟩
  | false =>
  cases c4 : c == 13 with
  | true =>
    rw [c1, c2, c3, c4] at h
    obtain rfl : true = r := by simpa using h
    clear h
    go_enter Try.func24, Try.ntmps24
    go_wp2
    go_ret
    exact ⟨rfl, Drawn0.refl _⟩
  | false =>
    rw [c1, c2, c3, c4] at h
    obtain rfl : false = r := by simpa using h
    clear h
    go_enter Try.func24, Try.ntmps24
    go_wp2
    go_ret
    exact ⟨rfl, Drawn0.refl _⟩
def lex_span_blank.f (a0 : ByteArray) : Option Int := if a0.size ≤ 9223372036854775807 then some (spanFrom blankB a0 0 : Nat) else none
set_option maxHeartbeats 400000 in
theorem lex_span_blank.calls (a0 : ByteArray) (r : Int) (w : World) (h : lex_span_blank.f a0 = some r) : Calls Try.prog 23 #[.string a0, .func (.func 24) #[] #[]] w fun e w' => e = .returned (.int .i64 r) ∧ Drawn0 w w' := by
  unfold lex_span_blank.f at h
  by_cases hs : a0.size ≤ 9223372036854775807
  case neg => rw [if_neg hs] at h; cases h
  rw [if_pos hs] at h
  have HL := Aside0.mk hs
  have HR := Aside0.mk (Option.some.inj h)
  clear h hs
  go_enter Try.func23, Try.ntmps23
  go_wp2
  go_loopw [5] (fun n wr => ∃ x : Int, n = .int .i64 x ∧ Aside0 (0 ≤ x ∧ x ≤ a0.size ∧ (spanFrom blankB a0 0 : Int) = x + spanFrom blankB a0 x.toNat) ∧ Drawn0 w wr) (fun n _ => a0.size - (intOf n).toNat)
  case atStart => exact ⟨0, rfl, ⟨by omega, by omega, by simp⟩, Drawn0.refl _⟩
  case round =>
    obtain ⟨x, rfl, H, ⟨nd, rfl⟩⟩ := hrel
    by_cases hlt : x < a0.size
    · have hst := span_round blankB a0 x H.out.1 hlt HL.out H.out.2.2
      have hb := bt_at a0 x
      have HM := Aside0.mk (rfl : blankB (bt a0 x) = blankB (bt a0 x))
      have p6 := eq_true H.out.1
      have q6 := eq_true hlt
      have c3 : decide (x < (a0.size : Int)) = true := decide_eq_true hlt
      cases hm : blankB (bt a0 x) with
      | true =>
        have HS := Aside0.mk (hst.1 hm)
        have HM2 := Aside0.mk (HM.out.trans hm)
        clear H hst hm hlt HM
        go_wp2_with (go_at_call 24; refine (blank_fn (bt a0 x) true _ HM2.out).mono ?_; rintro e w' ⟨rfl, ⟨nd2, rfl⟩⟩)
        exact ⟨⟨wrap64 (x + 1), rfl, ⟨HS.out.1, HS.out.2.1, HS.out.2.2.1⟩, by repeat (first | exact Drawn0.refl _ | apply Drawn0.step)⟩, HS.out.2.2.2⟩
      | false =>
        have HS := Aside0.mk ((hst.2 hm).symm.trans HR.out)
        have HM2 := Aside0.mk (HM.out.trans hm)
        clear H hst hm hlt HM
        go_wp2_with (go_at_call 24; refine (blank_fn (bt a0 x) false _ HM2.out).mono ?_; rintro e w' ⟨rfl, ⟨nd2, rfl⟩⟩)
        go_ret
        exact ⟨by rw [← HS.out]; rfl, by repeat (first | exact Drawn0.refl _ | apply Drawn0.step)⟩
    · have c3 : decide (x < (a0.size : Int)) = false := decide_eq_false hlt
      have HS := Aside0.mk (show x = r by
        have := HR.out
        have h2 := H.out.2.2
        rw [span_end blankB a0 x.toNat (by have := H.out.1; omega)] at h2
        omega)
      clear H hlt
      go_wp2
      go_ret
      exact ⟨by rw [← HS.out]; rfl, by repeat (first | exact Drawn0.refl _ | apply Drawn0.step)⟩
def lex_blank.f (a0 : ByteArray) : Option (Int) := (strings_HasPrefix.f a0 (⟨#[47, 47]⟩ : ByteArray)).bind fun t102 => (if t102 = true then ((strings_Index.f a0 (⟨#[10]⟩ : ByteArray)).bind fun t103 => (if t103 ≥ 0 then (some t103) else (some (a0.size : Int)))) else ((strings_HasPrefix.f a0 (⟨#[47, 42]⟩ : ByteArray)).bind fun t104 => (if t104 = true then (if 2 ≤ (a0.size : Int) then ((strings_Index.f (a0.extract 2 a0.size) (⟨#[42, 47]⟩ : ByteArray)).bind fun t105 => (if t105 < 0 then (some (-1)) else (some (wrap64 (t105 + 4))))) else (none)) else ((lex_span_blank.f a0).bind fun t106 => (some t106)))))
set_option maxHeartbeats 8000000 in
set_option maxRecDepth 100000 in
theorem lex_blank.calls (a0 : ByteArray) (r : Int) (w : World) (hG : G0 w) (h : lex_blank.f a0 = some r) :
    Calls Try.prog 14 #[.string a0] w fun e w' => e = .returned (.int .i64 r) ∧ Drawn0 w w' := by
  have HG0 := Aside0.mk hG
  clear hG
  have H : ((strings_HasPrefix.f a0 (⟨#[47, 47]⟩ : ByteArray)).bind fun t102 => (if t102 = true then ((strings_Index.f a0 (⟨#[10]⟩ : ByteArray)).bind fun t103 => (if t103 ≥ 0 then (some t103) else (some (a0.size : Int)))) else ((strings_HasPrefix.f a0 (⟨#[47, 42]⟩ : ByteArray)).bind fun t104 => (if t104 = true then (if 2 ≤ (a0.size : Int) then ((strings_Index.f (a0.extract 2 a0.size) (⟨#[42, 47]⟩ : ByteArray)).bind fun t105 => (if t105 < 0 then (some (-1)) else (some (wrap64 (t105 + 4))))) else (none)) else ((lex_span_blank.f a0).bind fun t106 => (some t106)))))) = some r := h
  clear h
  replace H := Option.bind_eq_some_iff.mp H
  obtain ⟨t102, A20, H⟩ := H
  replace H : (if t102 = true then ((strings_Index.f a0 (⟨#[10]⟩ : ByteArray)).bind fun t103 => (if t103 ≥ 0 then (some t103) else (some (a0.size : Int)))) else ((strings_HasPrefix.f a0 (⟨#[47, 42]⟩ : ByteArray)).bind fun t104 => (if t104 = true then (if 2 ≤ (a0.size : Int) then ((strings_Index.f (a0.extract 2 a0.size) (⟨#[42, 47]⟩ : ByteArray)).bind fun t105 => (if t105 < 0 then (some (-1)) else (some (wrap64 (t105 + 4))))) else (none)) else ((lex_span_blank.f a0).bind fun t106 => (some t106))))) = some r := H
  have A2 := Aside0.mk A20
  clear A20
  by_cases c3 : t102 = true
  · subst c3
    have H1 : ((strings_Index.f a0 (⟨#[10]⟩ : ByteArray)).bind fun t103 => (if t103 ≥ 0 then (some t103) else (some (a0.size : Int)))) = some r := by rw [if_pos rfl] at H; exact H
    clear H
    have H := H1
    clear H1
    replace H := Option.bind_eq_some_iff.mp H
    obtain ⟨t103, A40, H⟩ := H
    replace H : (if t103 ≥ 0 then (some t103) else (some (a0.size : Int))) = some r := H
    have A4 := Aside0.mk A40
    clear A40
    by_cases c5 : t103 ≥ 0
    · rw [if_pos c5] at H
      have c5b0 : decide (0 ≤ t103) = true := decide_eq_true c5
      clear c5
      obtain rfl := Option.some.inj H
      go_enter Try.func14, Try.ntmps14
      go_wp2_with (first | ((with_reducible refine gate_callee (f := 21) rfl ?_); refine goesL_ (some 6) rfl rfl Try.func21 (by kernel_rfl) rfl #[.string a0, .string (⟨#[47, 47]⟩ : ByteArray)] rfl (by (try simp only [List.map_toArray, List.map_cons, List.map_nil]); first | done | rfl | (simp only [List.length_drop, List.length_take]; rfl)) ?_; (with_reducible refine (strings_HasPrefix.calls a0 (⟨#[47, 47]⟩ : ByteArray) true _ A2.out).mono ?_); rintro e w' ⟨rfl, ⟨nd, rfl⟩⟩; refine ⟨_, rfl, ?_⟩) | ((with_reducible refine gate_callee (f := 22) rfl ?_); refine goesL_ (some 8) rfl rfl Try.func22 (by kernel_rfl) rfl #[.string a0, .string (⟨#[10]⟩ : ByteArray)] rfl (by (try simp only [List.map_toArray, List.map_cons, List.map_nil]); first | done | rfl | (simp only [List.length_drop, List.length_take]; rfl)) ?_; (with_reducible refine (strings_Index.calls a0 (⟨#[10]⟩ : ByteArray) t103 _ ?sG A4.out).mono ?_); (case sG => exact G0.at_ HG0.out (by repeat (first | (with_reducible first | exact HB.out | exact Below.refl _ _ | apply below_alloc | apply pw_below_drewN | apply below_drew1 | apply below_drew | exact Drawn0.below (by assumption)) | exact HB.out | (refine below_set ?_ (Aside0.out (by assumption)))))); rintro e w' ⟨rfl, ⟨nd, rfl⟩⟩; refine ⟨_, rfl, ?_⟩))
      go_ret
      exact ⟨by first | rfl | (simp; done) | (simp [*]; done), by repeat (first | exact Drawn0.refl _ | apply Drawn0.step)⟩
    · rw [if_neg c5] at H
      have c5b0 : decide (0 ≤ t103) = false := decide_eq_false c5
      clear c5
      obtain rfl := Option.some.inj H
      go_enter Try.func14, Try.ntmps14
      go_wp2_with (first | ((with_reducible refine gate_callee (f := 21) rfl ?_); refine goesL_ (some 6) rfl rfl Try.func21 (by kernel_rfl) rfl #[.string a0, .string (⟨#[47, 47]⟩ : ByteArray)] rfl (by (try simp only [List.map_toArray, List.map_cons, List.map_nil]); first | done | rfl | (simp only [List.length_drop, List.length_take]; rfl)) ?_; (with_reducible refine (strings_HasPrefix.calls a0 (⟨#[47, 47]⟩ : ByteArray) true _ A2.out).mono ?_); rintro e w' ⟨rfl, ⟨nd, rfl⟩⟩; refine ⟨_, rfl, ?_⟩) | ((with_reducible refine gate_callee (f := 22) rfl ?_); refine goesL_ (some 8) rfl rfl Try.func22 (by kernel_rfl) rfl #[.string a0, .string (⟨#[10]⟩ : ByteArray)] rfl (by (try simp only [List.map_toArray, List.map_cons, List.map_nil]); first | done | rfl | (simp only [List.length_drop, List.length_take]; rfl)) ?_; (with_reducible refine (strings_Index.calls a0 (⟨#[10]⟩ : ByteArray) t103 _ ?sG A4.out).mono ?_); (case sG => exact G0.at_ HG0.out (by repeat (first | (with_reducible first | exact HB.out | exact Below.refl _ _ | apply below_alloc | apply pw_below_drewN | apply below_drew1 | apply below_drew | exact Drawn0.below (by assumption)) | exact HB.out | (refine below_set ?_ (Aside0.out (by assumption)))))); rintro e w' ⟨rfl, ⟨nd, rfl⟩⟩; refine ⟨_, rfl, ?_⟩))
      go_ret
      exact ⟨by first | rfl | (simp; done) | (simp [*]; done), by repeat (first | exact Drawn0.refl _ | apply Drawn0.step)⟩
  · replace c3 := Bool.eq_false_iff.mpr c3
    subst c3
    have H1 : ((strings_HasPrefix.f a0 (⟨#[47, 42]⟩ : ByteArray)).bind fun t104 => (if t104 = true then (if 2 ≤ (a0.size : Int) then ((strings_Index.f (a0.extract 2 a0.size) (⟨#[42, 47]⟩ : ByteArray)).bind fun t105 => (if t105 < 0 then (some (-1)) else (some (wrap64 (t105 + 4))))) else (none)) else ((lex_span_blank.f a0).bind fun t106 => (some t106)))) = some r := by rw [if_neg (show ¬ (false = true) by decide)] at H; exact H
    clear H
    have H := H1
    clear H1
    replace H := Option.bind_eq_some_iff.mp H
    obtain ⟨t104, A60, H⟩ := H
    replace H : (if t104 = true then (if 2 ≤ (a0.size : Int) then ((strings_Index.f (a0.extract 2 a0.size) (⟨#[42, 47]⟩ : ByteArray)).bind fun t105 => (if t105 < 0 then (some (-1)) else (some (wrap64 (t105 + 4))))) else (none)) else ((lex_span_blank.f a0).bind fun t106 => (some t106))) = some r := H
    have A6 := Aside0.mk A60
    clear A60
    by_cases c7 : t104 = true
    · subst c7
      have H1 : (if 2 ≤ (a0.size : Int) then ((strings_Index.f (a0.extract 2 a0.size) (⟨#[42, 47]⟩ : ByteArray)).bind fun t105 => (if t105 < 0 then (some (-1)) else (some (wrap64 (t105 + 4))))) else (none)) = some r := by rw [if_pos rfl] at H; exact H
      clear H
      have H := H1
      clear H1
      by_cases c8 : 2 ≤ (a0.size : Int)
      · rw [if_pos c8] at H
        have c8b0 := eq_true c8
        have c8b1 : decide (2 ≤ (a0.size : Int)) = true := decide_eq_true c8
        clear c8
        replace H := Option.bind_eq_some_iff.mp H
        obtain ⟨t105, A90, H⟩ := H
        replace H : (if t105 < 0 then (some (-1)) else (some (wrap64 (t105 + 4)))) = some r := H
        have A9 := Aside0.mk A90
        clear A90
        by_cases c10 : t105 < 0
        · rw [if_pos c10] at H
          have c10b0 : decide (t105 < 0) = true := decide_eq_true c10
          clear c10
          obtain rfl := Option.some.inj H
          go_enter Try.func14, Try.ntmps14
          go_wp2_with (first | ((with_reducible refine gate_callee (f := 21) rfl ?_); refine goesL_ (some 6) rfl rfl Try.func21 (by kernel_rfl) rfl #[.string a0, .string (⟨#[47, 47]⟩ : ByteArray)] rfl (by (try simp only [List.map_toArray, List.map_cons, List.map_nil]); first | done | rfl | (simp only [List.length_drop, List.length_take]; rfl)) ?_; (with_reducible refine (strings_HasPrefix.calls a0 (⟨#[47, 47]⟩ : ByteArray) false _ A2.out).mono ?_); rintro e w' ⟨rfl, ⟨nd, rfl⟩⟩; refine ⟨_, rfl, ?_⟩) | ((with_reducible refine gate_callee (f := 21) rfl ?_); refine goesL_ (some 15) rfl rfl Try.func21 (by kernel_rfl) rfl #[.string a0, .string (⟨#[47, 42]⟩ : ByteArray)] rfl (by (try simp only [List.map_toArray, List.map_cons, List.map_nil]); first | done | rfl | (simp only [List.length_drop, List.length_take]; rfl)) ?_; (with_reducible refine (strings_HasPrefix.calls a0 (⟨#[47, 42]⟩ : ByteArray) true _ A6.out).mono ?_); rintro e w' ⟨rfl, ⟨nd, rfl⟩⟩; refine ⟨_, rfl, ?_⟩) | ((with_reducible refine gate_callee (f := 22) rfl ?_); refine goesL_ (some 18) rfl rfl Try.func22 (by kernel_rfl) rfl #[.string (a0.extract 2 a0.size), .string (⟨#[42, 47]⟩ : ByteArray)] rfl (by (try simp only [List.map_toArray, List.map_cons, List.map_nil]); first | done | rfl | (simp only [List.length_drop, List.length_take]; rfl)) ?_; (with_reducible refine (strings_Index.calls (a0.extract 2 a0.size) (⟨#[42, 47]⟩ : ByteArray) t105 _ ?sG A9.out).mono ?_); (case sG => exact G0.at_ HG0.out (by repeat (first | (with_reducible first | exact HB.out | exact Below.refl _ _ | apply below_alloc | apply pw_below_drewN | apply below_drew1 | apply below_drew | exact Drawn0.below (by assumption)) | exact HB.out | (refine below_set ?_ (Aside0.out (by assumption)))))); rintro e w' ⟨rfl, ⟨nd, rfl⟩⟩; refine ⟨_, rfl, ?_⟩))
          go_ret
          exact ⟨by first | rfl | (simp; done) | (simp [*]; done), by repeat (first | exact Drawn0.refl _ | apply Drawn0.step)⟩
        · rw [if_neg c10] at H
          have c10b0 : decide (t105 < 0) = false := decide_eq_false c10
          clear c10
          obtain rfl := Option.some.inj H
          go_enter Try.func14, Try.ntmps14
          go_wp2_with (first | ((with_reducible refine gate_callee (f := 21) rfl ?_); refine goesL_ (some 6) rfl rfl Try.func21 (by kernel_rfl) rfl #[.string a0, .string (⟨#[47, 47]⟩ : ByteArray)] rfl (by (try simp only [List.map_toArray, List.map_cons, List.map_nil]); first | done | rfl | (simp only [List.length_drop, List.length_take]; rfl)) ?_; (with_reducible refine (strings_HasPrefix.calls a0 (⟨#[47, 47]⟩ : ByteArray) false _ A2.out).mono ?_); rintro e w' ⟨rfl, ⟨nd, rfl⟩⟩; refine ⟨_, rfl, ?_⟩) | ((with_reducible refine gate_callee (f := 21) rfl ?_); refine goesL_ (some 15) rfl rfl Try.func21 (by kernel_rfl) rfl #[.string a0, .string (⟨#[47, 42]⟩ : ByteArray)] rfl (by (try simp only [List.map_toArray, List.map_cons, List.map_nil]); first | done | rfl | (simp only [List.length_drop, List.length_take]; rfl)) ?_; (with_reducible refine (strings_HasPrefix.calls a0 (⟨#[47, 42]⟩ : ByteArray) true _ A6.out).mono ?_); rintro e w' ⟨rfl, ⟨nd, rfl⟩⟩; refine ⟨_, rfl, ?_⟩) | ((with_reducible refine gate_callee (f := 22) rfl ?_); refine goesL_ (some 18) rfl rfl Try.func22 (by kernel_rfl) rfl #[.string (a0.extract 2 a0.size), .string (⟨#[42, 47]⟩ : ByteArray)] rfl (by (try simp only [List.map_toArray, List.map_cons, List.map_nil]); first | done | rfl | (simp only [List.length_drop, List.length_take]; rfl)) ?_; (with_reducible refine (strings_Index.calls (a0.extract 2 a0.size) (⟨#[42, 47]⟩ : ByteArray) t105 _ ?sG A9.out).mono ?_); (case sG => exact G0.at_ HG0.out (by repeat (first | (with_reducible first | exact HB.out | exact Below.refl _ _ | apply below_alloc | apply pw_below_drewN | apply below_drew1 | apply below_drew | exact Drawn0.below (by assumption)) | exact HB.out | (refine below_set ?_ (Aside0.out (by assumption)))))); rintro e w' ⟨rfl, ⟨nd, rfl⟩⟩; refine ⟨_, rfl, ?_⟩))
          go_ret
          exact ⟨by first | rfl | (simp; done) | (simp [*]; done), by repeat (first | exact Drawn0.refl _ | apply Drawn0.step)⟩
      · rw [if_neg c8] at H
        exact absurd H (by simp)
    · replace c7 := Bool.eq_false_iff.mpr c7
      subst c7
      have H1 : ((lex_span_blank.f a0).bind fun t106 => (some t106)) = some r := by rw [if_neg (show ¬ (false = true) by decide)] at H; exact H
      clear H
      have H := H1
      clear H1
      replace H := Option.bind_eq_some_iff.mp H
      obtain ⟨t106, A110, H⟩ := H
      replace H : (some t106) = some r := H
      have A11 := Aside0.mk A110
      clear A110
      obtain rfl := Option.some.inj H
      go_enter Try.func14, Try.ntmps14
      go_wp2_with (first | ((with_reducible refine gate_callee (f := 21) rfl ?_); refine goesL_ (some 6) rfl rfl Try.func21 (by kernel_rfl) rfl #[.string a0, .string (⟨#[47, 47]⟩ : ByteArray)] rfl (by (try simp only [List.map_toArray, List.map_cons, List.map_nil]); first | done | rfl | (simp only [List.length_drop, List.length_take]; rfl)) ?_; (with_reducible refine (strings_HasPrefix.calls a0 (⟨#[47, 47]⟩ : ByteArray) false _ A2.out).mono ?_); rintro e w' ⟨rfl, ⟨nd, rfl⟩⟩; refine ⟨_, rfl, ?_⟩) | ((with_reducible refine gate_callee (f := 21) rfl ?_); refine goesL_ (some 15) rfl rfl Try.func21 (by kernel_rfl) rfl #[.string a0, .string (⟨#[47, 42]⟩ : ByteArray)] rfl (by (try simp only [List.map_toArray, List.map_cons, List.map_nil]); first | done | rfl | (simp only [List.length_drop, List.length_take]; rfl)) ?_; (with_reducible refine (strings_HasPrefix.calls a0 (⟨#[47, 42]⟩ : ByteArray) false _ A6.out).mono ?_); rintro e w' ⟨rfl, ⟨nd, rfl⟩⟩; refine ⟨_, rfl, ?_⟩) | ((with_reducible refine gate_callee (f := 23) rfl ?_); refine goesL_ (some 24) rfl rfl Try.func23 (by kernel_rfl) rfl #[.string a0, .func (.func 24) #[] #[]] rfl (by (try simp only [List.map_toArray, List.map_cons, List.map_nil]); first | done | rfl | (simp only [List.length_drop, List.length_take]; rfl)) ?_; (with_reducible refine (lex_span_blank.calls a0  t106 _ A11.out).mono ?_); rintro e w' ⟨rfl, ⟨nd, rfl⟩⟩; refine ⟨_, rfl, ?_⟩))
      go_ret
      exact ⟨by first | rfl | (simp; done) | (simp [*]; done), by repeat (first | exact Drawn0.refl _ | apply Drawn0.step)⟩
def posL : List UInt8 → Int → Int → Int × Int
  | [], a, b => (a, b)
  | c :: l, a, b => if c.toNat = 10 then posL l (a + 1) 1 else posL l a (b + 1)
theorem posL_snoc (l : List UInt8) (c : UInt8) : ∀ a b, posL (l ++ [c]) a b = if c.toNat = 10 then ((posL l a b).1 + 1, 1) else ((posL l a b).1, (posL l a b).2 + 1) := by
  induction l with
  | nil => intro a b; simp only [List.nil_append, posL]
  | cons d l ih => intro a b; simp only [List.cons_append, posL]; split <;> exact ih _ _
theorem posL_range (l : List UInt8) : ∀ a b : Int, 0 ≤ a → 0 ≤ b → 0 ≤ (posL l a b).1 ∧ (posL l a b).1 ≤ a + l.length ∧ 0 ≤ (posL l a b).2 ∧ (posL l a b).2 ≤ b + l.length + 1 := by
  induction l with
  | nil => intro a b ha hb; simp only [posL, List.length_nil]; omega
  | cons d l ih =>
    intro a b ha hb
    simp only [posL, List.length_cons]
    split
    · have := ih (a + 1) 1 (by omega) (by omega); omega
    · have := ih a (b + 1) (by omega) (by omega); omega
theorem posL_pos (l : List UInt8) : ∀ a b : Int, 1 ≤ a → 1 ≤ b → 1 ≤ (posL l a b).1 ∧ (posL l a b).1 ≤ a + l.length ∧ 1 ≤ (posL l a b).2 ∧ (posL l a b).2 ≤ b + l.length := by
  induction l with
  | nil => intro a b ha hb; simp only [posL, List.length_nil]; omega
  | cons d l ih =>
    intro a b ha hb
    simp only [posL, List.length_cons]
    split
    · have := ih (a + 1) 1 (by omega) (by omega); omega
    · have := ih a (b + 1) (by omega) (by omega); omega
theorem skip_step (s : ByteArray) (k : Nat) (hk : k < s.size) (a b : Int) : posL (s.data.toList.take (k + 1)) a b = if bt s k = 10 then ((posL (s.data.toList.take k) a b).1 + 1, 1) else ((posL (s.data.toList.take k) a b).1, (posL (s.data.toList.take k) a b).2 + 1) := by
  have hl : k < s.data.toList.length := by rw [data_length]; exact hk
  have hb : bt s (k : Int) = ((s.data.toList[k]'hl).toNat : Int) := by
    simp only [bt, Int.toNat_natCast, hk, dite_true]
    rfl
  rw [List.take_succ_eq_append_getElem hl, posL_snoc, hb]
  by_cases h : (s.data.toList[k]'hl).toNat = 10
  · rw [if_pos h, if_pos (by omega)]
  · rw [if_neg h, if_neg (by omega)]
theorem extract_bt (s : ByteArray) (n k : Nat) (hk : k < n) (hn : n ≤ s.size) : bt (s.extract 0 n) k = bt s k := by
  simp only [bt, Int.toNat_natCast]
  rw [dif_pos (by simp; omega), dif_pos (by omega)]
  simp [ByteArray.getElem_extract]
theorem grown_bytes {w : World} {g : Nat} (hg : g < w.heap.size) (e : TypeId) (s : ByteArray) : w.grownBy (Lib.bytesWorld w e s) (some g) := grown_of_below (bytes_below (Below.refl _ _) (Nat.le_refl _) e s) _
theorem grown_set {w W : World} {g : Nat} (h : w.grownBy W (some g)) (j : Nat) (u : Value) : w.grownBy (W.setCell ⟨g, j, none⟩ u) (some g) :=
  ⟨h.os, h.tape, h.output, by simpa using h.size, fun i hi hne => (Below.heap_setCell _ _ _ i (fun e => hne (by rw [e]))).trans (h.block i hi hne)⟩
theorem reads_set {W : World} {k : IntKind} {B n g : Nat} {xs : List Int} (h : ReadsInt W k (some ⟨B, 0, none⟩) n xs) (hne : g ≠ B) (j : Nat) (u : Value) : ReadsInt (W.setCell ⟨g, j, none⟩ u) k (some ⟨B, 0, none⟩) n xs := by
  refine ⟨h.1, h.2.1, fun hp => ?_⟩
  obtain ⟨ad, e, hc⟩ := h.2.2 hp
  cases e
  refine ⟨_, rfl, fun i hi => ?_⟩
  rw [World.cell?_setCell_far _ _ _ _ (by rw [add_plain]; exact hne)]
  exact hc i hi
theorem skip_calls (g : Nat) (s : ByteArray) (a b : Int) (n : Nat) (w : World) (hg : w.heap[g]? = some (.cells #[.string s, .int .i64 a, .int .i64 b] 40 (0, 0))) (hn : n ≤ s.size) (hs : s.size ≤ 140737488355328) (ha : 0 ≤ a ∧ a + s.size ≤ 4611686018427387904) (hb : 0 ≤ b ∧ b + s.size ≤ 4611686018427387904) :
    Calls Try.prog 15 #[.pointer (some ⟨g, 0, none⟩), .int .i64 n] w fun e w' => e = .returned (.tuple #[]) ∧ w'.heap[g]? = some (.cells #[.string (s.extract n s.size), .int .i64 (posL (s.data.toList.take n) a b).1, .int .i64 (posL (s.data.toList.take n) a b).2] 40 (0, 0)) ∧ w.grownBy w' (some g) := by
  have hu40 := Try.underlying40
  have hu26 := Try.underlying26
  have hkb := fun W => print_bytes (P := Try.prog) 9 22 5 Try.underlying9 Try.underlying22 Try.underlying5 (s.extract 0 n) W
  have g0 := blk_lt hg
  have c0 := blk_cell hg 0
  have c1 := blk_cell hg 1
  have c2 := blk_cell hg 2
  simp only [List.getElem?_toArray, List.getElem?_cons_zero, List.getElem?_cons_succ] at c0 c1 c2
  have HG := Aside0.mk hg
  clear hg
  go_enter Try.func15, Try.ntmps15
  go_wp2
  have hread := bytes_reads w 5 (s.extract 0 n) (by simp; omega)
  have hxs : (s.extract 0 n).size = n := by simp; omega
  rw [hxs] at hread
  have HR := Aside0.mk hread
  have HW := Aside0.mk (grown_bytes g0 5 (s.extract 0 n))
  have HG2 : Aside0 ((Lib.bytesWorld w 5 (s.extract 0 n)).heap[g]? = some (.cells #[.string s, .int .i64 a, .int .i64 b] 40 (0, 0))) := ⟨by rw [Lib.bytesWorld_at_old _ _ _ _ g0]; exact HG.out⟩
  clear hread hxs hkb c0 c1 c2
  go_loopw [14] (fun v14 wr => ∃ k : Nat, v14 = .int .i64 k ∧ k ≤ n ∧ Aside0 (wr.heap[g]? = some (.cells #[.string s, .int .i64 (posL (s.data.toList.take k) a b).1, .int .i64 (posL (s.data.toList.take k) a b).2] 40 (0, 0))) ∧ Aside0 (ReadsInt wr .u8 (some ⟨w.heap.size, 0, none⟩) n (bytesOf (s.extract 0 n))) ∧ Aside0 (w.grownBy wr (some g))) (fun v14 _ => n - (intOf v14).toNat)
  case atStart => exact ⟨0, rfl, by omega, HG2, HR, HW⟩
  case round =>
    clear HG2 HR HW HG
    obtain ⟨k, rfl, hk, HG, HR, HW⟩ := hrel
    have g1 := blk_lt HG.out
    have c0 := blk_cell HG.out 0
    have c1 := blk_cell HG.out 1
    have c2 := blk_cell HG.out 2
    have f0 := blk_frozen HG.out 0
    have f1 := blk_frozen HG.out 1
    have f2 := blk_frozen HG.out 2
    simp only [List.getElem?_toArray, List.getElem?_cons_zero, List.getElem?_cons_succ] at c0 c1 c2
    by_cases hlt : k < n
    · obtain ⟨ad, ead, hcell⟩ := HR.out.at_ (k : Int) (by omega) (by omega)
      cases ead
      rw [rd_bytesOf, add_plain, extract_bt s n k hlt hn, Int.toNat_natCast] at hcell
      have hst := skip_step s k (by omega) a b
      have hrg := posL_range (s.data.toList.take k) a b ha.1 hb.1
      rw [List.length_take, data_length, Nat.min_eq_left (by omega)] at hrg
      generalize posL (s.data.toList.take k) a b = p at *
      obtain ⟨p1, p2⟩ := p
      dsimp only at c0 c1 c2 hst hrg
      obtain ⟨r1, r2, r3, r4⟩ := hrg
      generalize bt s k = c at *
      by_cases hc : c = 10
      · rw [if_pos hc] at hst
        have HS := Aside0.mk hst
        subst hc
        clear hst
        go_wp2
        have HG3 := blk_set (blk_set (blk_set HG.out 2 (.int .i64 (p2 + 1))) 1 (.int .i64 (p1 + 1))) 2 (.int .i64 1)
        exact ⟨⟨k + 1, by go_num, by omega, ⟨by rw [HS.out]; simpa using HG3⟩, ⟨reads_set (reads_set (reads_set HR.out (by omega) _ _) (by omega) _ _) (by omega) _ _⟩, ⟨grown_set (grown_set (grown_set HW.out _ _) _ _) _ _⟩⟩, by simp [intOf]; omega⟩
      · rw [if_neg hc] at hst
        have HS := Aside0.mk hst
        have hcb : (c == 10) = false := by simpa using hc
        clear hst hc
        go_wp2
        have HG3 := blk_set HG.out 2 (.int .i64 (p2 + 1))
        exact ⟨⟨k + 1, by go_num, by omega, ⟨by rw [HS.out]; simpa using HG3⟩, ⟨reads_set HR.out (by omega) _ _⟩, ⟨grown_set HW.out _ _⟩⟩, by simp [intOf]; omega⟩
    · obtain rfl : k = n := by omega
      go_wp2
      go_end0
      exact ⟨rfl, by simpa using blk_set HG.out 0 (.string (s.extract k s.size)), grown_set HW.out _ _⟩
def lex_Word.f (a0 : ByteArray) : Option (Bool) := if a0.toList = ([98, 114, 101, 97, 107] : List UInt8) then (some true) else (if a0.toList = ([99, 97, 115, 101] : List UInt8) then (some true) else (if a0.toList = ([99, 104, 97, 114] : List UInt8) then (some true) else (if a0.toList = ([99, 111, 110, 116, 105, 110, 117, 101] : List UInt8) then (some true) else (if a0.toList = ([100, 101, 102, 97, 117, 108, 116] : List UInt8) then (some true) else (if a0.toList = ([100, 111] : List UInt8) then (some true) else (if a0.toList = ([101, 108, 115, 101] : List UInt8) then (some true) else (if a0.toList = ([102, 111, 114] : List UInt8) then (some true) else (if a0.toList = ([105, 102] : List UInt8) then (some true) else (if a0.toList = ([105, 110] : List UInt8) then (some true) else (if a0.toList = ([105, 110, 116] : List UInt8) then (some true) else (if a0.toList = ([111, 117, 116] : List UInt8) then (some true) else (if a0.toList = ([114, 101, 116, 117, 114, 110] : List UInt8) then (some true) else (if a0.toList = ([115, 105, 122, 101, 111, 102] : List UInt8) then (some true) else (if a0.toList = ([115, 116, 114, 117, 99, 116] : List UInt8) then (some true) else (if a0.toList = ([115, 119, 105, 116, 99, 104] : List UInt8) then (some true) else (if a0.toList = ([118, 111, 105, 100] : List UInt8) then (some true) else (if a0.toList = ([119, 104, 105, 108, 101] : List UInt8) then (some true) else (some false))))))))))))))))))
set_option maxHeartbeats 8000000 in
set_option maxRecDepth 100000 in
theorem lex_Word.calls (a0 : ByteArray) (r : Bool) (w : World) (h : lex_Word.f a0 = some r) :
    Calls Try.prog 9 #[.string a0] w fun e w' => e = .returned (.bool r) ∧ Drawn0 w w' := by
  have H : (if a0.toList = ([98, 114, 101, 97, 107] : List UInt8) then (some true) else (if a0.toList = ([99, 97, 115, 101] : List UInt8) then (some true) else (if a0.toList = ([99, 104, 97, 114] : List UInt8) then (some true) else (if a0.toList = ([99, 111, 110, 116, 105, 110, 117, 101] : List UInt8) then (some true) else (if a0.toList = ([100, 101, 102, 97, 117, 108, 116] : List UInt8) then (some true) else (if a0.toList = ([100, 111] : List UInt8) then (some true) else (if a0.toList = ([101, 108, 115, 101] : List UInt8) then (some true) else (if a0.toList = ([102, 111, 114] : List UInt8) then (some true) else (if a0.toList = ([105, 102] : List UInt8) then (some true) else (if a0.toList = ([105, 110] : List UInt8) then (some true) else (if a0.toList = ([105, 110, 116] : List UInt8) then (some true) else (if a0.toList = ([111, 117, 116] : List UInt8) then (some true) else (if a0.toList = ([114, 101, 116, 117, 114, 110] : List UInt8) then (some true) else (if a0.toList = ([115, 105, 122, 101, 111, 102] : List UInt8) then (some true) else (if a0.toList = ([115, 116, 114, 117, 99, 116] : List UInt8) then (some true) else (if a0.toList = ([115, 119, 105, 116, 99, 104] : List UInt8) then (some true) else (if a0.toList = ([118, 111, 105, 100] : List UInt8) then (some true) else (if a0.toList = ([119, 104, 105, 108, 101] : List UInt8) then (some true) else (some false))))))))))))))))))) = some r := h
  clear h
  by_cases c2 : a0.toList = ([98, 114, 101, 97, 107] : List UInt8)
  · rw [if_pos c2] at H
    have c2b0 : (a0.toList == ([98, 114, 101, 97, 107] : List UInt8)) = true := beq_iff_eq.mpr c2
    have c2b1 : (a0.toList != ([98, 114, 101, 97, 107] : List UInt8)) = false := bne_eq_false_iff_eq.mpr c2
    clear c2
    obtain rfl := Option.some.inj H
    go_enter Try.func9, Try.ntmps9
    go_wp2
    go_ret
    exact ⟨by first | rfl | (simp; done) | (simp [*]; done), by repeat (first | exact Drawn0.refl _ | apply Drawn0.step)⟩
  · rw [if_neg c2] at H
    have c2b0 : (a0.toList == ([98, 114, 101, 97, 107] : List UInt8)) = false := beq_eq_false_iff_ne.mpr c2
    have c2b1 : (a0.toList != ([98, 114, 101, 97, 107] : List UInt8)) = true := bne_iff_ne.mpr c2
    by_cases c3 : a0.toList = ([99, 97, 115, 101] : List UInt8)
    · rw [if_pos c3] at H
      have c3b0 : (a0.toList == ([99, 97, 115, 101] : List UInt8)) = true := beq_iff_eq.mpr c3
      have c3b1 : (a0.toList != ([99, 97, 115, 101] : List UInt8)) = false := bne_eq_false_iff_eq.mpr c3
      clear c3
      obtain rfl := Option.some.inj H
      go_enter Try.func9, Try.ntmps9
      go_wp2
      go_ret
      exact ⟨by first | rfl | (simp; done) | (simp [*]; done), by repeat (first | exact Drawn0.refl _ | apply Drawn0.step)⟩
    · rw [if_neg c3] at H
      have c3b0 : (a0.toList == ([99, 97, 115, 101] : List UInt8)) = false := beq_eq_false_iff_ne.mpr c3
      have c3b1 : (a0.toList != ([99, 97, 115, 101] : List UInt8)) = true := bne_iff_ne.mpr c3
      by_cases c4 : a0.toList = ([99, 104, 97, 114] : List UInt8)
      · rw [if_pos c4] at H
        have c4b0 : (a0.toList == ([99, 104, 97, 114] : List UInt8)) = true := beq_iff_eq.mpr c4
        have c4b1 : (a0.toList != ([99, 104, 97, 114] : List UInt8)) = false := bne_eq_false_iff_eq.mpr c4
        clear c4
        obtain rfl := Option.some.inj H
        go_enter Try.func9, Try.ntmps9
        go_wp2
        go_ret
        exact ⟨by first | rfl | (simp; done) | (simp [*]; done), by repeat (first | exact Drawn0.refl _ | apply Drawn0.step)⟩
      · rw [if_neg c4] at H
        have c4b0 : (a0.toList == ([99, 104, 97, 114] : List UInt8)) = false := beq_eq_false_iff_ne.mpr c4
        have c4b1 : (a0.toList != ([99, 104, 97, 114] : List UInt8)) = true := bne_iff_ne.mpr c4
        by_cases c5 : a0.toList = ([99, 111, 110, 116, 105, 110, 117, 101] : List UInt8)
        · rw [if_pos c5] at H
          have c5b0 : (a0.toList == ([99, 111, 110, 116, 105, 110, 117, 101] : List UInt8)) = true := beq_iff_eq.mpr c5
          have c5b1 : (a0.toList != ([99, 111, 110, 116, 105, 110, 117, 101] : List UInt8)) = false := bne_eq_false_iff_eq.mpr c5
          clear c5
          obtain rfl := Option.some.inj H
          go_enter Try.func9, Try.ntmps9
          go_wp2
          go_ret
          exact ⟨by first | rfl | (simp; done) | (simp [*]; done), by repeat (first | exact Drawn0.refl _ | apply Drawn0.step)⟩
        · rw [if_neg c5] at H
          have c5b0 : (a0.toList == ([99, 111, 110, 116, 105, 110, 117, 101] : List UInt8)) = false := beq_eq_false_iff_ne.mpr c5
          have c5b1 : (a0.toList != ([99, 111, 110, 116, 105, 110, 117, 101] : List UInt8)) = true := bne_iff_ne.mpr c5
          by_cases c6 : a0.toList = ([100, 101, 102, 97, 117, 108, 116] : List UInt8)
          · rw [if_pos c6] at H
            have c6b0 : (a0.toList == ([100, 101, 102, 97, 117, 108, 116] : List UInt8)) = true := beq_iff_eq.mpr c6
            have c6b1 : (a0.toList != ([100, 101, 102, 97, 117, 108, 116] : List UInt8)) = false := bne_eq_false_iff_eq.mpr c6
            clear c6
            obtain rfl := Option.some.inj H
            go_enter Try.func9, Try.ntmps9
            go_wp2
            go_ret
            exact ⟨by first | rfl | (simp; done) | (simp [*]; done), by repeat (first | exact Drawn0.refl _ | apply Drawn0.step)⟩
          · rw [if_neg c6] at H
            have c6b0 : (a0.toList == ([100, 101, 102, 97, 117, 108, 116] : List UInt8)) = false := beq_eq_false_iff_ne.mpr c6
            have c6b1 : (a0.toList != ([100, 101, 102, 97, 117, 108, 116] : List UInt8)) = true := bne_iff_ne.mpr c6
            by_cases c7 : a0.toList = ([100, 111] : List UInt8)
            · rw [if_pos c7] at H
              have c7b0 : (a0.toList == ([100, 111] : List UInt8)) = true := beq_iff_eq.mpr c7
              have c7b1 : (a0.toList != ([100, 111] : List UInt8)) = false := bne_eq_false_iff_eq.mpr c7
              clear c7
              obtain rfl := Option.some.inj H
              go_enter Try.func9, Try.ntmps9
              go_wp2
              go_ret
              exact ⟨by first | rfl | (simp; done) | (simp [*]; done), by repeat (first | exact Drawn0.refl _ | apply Drawn0.step)⟩
            · rw [if_neg c7] at H
              have c7b0 : (a0.toList == ([100, 111] : List UInt8)) = false := beq_eq_false_iff_ne.mpr c7
              have c7b1 : (a0.toList != ([100, 111] : List UInt8)) = true := bne_iff_ne.mpr c7
              by_cases c8 : a0.toList = ([101, 108, 115, 101] : List UInt8)
              · rw [if_pos c8] at H
                have c8b0 : (a0.toList == ([101, 108, 115, 101] : List UInt8)) = true := beq_iff_eq.mpr c8
                have c8b1 : (a0.toList != ([101, 108, 115, 101] : List UInt8)) = false := bne_eq_false_iff_eq.mpr c8
                clear c8
                obtain rfl := Option.some.inj H
                go_enter Try.func9, Try.ntmps9
                go_wp2
                go_ret
                exact ⟨by first | rfl | (simp; done) | (simp [*]; done), by repeat (first | exact Drawn0.refl _ | apply Drawn0.step)⟩
              · rw [if_neg c8] at H
                have c8b0 : (a0.toList == ([101, 108, 115, 101] : List UInt8)) = false := beq_eq_false_iff_ne.mpr c8
                have c8b1 : (a0.toList != ([101, 108, 115, 101] : List UInt8)) = true := bne_iff_ne.mpr c8
                by_cases c9 : a0.toList = ([102, 111, 114] : List UInt8)
                · rw [if_pos c9] at H
                  have c9b0 : (a0.toList == ([102, 111, 114] : List UInt8)) = true := beq_iff_eq.mpr c9
                  have c9b1 : (a0.toList != ([102, 111, 114] : List UInt8)) = false := bne_eq_false_iff_eq.mpr c9
                  clear c9
                  obtain rfl := Option.some.inj H
                  go_enter Try.func9, Try.ntmps9
                  go_wp2
                  go_ret
                  exact ⟨by first | rfl | (simp; done) | (simp [*]; done), by repeat (first | exact Drawn0.refl _ | apply Drawn0.step)⟩
                · rw [if_neg c9] at H
                  have c9b0 : (a0.toList == ([102, 111, 114] : List UInt8)) = false := beq_eq_false_iff_ne.mpr c9
                  have c9b1 : (a0.toList != ([102, 111, 114] : List UInt8)) = true := bne_iff_ne.mpr c9
                  by_cases c10 : a0.toList = ([105, 102] : List UInt8)
                  · rw [if_pos c10] at H
                    have c10b0 : (a0.toList == ([105, 102] : List UInt8)) = true := beq_iff_eq.mpr c10
                    have c10b1 : (a0.toList != ([105, 102] : List UInt8)) = false := bne_eq_false_iff_eq.mpr c10
                    clear c10
                    obtain rfl := Option.some.inj H
                    go_enter Try.func9, Try.ntmps9
                    go_wp2
                    go_ret
                    exact ⟨by first | rfl | (simp; done) | (simp [*]; done), by repeat (first | exact Drawn0.refl _ | apply Drawn0.step)⟩
                  · rw [if_neg c10] at H
                    have c10b0 : (a0.toList == ([105, 102] : List UInt8)) = false := beq_eq_false_iff_ne.mpr c10
                    have c10b1 : (a0.toList != ([105, 102] : List UInt8)) = true := bne_iff_ne.mpr c10
                    by_cases c11 : a0.toList = ([105, 110] : List UInt8)
                    · rw [if_pos c11] at H
                      have c11b0 : (a0.toList == ([105, 110] : List UInt8)) = true := beq_iff_eq.mpr c11
                      have c11b1 : (a0.toList != ([105, 110] : List UInt8)) = false := bne_eq_false_iff_eq.mpr c11
                      clear c11
                      obtain rfl := Option.some.inj H
                      go_enter Try.func9, Try.ntmps9
                      go_wp2
                      go_ret
                      exact ⟨by first | rfl | (simp; done) | (simp [*]; done), by repeat (first | exact Drawn0.refl _ | apply Drawn0.step)⟩
                    · rw [if_neg c11] at H
                      have c11b0 : (a0.toList == ([105, 110] : List UInt8)) = false := beq_eq_false_iff_ne.mpr c11
                      have c11b1 : (a0.toList != ([105, 110] : List UInt8)) = true := bne_iff_ne.mpr c11
                      by_cases c12 : a0.toList = ([105, 110, 116] : List UInt8)
                      · rw [if_pos c12] at H
                        have c12b0 : (a0.toList == ([105, 110, 116] : List UInt8)) = true := beq_iff_eq.mpr c12
                        have c12b1 : (a0.toList != ([105, 110, 116] : List UInt8)) = false := bne_eq_false_iff_eq.mpr c12
                        clear c12
                        obtain rfl := Option.some.inj H
                        go_enter Try.func9, Try.ntmps9
                        go_wp2
                        go_ret
                        exact ⟨by first | rfl | (simp; done) | (simp [*]; done), by repeat (first | exact Drawn0.refl _ | apply Drawn0.step)⟩
                      · rw [if_neg c12] at H
                        have c12b0 : (a0.toList == ([105, 110, 116] : List UInt8)) = false := beq_eq_false_iff_ne.mpr c12
                        have c12b1 : (a0.toList != ([105, 110, 116] : List UInt8)) = true := bne_iff_ne.mpr c12
                        by_cases c13 : a0.toList = ([111, 117, 116] : List UInt8)
                        · rw [if_pos c13] at H
                          have c13b0 : (a0.toList == ([111, 117, 116] : List UInt8)) = true := beq_iff_eq.mpr c13
                          have c13b1 : (a0.toList != ([111, 117, 116] : List UInt8)) = false := bne_eq_false_iff_eq.mpr c13
                          clear c13
                          obtain rfl := Option.some.inj H
                          go_enter Try.func9, Try.ntmps9
                          go_wp2
                          go_ret
                          exact ⟨by first | rfl | (simp; done) | (simp [*]; done), by repeat (first | exact Drawn0.refl _ | apply Drawn0.step)⟩
                        · rw [if_neg c13] at H
                          have c13b0 : (a0.toList == ([111, 117, 116] : List UInt8)) = false := beq_eq_false_iff_ne.mpr c13
                          have c13b1 : (a0.toList != ([111, 117, 116] : List UInt8)) = true := bne_iff_ne.mpr c13
                          by_cases c14 : a0.toList = ([114, 101, 116, 117, 114, 110] : List UInt8)
                          · rw [if_pos c14] at H
                            have c14b0 : (a0.toList == ([114, 101, 116, 117, 114, 110] : List UInt8)) = true := beq_iff_eq.mpr c14
                            have c14b1 : (a0.toList != ([114, 101, 116, 117, 114, 110] : List UInt8)) = false := bne_eq_false_iff_eq.mpr c14
                            clear c14
                            obtain rfl := Option.some.inj H
                            go_enter Try.func9, Try.ntmps9
                            go_wp2
                            go_ret
                            exact ⟨by first | rfl | (simp; done) | (simp [*]; done), by repeat (first | exact Drawn0.refl _ | apply Drawn0.step)⟩
                          · rw [if_neg c14] at H
                            have c14b0 : (a0.toList == ([114, 101, 116, 117, 114, 110] : List UInt8)) = false := beq_eq_false_iff_ne.mpr c14
                            have c14b1 : (a0.toList != ([114, 101, 116, 117, 114, 110] : List UInt8)) = true := bne_iff_ne.mpr c14
                            by_cases c15 : a0.toList = ([115, 105, 122, 101, 111, 102] : List UInt8)
                            · rw [if_pos c15] at H
                              have c15b0 : (a0.toList == ([115, 105, 122, 101, 111, 102] : List UInt8)) = true := beq_iff_eq.mpr c15
                              have c15b1 : (a0.toList != ([115, 105, 122, 101, 111, 102] : List UInt8)) = false := bne_eq_false_iff_eq.mpr c15
                              clear c15
                              obtain rfl := Option.some.inj H
                              go_enter Try.func9, Try.ntmps9
                              go_wp2
                              go_ret
                              exact ⟨by first | rfl | (simp; done) | (simp [*]; done), by repeat (first | exact Drawn0.refl _ | apply Drawn0.step)⟩
                            · rw [if_neg c15] at H
                              have c15b0 : (a0.toList == ([115, 105, 122, 101, 111, 102] : List UInt8)) = false := beq_eq_false_iff_ne.mpr c15
                              have c15b1 : (a0.toList != ([115, 105, 122, 101, 111, 102] : List UInt8)) = true := bne_iff_ne.mpr c15
                              by_cases c16 : a0.toList = ([115, 116, 114, 117, 99, 116] : List UInt8)
                              · rw [if_pos c16] at H
                                have c16b0 : (a0.toList == ([115, 116, 114, 117, 99, 116] : List UInt8)) = true := beq_iff_eq.mpr c16
                                have c16b1 : (a0.toList != ([115, 116, 114, 117, 99, 116] : List UInt8)) = false := bne_eq_false_iff_eq.mpr c16
                                clear c16
                                obtain rfl := Option.some.inj H
                                go_enter Try.func9, Try.ntmps9
                                go_wp2
                                go_ret
                                exact ⟨by first | rfl | (simp; done) | (simp [*]; done), by repeat (first | exact Drawn0.refl _ | apply Drawn0.step)⟩
                              · rw [if_neg c16] at H
                                have c16b0 : (a0.toList == ([115, 116, 114, 117, 99, 116] : List UInt8)) = false := beq_eq_false_iff_ne.mpr c16
                                have c16b1 : (a0.toList != ([115, 116, 114, 117, 99, 116] : List UInt8)) = true := bne_iff_ne.mpr c16
                                by_cases c17 : a0.toList = ([115, 119, 105, 116, 99, 104] : List UInt8)
                                · rw [if_pos c17] at H
                                  have c17b0 : (a0.toList == ([115, 119, 105, 116, 99, 104] : List UInt8)) = true := beq_iff_eq.mpr c17
                                  have c17b1 : (a0.toList != ([115, 119, 105, 116, 99, 104] : List UInt8)) = false := bne_eq_false_iff_eq.mpr c17
                                  clear c17
                                  obtain rfl := Option.some.inj H
                                  go_enter Try.func9, Try.ntmps9
                                  go_wp2
                                  go_ret
                                  exact ⟨by first | rfl | (simp; done) | (simp [*]; done), by repeat (first | exact Drawn0.refl _ | apply Drawn0.step)⟩
                                · rw [if_neg c17] at H
                                  have c17b0 : (a0.toList == ([115, 119, 105, 116, 99, 104] : List UInt8)) = false := beq_eq_false_iff_ne.mpr c17
                                  have c17b1 : (a0.toList != ([115, 119, 105, 116, 99, 104] : List UInt8)) = true := bne_iff_ne.mpr c17
                                  by_cases c18 : a0.toList = ([118, 111, 105, 100] : List UInt8)
                                  · rw [if_pos c18] at H
                                    have c18b0 : (a0.toList == ([118, 111, 105, 100] : List UInt8)) = true := beq_iff_eq.mpr c18
                                    have c18b1 : (a0.toList != ([118, 111, 105, 100] : List UInt8)) = false := bne_eq_false_iff_eq.mpr c18
                                    clear c18
                                    obtain rfl := Option.some.inj H
                                    go_enter Try.func9, Try.ntmps9
                                    go_wp2
                                    go_ret
                                    exact ⟨by first | rfl | (simp; done) | (simp [*]; done), by repeat (first | exact Drawn0.refl _ | apply Drawn0.step)⟩
                                  · rw [if_neg c18] at H
                                    have c18b0 : (a0.toList == ([118, 111, 105, 100] : List UInt8)) = false := beq_eq_false_iff_ne.mpr c18
                                    have c18b1 : (a0.toList != ([118, 111, 105, 100] : List UInt8)) = true := bne_iff_ne.mpr c18
                                    by_cases c19 : a0.toList = ([119, 104, 105, 108, 101] : List UInt8)
                                    · rw [if_pos c19] at H
                                      have c19b0 : (a0.toList == ([119, 104, 105, 108, 101] : List UInt8)) = true := beq_iff_eq.mpr c19
                                      have c19b1 : (a0.toList != ([119, 104, 105, 108, 101] : List UInt8)) = false := bne_eq_false_iff_eq.mpr c19
                                      clear c19
                                      obtain rfl := Option.some.inj H
                                      go_enter Try.func9, Try.ntmps9
                                      go_wp2
                                      go_ret
                                      exact ⟨by first | rfl | (simp; done) | (simp [*]; done), by repeat (first | exact Drawn0.refl _ | apply Drawn0.step)⟩
                                    · rw [if_neg c19] at H
                                      have c19b0 : (a0.toList == ([119, 104, 105, 108, 101] : List UInt8)) = false := beq_eq_false_iff_ne.mpr c19
                                      have c19b1 : (a0.toList != ([119, 104, 105, 108, 101] : List UInt8)) = true := bne_iff_ne.mpr c19
                                      obtain rfl := Option.some.inj H
                                      go_enter Try.func9, Try.ntmps9
                                      go_wp2
                                      go_ret
                                      exact ⟨by first | rfl | (simp; done) | (simp [*]; done), by repeat (first | exact Drawn0.refl _ | apply Drawn0.step)⟩
def lex_letter.f (a0 : Int) : Option (Bool) := if a0 ≥ 97 then (if a0 ≤ 122 then (some true) else (if a0 ≥ 65 then (if a0 ≤ 90 then (some true) else (some (a0 == 95))) else (some (a0 == 95)))) else (if a0 ≥ 65 then (if a0 ≤ 90 then (some true) else (some (a0 == 95))) else (some (a0 == 95)))
set_option maxHeartbeats 8000000 in
set_option maxRecDepth 100000 in
theorem lex_letter.calls (a0 : Int) (r : Bool) (w : World) (h : lex_letter.f a0 = some r) :
    Calls Try.prog 25 #[.int .u8 a0] w fun e w' => e = .returned (.bool r) ∧ Drawn0 w w' := by
  have H : (if a0 ≥ 97 then (if a0 ≤ 122 then (some true) else (if a0 ≥ 65 then (if a0 ≤ 90 then (some true) else (some (a0 == 95))) else (some (a0 == 95)))) else (if a0 ≥ 65 then (if a0 ≤ 90 then (some true) else (some (a0 == 95))) else (some (a0 == 95)))) = some r := h
  clear h
  by_cases c2 : a0 ≥ 97
  · rw [if_pos c2] at H
    have c2b0 : decide (97 ≤ a0) = true := decide_eq_true c2
    clear c2
    by_cases c3 : a0 ≤ 122
    · rw [if_pos c3] at H
      have c3b0 : decide (a0 ≤ 122) = true := decide_eq_true c3
      clear c3
      obtain rfl := Option.some.inj H
      go_enter Try.func25, Try.ntmps25
      go_wp2
      go_ret
      exact ⟨by first | rfl | (simp; done) | (simp [*]; done), by repeat (first | exact Drawn0.refl _ | apply Drawn0.step)⟩
    · rw [if_neg c3] at H
      have c3b0 : decide (a0 ≤ 122) = false := decide_eq_false c3
      clear c3
      by_cases c4 : a0 ≥ 65
      · rw [if_pos c4] at H
        have c4b0 : decide (65 ≤ a0) = true := decide_eq_true c4
        clear c4
        by_cases c5 : a0 ≤ 90
        · rw [if_pos c5] at H
          have c5b0 : decide (a0 ≤ 90) = true := decide_eq_true c5
          clear c5
          obtain rfl := Option.some.inj H
          go_enter Try.func25, Try.ntmps25
          go_wp2
          go_ret
          exact ⟨by first | rfl | (simp; done) | (simp [*]; done), by repeat (first | exact Drawn0.refl _ | apply Drawn0.step)⟩
        · rw [if_neg c5] at H
          have c5b0 : decide (a0 ≤ 90) = false := decide_eq_false c5
          clear c5
          obtain rfl := Option.some.inj H
          go_enter Try.func25, Try.ntmps25
          go_wp2
          go_ret
          exact ⟨by first | rfl | (simp; done) | (simp [*]; done), by repeat (first | exact Drawn0.refl _ | apply Drawn0.step)⟩
      · rw [if_neg c4] at H
        have c4b0 : decide (65 ≤ a0) = false := decide_eq_false c4
        clear c4
        obtain rfl := Option.some.inj H
        go_enter Try.func25, Try.ntmps25
        go_wp2
        go_ret
        exact ⟨by first | rfl | (simp; done) | (simp [*]; done), by repeat (first | exact Drawn0.refl _ | apply Drawn0.step)⟩
  · rw [if_neg c2] at H
    have c2b0 : decide (97 ≤ a0) = false := decide_eq_false c2
    clear c2
    by_cases c6 : a0 ≥ 65
    · rw [if_pos c6] at H
      have c6b0 : decide (65 ≤ a0) = true := decide_eq_true c6
      clear c6
      by_cases c7 : a0 ≤ 90
      · rw [if_pos c7] at H
        have c7b0 : decide (a0 ≤ 90) = true := decide_eq_true c7
        clear c7
        obtain rfl := Option.some.inj H
        go_enter Try.func25, Try.ntmps25
        go_wp2
        go_ret
        exact ⟨by first | rfl | (simp; done) | (simp [*]; done), by repeat (first | exact Drawn0.refl _ | apply Drawn0.step)⟩
      · rw [if_neg c7] at H
        have c7b0 : decide (a0 ≤ 90) = false := decide_eq_false c7
        clear c7
        obtain rfl := Option.some.inj H
        go_enter Try.func25, Try.ntmps25
        go_wp2
        go_ret
        exact ⟨by first | rfl | (simp; done) | (simp [*]; done), by repeat (first | exact Drawn0.refl _ | apply Drawn0.step)⟩
    · rw [if_neg c6] at H
      have c6b0 : decide (65 ≤ a0) = false := decide_eq_false c6
      clear c6
      obtain rfl := Option.some.inj H
      go_enter Try.func25, Try.ntmps25
      go_wp2
      go_ret
      exact ⟨by first | rfl | (simp; done) | (simp [*]; done), by repeat (first | exact Drawn0.refl _ | apply Drawn0.step)⟩
def lex_digit.f (a0 : Int) : Option (Bool) := if a0 ≥ 48 then (some (decide (a0 ≤ 57))) else (some false)
set_option maxHeartbeats 8000000 in
set_option maxRecDepth 100000 in
theorem lex_digit.calls (a0 : Int) (r : Bool) (w : World) (h : lex_digit.f a0 = some r) :
    Calls Try.prog 27 #[.int .u8 a0] w fun e w' => e = .returned (.bool r) ∧ Drawn0 w w' := by
  have H : (if a0 ≥ 48 then (some (decide (a0 ≤ 57))) else (some false)) = some r := h
  clear h
  by_cases c2 : a0 ≥ 48
  · rw [if_pos c2] at H
    have c2b0 : decide (48 ≤ a0) = true := decide_eq_true c2
    clear c2
    obtain rfl := Option.some.inj H
    go_enter Try.func27, Try.ntmps27
    go_wp2
    go_ret
    exact ⟨by first | rfl | (simp; done) | (simp [*]; done), by repeat (first | exact Drawn0.refl _ | apply Drawn0.step)⟩
  · rw [if_neg c2] at H
    have c2b0 : decide (48 ≤ a0) = false := decide_eq_false c2
    clear c2
    obtain rfl := Option.some.inj H
    go_enter Try.func27, Try.ntmps27
    go_wp2
    go_ret
    exact ⟨by first | rfl | (simp; done) | (simp [*]; done), by repeat (first | exact Drawn0.refl _ | apply Drawn0.step)⟩
def lex_more.f (a0 : Int) : Option (Bool) := (lex_letter.f a0).bind fun t107 => (if t107 = true then (some true) else ((lex_digit.f a0).bind fun t108 => (some t108)))
set_option maxHeartbeats 8000000 in
set_option maxRecDepth 100000 in
theorem lex_more.calls (a0 : Int) (r : Bool) (w : World) (h : lex_more.f a0 = some r) :
    Calls Try.prog 26 #[.int .u8 a0] w fun e w' => e = .returned (.bool r) ∧ Drawn0 w w' := by
  have H : ((lex_letter.f a0).bind fun t107 => (if t107 = true then (some true) else ((lex_digit.f a0).bind fun t108 => (some t108)))) = some r := h
  clear h
  replace H := Option.bind_eq_some_iff.mp H
  obtain ⟨t107, A20, H⟩ := H
  replace H : (if t107 = true then (some true) else ((lex_digit.f a0).bind fun t108 => (some t108))) = some r := H
  have A2 := Aside0.mk A20
  clear A20
  by_cases c3 : t107 = true
  · subst c3
    have H1 : (some true) = some r := by rw [if_pos rfl] at H; exact H
    clear H
    have H := H1
    clear H1
    obtain rfl := Option.some.inj H
    go_enter Try.func26, Try.ntmps26
    go_wp2_with (first | ((with_reducible refine gate_callee (f := 25) rfl ?_); refine goesL_ (some 4) rfl rfl Try.func25 (by kernel_rfl) rfl #[.int .u8 a0] rfl (by (try simp only [List.map_toArray, List.map_cons, List.map_nil]); first | done | rfl | (simp only [List.length_drop, List.length_take]; rfl)) ?_; (with_reducible refine (lex_letter.calls a0 true _ A2.out).mono ?_); rintro e w' ⟨rfl, ⟨nd, rfl⟩⟩; refine ⟨_, rfl, ?_⟩))
    go_ret
    exact ⟨by first | rfl | (simp; done) | (simp [*]; done), by repeat (first | exact Drawn0.refl _ | apply Drawn0.step)⟩
  · replace c3 := Bool.eq_false_iff.mpr c3
    subst c3
    have H1 : ((lex_digit.f a0).bind fun t108 => (some t108)) = some r := by rw [if_neg (show ¬ (false = true) by decide)] at H; exact H
    clear H
    have H := H1
    clear H1
    replace H := Option.bind_eq_some_iff.mp H
    obtain ⟨t108, A40, H⟩ := H
    replace H : (some t108) = some r := H
    have A4 := Aside0.mk A40
    clear A40
    obtain rfl := Option.some.inj H
    go_enter Try.func26, Try.ntmps26
    go_wp2_with (first | ((with_reducible refine gate_callee (f := 25) rfl ?_); refine goesL_ (some 4) rfl rfl Try.func25 (by kernel_rfl) rfl #[.int .u8 a0] rfl (by (try simp only [List.map_toArray, List.map_cons, List.map_nil]); first | done | rfl | (simp only [List.length_drop, List.length_take]; rfl)) ?_; (with_reducible refine (lex_letter.calls a0 false _ A2.out).mono ?_); rintro e w' ⟨rfl, ⟨nd, rfl⟩⟩; refine ⟨_, rfl, ?_⟩) | (go_at_call 27; (with_reducible refine (lex_digit.calls a0 t108 _ A4.out).mono ?_); rintro e w' ⟨rfl, ⟨nd, rfl⟩⟩))
    go_ret
    exact ⟨by first | rfl | (simp; done) | (simp [*]; done), by repeat (first | exact Drawn0.refl _ | apply Drawn0.step)⟩
end Go.Proofs.Ytgelabhiebmadaa.P
end
section
namespace Go.Proofs.Ytgelabhiebmadaa.P
open Go.RowKit Go.Proofs.YtgelabhiebmadaaW.PrintWords Go.Proofs.YtgelabhiebmadaaW.PrintLast Go.Proofs.YtgelabhiebmadaaW.PrintMore
attribute [local go_sem] max2_int min2_int max_two min_two max_three min_three max_four min_four   
set_option linter.unusedVariables false
set_option linter.unusedSimpArgs false
def lex_worth.j0 : Nat → Int → Bool → Option (Int)
  | 0, _, _ => none
  | k + 1, x0, x9 => if x9 = true then (some (((x0 - 97) % 256) + 10)) else (if x0 ≥ 65 then (if x0 ≤ 70 then (some (((x0 - 65) % 256) + 10)) else (some 4294967295)) else (some 4294967295))
def lex_worth.f (k : Nat) (a0 : Int) : Option (Int) := (lex_digit.f a0).bind fun t109 => (if t109 = true then (some ((a0 - 48) % 256)) else (if a0 ≥ 97 then (lex_worth.j0 k a0 (decide (a0 ≤ 102))) else (lex_worth.j0 k a0 false)))
set_option maxHeartbeats 8000000 in
set_option maxRecDepth 100000 in
theorem lex_worth.calls (k : Nat) (a0 : Int) (r : Int) (w : World) (h : lex_worth.f k a0 = some r) :
    Calls Try.prog 37 #[.int .u8 a0] w fun e w' => e = .returned (.int .u64 r) ∧ Drawn0 w w' := by
  have H : ((lex_digit.f a0).bind fun t109 => (if t109 = true then (some ((a0 - 48) % 256)) else (if a0 ≥ 97 then (lex_worth.j0 k a0 (decide (a0 ≤ 102))) else (lex_worth.j0 k a0 false)))) = some r := h
  clear h
  replace H := Option.bind_eq_some_iff.mp H
  obtain ⟨t109, A20, H⟩ := H
  replace H : (if t109 = true then (some ((a0 - 48) % 256)) else (if a0 ≥ 97 then (lex_worth.j0 k a0 (decide (a0 ≤ 102))) else (lex_worth.j0 k a0 false))) = some r := H
  have A2 := Aside0.mk A20
  clear A20
  by_cases c3 : t109 = true
  · subst c3
    have H1 : (some ((a0 - 48) % 256)) = some r := by rw [if_pos rfl] at H; exact H
    clear H
    have H := H1
    clear H1
    obtain rfl := Option.some.inj H
    go_enter Try.func37, Try.ntmps37
    go_wp2_with (first | ((with_reducible refine gate_callee (f := 27) rfl ?_); refine goesL_ (some 5) rfl rfl Try.func27 (by kernel_rfl) rfl #[.int .u8 a0] rfl (by (try simp only [List.map_toArray, List.map_cons, List.map_nil]); first | done | rfl | (simp only [List.length_drop, List.length_take]; rfl)) ?_; (with_reducible refine (lex_digit.calls a0 true _ A2.out).mono ?_); rintro e w' ⟨rfl, ⟨nd, rfl⟩⟩; refine ⟨_, rfl, ?_⟩))
    go_ret
    exact ⟨by first | rfl | (simp; done) | (simp [*]; done), by repeat (first | exact Drawn0.refl _ | apply Drawn0.step)⟩
  · replace c3 := Bool.eq_false_iff.mpr c3
    subst c3
    have H1 : (if a0 ≥ 97 then (lex_worth.j0 k a0 (decide (a0 ≤ 102))) else (lex_worth.j0 k a0 false)) = some r := by rw [if_neg (show ¬ (false = true) by decide)] at H; exact H
    clear H
    have H := H1
    clear H1
    have HC4 := Aside0.mk H
    clear H
    go_enter Try.func37, Try.ntmps37
    go_upto_region 3 with (first | ((with_reducible refine gate_callee (f := 27) rfl ?_); refine goesL_ (some 5) rfl rfl Try.func27 (by kernel_rfl) rfl #[.int .u8 a0] rfl (by (try simp only [List.map_toArray, List.map_cons, List.map_nil]); first | done | rfl | (simp only [List.length_drop, List.length_take]; rfl)) ?_; (with_reducible refine (lex_digit.calls a0 false _ A2.out).mono ?_); rintro e w' ⟨rfl, ⟨nd, rfl⟩⟩; refine ⟨_, rfl, ?_⟩))
    (try simp only [Act.put, List.setIfInBounds_toArray, List.set_cons_zero, List.set_cons_succ])
    go_cut [9] (fun v9 wc => ∃ (kq : Nat) (x9_3 : Bool), v9 = .bool x9_3 ∧ Aside0 (lex_worth.j0 kq a0 x9_3 = some r) ∧ Aside0 (kq ≤ k) ∧ Drawn0 w wc)
    case first =>
      have H := HC4.out
      clear HC4
      by_cases c5 : a0 ≥ 97
      · rw [if_pos c5] at H
        have c5b0 : decide (97 ≤ a0) = true := decide_eq_true c5
        clear c5
        (first | rw [c5b0] | (simp only [i64_w, i32_w]; rw [c5b0]) | skip)
        have H' := Aside0.mk H
        clear H
        go_wp2
        go_meet
        case rel => exact ⟨_, (decide (a0 ≤ 102)), (by first | rfl | (simp; done) | (simp [*]; done)), H', ⟨by first | omega | exact Nat.le_refl _⟩, by repeat (first | exact Drawn0.refl _ | apply Drawn0.step)⟩
      · rw [if_neg c5] at H
        have c5b0 : decide (97 ≤ a0) = false := decide_eq_false c5
        clear c5
        (first | rw [c5b0] | (simp only [i64_w, i32_w]; rw [c5b0]) | skip)
        have H' := Aside0.mk H
        clear H
        go_wp2
        go_meet
        case rel => exact ⟨_, (false), (by first | rfl | (simp; done) | (simp [*]; done)), H', ⟨by first | omega | exact Nat.le_refl _⟩, by repeat (first | exact Drawn0.refl _ | apply Drawn0.step)⟩
    case rest =>
      clear HC4
      try clear c2
      try clear p2
      try clear c3
      try clear c5
      try clear c5b0
      obtain ⟨kq, x9_3, rfl, HA, HJ3, ⟨mc3, rfl⟩⟩ := hcut
      cases kq with
      | zero => exact absurd HA.out (by simp [lex_worth.j0])
      | succ kj3 =>
        have H := HA.out
        clear HA
        simp only [lex_worth.j0] at H
        by_cases c6 : x9_3 = true
        · subst c6
          have H1 : (some (((a0 - 97) % 256) + 10)) = some r := by rw [if_pos rfl] at H; exact H
          clear H
          have H := H1
          clear H1
          obtain rfl := Option.some.inj H
          go_wp2
          go_ret
          exact ⟨by first | rfl | (simp; done) | (simp [*]; done), by repeat (first | exact Drawn0.refl _ | apply Drawn0.step)⟩
        · replace c6 := Bool.eq_false_iff.mpr c6
          subst c6
          have H1 : (if a0 ≥ 65 then (if a0 ≤ 70 then (some (((a0 - 65) % 256) + 10)) else (some 4294967295)) else (some 4294967295)) = some r := by rw [if_neg (show ¬ (false = true) by decide)] at H; exact H
          clear H
          have H := H1
          clear H1
          by_cases c7 : a0 ≥ 65
          · rw [if_pos c7] at H
            have c7b0 : decide (65 ≤ a0) = true := decide_eq_true c7
            clear c7
            by_cases c8 : a0 ≤ 70
            · rw [if_pos c8] at H
              have c8b0 : decide (a0 ≤ 70) = true := decide_eq_true c8
              clear c8
              obtain rfl := Option.some.inj H
              go_wp2
              go_ret
              exact ⟨by first | rfl | (simp; done) | (simp [*]; done), by repeat (first | exact Drawn0.refl _ | apply Drawn0.step)⟩
            · rw [if_neg c8] at H
              have c8b0 : decide (a0 ≤ 70) = false := decide_eq_false c8
              clear c8
              obtain rfl := Option.some.inj H
              go_wp2
              go_ret
              exact ⟨by first | rfl | (simp; done) | (simp [*]; done), by repeat (first | exact Drawn0.refl _ | apply Drawn0.step)⟩
          · rw [if_neg c7] at H
            have c7b0 : decide (65 ≤ a0) = false := decide_eq_false c7
            clear c7
            obtain rfl := Option.some.inj H
            go_wp2
            go_ret
            exact ⟨by first | rfl | (simp; done) | (simp [*]; done), by repeat (first | exact Drawn0.refl _ | apply Drawn0.step)⟩
def moreB (c : Int) : Bool := (lex_more.f c).getD false
theorem more_some (c : Int) : lex_more.f c = some (moreB c) := by
  have h : ∃ b, lex_more.f c = some b := by
    unfold lex_more.f lex_letter.f lex_digit.f
    repeat' split
    all_goals simp only [Option.bind_some]
    all_goals repeat' split
    all_goals exact ⟨_, rfl⟩
  obtain ⟨b, hb⟩ := h
  simp [moreB, hb]
def lex_span_more.f (a0 : ByteArray) : Option Int := if a0.size ≤ 9223372036854775807 then some (spanFrom moreB a0 0 : Nat) else none
set_option maxHeartbeats 400000 in
theorem lex_span_more.calls (a0 : ByteArray) (r : Int) (w : World) (h : lex_span_more.f a0 = some r) : Calls Try.prog 23 #[.string a0, .func (.func 26) #[] #[]] w fun e w' => e = .returned (.int .i64 r) ∧ Drawn0 w w' := by
  unfold lex_span_more.f at h
  by_cases hs : a0.size ≤ 9223372036854775807
  case neg => rw [if_neg hs] at h; cases h
  rw [if_pos hs] at h
  have HL := Aside0.mk hs
  have HR := Aside0.mk (Option.some.inj h)
  clear h hs
  go_enter Try.func23, Try.ntmps23
  go_wp2
  go_loopw [5] (fun n wr => ∃ x : Int, n = .int .i64 x ∧ Aside0 (0 ≤ x ∧ x ≤ a0.size ∧ (spanFrom moreB a0 0 : Int) = x + spanFrom moreB a0 x.toNat) ∧ Drawn0 w wr) (fun n _ => a0.size - (intOf n).toNat)
  case atStart => exact ⟨0, rfl, ⟨by omega, by omega, by simp⟩, Drawn0.refl _⟩
  case round =>
    obtain ⟨x, rfl, H, ⟨nd, rfl⟩⟩ := hrel
    by_cases hlt : x < a0.size
    · have hst := span_round moreB a0 x H.out.1 hlt HL.out H.out.2.2
      have hb := bt_at a0 x
      have HM := Aside0.mk (more_some (bt a0 x))
      have p6 := eq_true H.out.1
      have q6 := eq_true hlt
      have c3 : decide (x < (a0.size : Int)) = true := decide_eq_true hlt
      cases hm : moreB (bt a0 x) with
      | true =>
        have HS := Aside0.mk (hst.1 hm)
        have HM2 := Aside0.mk (HM.out.trans (congrArg some hm))
        clear H hst hm hlt HM
        go_wp2_with (go_at_call 26; refine (lex_more.calls (bt a0 x) true _ HM2.out).mono ?_; rintro e w' ⟨rfl, ⟨nd2, rfl⟩⟩)
        exact ⟨⟨wrap64 (x + 1), rfl, ⟨HS.out.1, HS.out.2.1, HS.out.2.2.1⟩, by repeat (first | exact Drawn0.refl _ | apply Drawn0.step)⟩, HS.out.2.2.2⟩
      | false =>
        have HS := Aside0.mk ((hst.2 hm).symm.trans HR.out)
        have HM2 := Aside0.mk (HM.out.trans (congrArg some hm))
        clear H hst hm hlt HM
        go_wp2_with (go_at_call 26; refine (lex_more.calls (bt a0 x) false _ HM2.out).mono ?_; rintro e w' ⟨rfl, ⟨nd2, rfl⟩⟩)
        go_ret
        exact ⟨by rw [← HS.out]; rfl, by repeat (first | exact Drawn0.refl _ | apply Drawn0.step)⟩
    · have c3 : decide (x < (a0.size : Int)) = false := decide_eq_false hlt
      have HS := Aside0.mk (show x = r by
        have := HR.out
        have h2 := H.out.2.2
        rw [span_end moreB a0 x.toNat (by have := H.out.1; omega)] at h2
        omega)
      clear H hlt
      go_wp2
      go_ret
      exact ⟨by rw [← HS.out]; rfl, by repeat (first | exact Drawn0.refl _ | apply Drawn0.step)⟩
def prefB (m : List UInt8) (s : ByteArray) : Bool := decide (m.length ≤ s.size) && s.data.toList.take m.length == m
theorem pref_calls (s : ByteArray) (m : List UInt8) (hs : s.size ≤ 9223372036854775807) (W : World) : Calls Try.prog 21 #[.string s, .string ⟨m.toArray⟩] W fun e w' => e = .returned (.bool (prefB m s)) ∧ Drawn0 W w' := by
  refine strings_HasPrefix.calls s ⟨m.toArray⟩ (prefB m s) W ?_
  have hm : (⟨m.toArray⟩ : ByteArray).size = m.length := rfl
  unfold strings_HasPrefix.f stringslite_HasPrefix.f prefB
  rw [hm]
  by_cases h : m.length ≤ s.size
  · rw [if_pos (by omega), if_pos (by omega), if_pos (by omega), Option.bind_some, decide_eq_true h, Bool.true_and]
    simp [ByteArray.toList_eq]
  · rw [if_neg (by omega), Option.bind_some, decide_eq_false h, Bool.false_and]
def worthV (c : Int) : Int := if 48 ≤ c ∧ c ≤ 57 then c - 48 else if 97 ≤ c ∧ c ≤ 102 then c - 87 else if 65 ≤ c ∧ c ≤ 70 then c - 55 else 4294967295
theorem worth_fin : ∀ c : Fin 256, lex_worth.f 1 (c.val : Int) = some (worthV (c.val : Int)) := by decide +kernel
theorem worth_some (c : Int) (h0 : 0 ≤ c) (h1 : c ≤ 255) : lex_worth.f 1 c = some (worthV c) := by
  have h := worth_fin ⟨c.toNat, by omega⟩
  simp only [Int.toNat_of_nonneg h0] at h
  exact h
theorem worth_range (c : Int) : 0 ≤ worthV c ∧ worthV c ≤ 4294967295 := by
  unfold worthV
  split
  · omega
  · split
    · omega
    · split <;> omega
def numL (base : Int) : List UInt8 → Int → Bool → Option (Int × Bool)
  | [], n, far => some (n, far)
  | c :: l, n, far => if worthV c.toNat ≥ base then none else if n * base + worthV c.toNat > 4294967295 then numL base l 4294967295 true else numL base l (n * base + worthV c.toNat) far
def numTok (all : ByteArray) : Option (Int × Bool) → Int × ByteArray × Int × Int × Int × Int
  | none => (0, ⟨#[]⟩, 0, 0, 0, 3)
  | some (n, far) => if far = true then (0, ⟨#[]⟩, 0, 0, 0, 7) else (3, all, n, 0, 0, 0)
def numOf (all digits : ByteArray) (base : Int) : Int × ByteArray × Int × Int × Int × Int := if digits.size = 0 then (0, ⟨#[]⟩, 0, 0, 0, 3) else numTok all (numL base digits.data.toList 0 false)
def numAll (all : ByteArray) : Int × ByteArray × Int × Int × Int × Int := if prefB [48, 120] all = true ∨ prefB [48, 88] all = true then numOf all (all.extract 2 all.size) 16 else numOf all all 10
theorem num_round (base : Int) (s : ByteArray) (x : Int) (n : Int) (far : Bool) (h0 : 0 ≤ x) (h1 : x < s.size) : numL base (s.data.toList.drop x.toNat) n far = if worthV (bt s x) ≥ base then none else if n * base + worthV (bt s x) > 4294967295 then numL base (s.data.toList.drop (x + 1).toNat) 4294967295 true else numL base (s.data.toList.drop (x + 1).toNat) (n * base + worthV (bt s x)) far := by
  obtain ⟨k, rfl⟩ := Int.eq_ofNat_of_zero_le h0
  have hl : k < s.data.toList.length := by rw [data_length]; omega
  have hb : bt s (k : Int) = ((s.data.toList[k]'hl).toNat : Int) := by
    simp only [bt, Int.toNat_natCast]
    rw [dif_pos (by omega)]
    rfl
  rw [show ((k : Int) + 1).toNat = k + 1 by omega, Int.toNat_natCast, List.drop_eq_getElem_cons hl, hb]
  rfl
theorem num_last (base : Int) (s : ByteArray) (x : Int) (n : Int) (far : Bool) (h1 : (s.size : Int) ≤ x) : numL base (s.data.toList.drop x.toNat) n far = some (n, far) := by
  rw [List.drop_eq_nil_of_le (by rw [data_length]; omega)]
  rfl
theorem num_world (w : World) (n : Nat) (s : ByteArray) (hs : s.size ≤ 9223372036854775807) : Aside0 (ReadsInt (Lib.bytesWorld ((w.alloc (.cells #[.int .i64 0, .string ⟨#[]⟩, .int .u32 0, .int .i64 0, .int .i64 0] 33)).drewN n) 5 s) .u8 (some ⟨w.heap.size + 1, 0, none⟩) s.size (bytesOf s)) ∧ Aside0 ((Lib.bytesWorld ((w.alloc (.cells #[.int .i64 0, .string ⟨#[]⟩, .int .u32 0, .int .i64 0, .int .i64 0] 33)).drewN n) 5 s).heap[w.heap.size]? = some (.cells #[.int .i64 0, .string ⟨#[]⟩, .int .u32 0, .int .i64 0, .int .i64 0] 33 (0, 0))) ∧ Aside0 (Below w.heap.size w (Lib.bytesWorld ((w.alloc (.cells #[.int .i64 0, .string ⟨#[]⟩, .int .u32 0, .int .i64 0, .int .i64 0] 33)).drewN n) 5 s)) := by
  refine ⟨⟨?_⟩, ⟨?_⟩, ⟨?_⟩⟩
  · simpa using bytes_reads ((w.alloc (.cells #[.int .i64 0, .string ⟨#[]⟩, .int .u32 0, .int .i64 0, .int .i64 0] 33)).drewN n) 5 s hs
  · rw [Lib.bytesWorld_at_old _ _ _ _ (by simp)]
    exact heap_alloc_last w _
  · exact bytes_below (pw_below_drewN (below_alloc (Below.refl _ _) _) _) (by simp) _ _
theorem heap_dn {W : World} {g : Nat} {x : Option Obj} (h : W.heap[g]? = x) (n : Nat) : (W.drewN n).heap[g]? = x := h
theorem tok_set {W : World} {g : Nat} {c0 c1 c2 c3 c4 : Value} (h : W.heap[g]? = some (.cells #[c0, c1, c2, c3, c4] 33 (0, 0))) (v0 v1 v2 v3 v4 : Value) : (((((W.setCell ⟨g, 0, none⟩ v0).setCell ⟨g, 1, none⟩ v1).setCell ⟨g, 2, none⟩ v2).setCell ⟨g, 3, none⟩ v3).setCell ⟨g, 4, none⟩ v4).heap[g]? = some (.cells #[v0, v1, v2, v3, v4] 33 (0, 0)) := by
  simpa using blk_set (blk_set (blk_set (blk_set (blk_set h 0 v0) 1 v1) 2 v2) 3 v3) 4 v4
theorem empty_iff (s : ByteArray) : s.toList.isEmpty = decide (s.size = 0) := by
  rw [ByteArray.toList_eq, ← data_length]
  cases s.data.toList <;> simp
def lex_number.f (a0 : ByteArray) : Option (Int × ByteArray × Int × Int × Int × Int) := if a0.size ≤ 140737488355328 then some (numAll (a0.extract 0 (spanFrom moreB a0 0))) else none
set_option maxHeartbeats 2000000 in
theorem lex_number.calls (a0 : ByteArray) (r1 : Int) (r2 : ByteArray) (r3 : Int) (r4 : Int) (r5 : Int) (r6 : Int) (w : World) (h : lex_number.f a0 = some (r1, r2, r3, r4, r5, r6)) :
    Calls Try.prog 28 #[.string a0] w fun e w' => e = .returned (.tuple #[.agg #[.int .i64 r1, .string r2, .int .u32 r3, .int .i64 r4, .int .i64 r5], .int .i64 r6]) ∧ Below w.heap.size w w' := by
  unfold lex_number.f at h
  by_cases hs : a0.size ≤ 140737488355328
  case neg => rw [if_neg hs] at h; cases h
  rw [if_pos hs] at h
  have h := Option.some.inj h
  have hN := span_le moreB a0 0
  have HSP : Aside0 (∀ W, Calls Try.prog 23 #[.string a0, .func (.func 26) #[] #[]] W fun e w' => e = .returned (.int .i64 (spanFrom moreB a0 0 : Nat)) ∧ Drawn0 W w') := ⟨fun W => lex_span_more.calls a0 _ W (by unfold lex_span_more.f; rw [if_pos (by omega)])⟩
  generalize spanFrom moreB a0 0 = N at *
  have hall : (a0.extract 0 N).size = N := by simp; omega
  have hNs : N ≤ a0.size := by omega
  have hN0 : N ≤ 140737488355328 := by omega
  clear hN
  have hu33 := Try.underlying33
  have hp1 : ∀ W, Calls Try.prog 21 #[.string (a0.extract 0 N), .string ⟨#[48, 120]⟩] W fun e w' => e = .returned (.bool (prefB [48, 120] (a0.extract 0 N))) ∧ Drawn0 W w' := fun W => pref_calls (a0.extract 0 N) [48, 120] (by omega) W
  have hp2 : ∀ W, Calls Try.prog 21 #[.string (a0.extract 0 N), .string ⟨#[48, 88]⟩] W fun e w' => e = .returned (.bool (prefB [48, 88] (a0.extract 0 N))) ∧ Drawn0 W w' := fun W => pref_calls (a0.extract 0 N) [48, 88] (by omega) W
  unfold numAll at h
  by_cases hb : prefB [48, 120] (a0.extract 0 N) = true ∨ prefB [48, 88] (a0.extract 0 N) = true
  · rw [if_pos hb] at h
    have h2 : 2 ≤ N := by
      have hq : ∀ m : List UInt8, m.length = 2 → prefB m (a0.extract 0 N) = true → 2 ≤ N := fun m hl hm => by
        unfold prefB at hm
        rw [Bool.and_eq_true] at hm
        have := of_decide_eq_true hm.1
        omega
      rcases hb with hb | hb
      · exact hq _ rfl hb
      · exact hq _ rfl hb
    have hd16 : ((a0.extract 0 N).extract 2 N).size = N - 2 := by simp; omega
    rw [hall] at h
    cases hb1 : prefB [48, 120] (a0.extract 0 N) with
    | true =>
      rw [hb1] at hp1
      have HP1 := Aside0.mk hp1
      have HP2 := Aside0.mk hp2
      clear hp1 hp2 hb hb1
      have hkb := fun W => print_bytes (P := Try.prog) 9 22 5 Try.underlying9 Try.underlying22 Try.underlying5 ((a0.extract 0 N).extract 2 N) W
      have hds : ((a0.extract 0 N).extract 2 N).size = (N - 2) := hd16
      have he0 := empty_iff ((a0.extract 0 N).extract 2 N)
      rw [hds] at he0
      unfold numOf at h
      rw [hds] at h
      have HAL := Aside0.mk hall
      have HDS := Aside0.mk hds
      clear hall hds hd16
      by_cases hN1 : (N - 2) = 0
      · have he : ((a0.extract 0 N).extract 2 N).toList.isEmpty = true := by rw [he0]; exact decide_eq_true hN1
        rw [if_pos hN1] at h
        simp only [Prod.mk.injEq] at h
        obtain ⟨rfl, rfl, rfl, rfl, rfl, rfl⟩ := h
        clear he0 hN1 hkb
        go_enter Try.func28, Try.ntmps28
        go_wp2_with (first | (go_at_call 23; refine (HSP.out _).mono ?_; rintro e w' ⟨rfl, ⟨nd, rfl⟩⟩) | (go_at_call 21; (first | with_reducible refine (HP1.out _).mono ?_ | with_reducible refine (HP2.out _).mono ?_); rintro e w' ⟨rfl, ⟨nd2, rfl⟩⟩))
        have hz : ∀ n, (((((((w.alloc (.cells #[.int .i64 0, .string ⟨#[]⟩, .int .u32 0, .int .i64 0, .int .i64 0] 33)).drewN n).setCell ⟨w.heap.size, 0, none⟩ (.int .i64 0)).setCell ⟨w.heap.size, 1, none⟩ (.string ⟨#[]⟩)).setCell ⟨w.heap.size, 2, none⟩ (.int .u32 0)).setCell ⟨w.heap.size, 3, none⟩ (.int .i64 0)).setCell ⟨w.heap.size, 4, none⟩ (.int .i64 0)).heap[w.heap.size]? = some (.cells #[.int .i64 0, .string ⟨#[]⟩, .int .u32 0, .int .i64 0, .int .i64 0] 33 (0, 0)) := fun n => by
          have hq : ((w.alloc (.cells #[.int .i64 0, .string ⟨#[]⟩, .int .u32 0, .int .i64 0, .int .i64 0] 33)).drewN n).heap[w.heap.size]? = some (.cells #[.int .i64 0, .string ⟨#[]⟩, .int .u32 0, .int .i64 0, .int .i64 0] 33 (0, 0)) := heap_alloc_last w _
          simpa using blk_set (blk_set (blk_set (blk_set (blk_set hq 0 (.int .i64 0)) 1 (.string ⟨#[]⟩)) 2 (.int .u32 0)) 3 (.int .i64 0)) 4 (.int .i64 0)
        refine bodyPost_ret (results_ct rfl _ _ w.heap.size 33 _ (0, 0) _ rfl (hz _) Try.underlying33 rfl (by kernel_rfl)) rfl ⟨rfl, ?_⟩
        exact (((((pw_below_drewN (below_alloc (Below.refl _ _) _) _).setCell (Nat.le_refl _) _).setCell (Nat.le_refl _) _).setCell (Nat.le_refl _) _).setCell (Nat.le_refl _) _).setCell (Nat.le_refl _) _
      · have he : ((a0.extract 0 N).extract 2 N).toList.isEmpty = false := by rw [he0]; exact decide_eq_false hN1
        rw [if_neg hN1] at h
        have HH := Aside0.mk h
        clear h he0 hN1
        go_enter Try.func28, Try.ntmps28
        go_wp2_with (first | (go_at_call 23; refine (HSP.out _).mono ?_; rintro e w' ⟨rfl, ⟨nd, rfl⟩⟩) | (go_at_call 21; (first | with_reducible refine (HP1.out _).mono ?_ | with_reducible refine (HP2.out _).mono ?_); rintro e w' ⟨rfl, ⟨nd2, rfl⟩⟩))
        generalize hWb : Lib.bytesWorld _ 5 ((a0.extract 0 N).extract 2 N) = Wb
        obtain ⟨HC, HG, HB⟩ : Aside0 (ReadsInt Wb .u8 (some ⟨w.heap.size + 1, 0, none⟩) ((a0.extract 0 N).extract 2 N).size (bytesOf ((a0.extract 0 N).extract 2 N))) ∧ Aside0 (Wb.heap[w.heap.size]? = some (.cells #[.int .i64 0, .string ⟨#[]⟩, .int .u32 0, .int .i64 0, .int .i64 0] 33 (0, 0))) ∧ Aside0 (Below w.heap.size w Wb) := by
          rw [← hWb]
          exact num_world w _ ((a0.extract 0 N).extract 2 N) (by rw [HDS.out]; omega)
        clear hWb hkb he
        go_loopw [30, 7, 8] (fun v30 v7 v8 wr => ∃ (x n : Int) (far : Bool), v30 = .int .i64 x ∧ v7 = .int .u64 n ∧ v8 = .bool far ∧ 0 ≤ x ∧ x ≤ ((N - 2) : Nat) ∧ 0 ≤ n ∧ n ≤ 4294967295 ∧ Aside0 (numL 16 (((a0.extract 0 N).extract 2 N).data.toList.drop x.toNat) n far = numL 16 ((a0.extract 0 N).extract 2 N).data.toList 0 false) ∧ Drawn0 Wb wr) (fun v30 _ _ _ => (N - 2) - (intOf v30).toNat)
        case atStart => exact ⟨0, 0, false, rfl, rfl, rfl, by omega, by omega, by omega, by omega, ⟨rfl⟩, Drawn0.refl _⟩
        case round =>
          obtain ⟨x, n, far, rfl, rfl, rfl, hx0, hx1, hn0, hn1, HM, ⟨md, rfl⟩⟩ := hrel
          have g0 := blk_lt HG.out
          by_cases hlt : x < ((N - 2) : Nat)
          · have hrd := num_round 16 ((a0.extract 0 N).extract 2 N) x n far hx0 (by rw [HDS.out]; exact hlt)
            obtain ⟨ad, ead, hcell⟩ := HC.out.at_ x hx0 (by rw [HDS.out]; exact hlt)
            cases ead
            rw [rd_bytesOf, add_plain] at hcell
            have hbr := bt_range ((a0.extract 0 N).extract 2 N) x
            have hws := worth_some (bt ((a0.extract 0 N).extract 2 N) x) hbr.1 hbr.2
            have hwr := worth_range (bt ((a0.extract 0 N).extract 2 N) x)
            generalize bt ((a0.extract 0 N).extract 2 N) x = c at *
            generalize worthV c = v at *
            have HWC : Aside0 (∀ W, Calls Try.prog 37 #[.int .u8 c] W fun e w' => e = .returned (.int .u64 v) ∧ Drawn0 W w') := ⟨fun W => lex_worth.calls 1 c v W hws⟩
            obtain ⟨hv0, hv1⟩ := hwr
            clear hws hbr
            by_cases hv : v ≥ 16
            · rw [if_pos hv] at hrd
              have HF := Aside0.mk (HM.out.symm.trans hrd)
              have HR : (0, (⟨#[]⟩ : ByteArray), (0 : Int), (0 : Int), (0 : Int), (3 : Int)) = (r1, r2, r3, r4, r5, r6) := by
                rw [← HH.out, HF.out]
                rfl
              simp only [Prod.mk.injEq] at HR
              obtain ⟨rfl, rfl, rfl, rfl, rfl, rfl⟩ := HR
              clear hrd HF HM
              have b0 := blk_cell HG.out 0
              have b1 := blk_cell HG.out 1
              have b2 := blk_cell HG.out 2
              have b3 := blk_cell HG.out 3
              have b4 := blk_cell HG.out 4
              have f0 := blk_frozen HG.out 0
              have f1 := blk_frozen HG.out 1
              have f2 := blk_frozen HG.out 2
              have f3 := blk_frozen HG.out 3
              have f4 := blk_frozen HG.out 4
              go_wp2_with (go_at_call 37; refine (HWC.out _).mono ?_; rintro e w' ⟨rfl, ⟨nd3, rfl⟩⟩)
              refine bodyPost_ret (results_ct rfl _ _ w.heap.size 33 _ (0, 0) _ rfl (tok_set (heap_dn HG.out _) _ _ _ _ _) Try.underlying33 rfl (by kernel_rfl)) rfl ⟨rfl, ?_⟩
              exact (((((pw_below_drewN HB.out _).setCell (Nat.le_refl _) _).setCell (Nat.le_refl _) _).setCell (Nat.le_refl _) _).setCell (Nat.le_refl _) _).setCell (Nat.le_refl _) _
            · rw [if_neg hv] at hrd
              have hwx : wrap64 (x + 1) = x + 1 := by unfold wrap64; omega
              by_cases hm : n * 16 + v > 4294967295
              · rw [if_pos hm] at hrd
                have HF := Aside0.mk (hrd.symm.trans HM.out)
                clear hrd HM
                go_wp2_with (go_at_call 37; refine (HWC.out _).mono ?_; rintro e w' ⟨rfl, ⟨nd3, rfl⟩⟩)
                exact ⟨⟨x + 1, 4294967295, true, rfl, rfl, rfl, by omega, by omega, by omega, by omega, HF, by repeat (first | exact Drawn0.refl _ | apply Drawn0.step)⟩, by simp [intOf]; omega⟩
              · rw [if_neg hm] at hrd
                have HF := Aside0.mk (hrd.symm.trans HM.out)
                clear hrd HM
                go_wp2_with (go_at_call 37; refine (HWC.out _).mono ?_; rintro e w' ⟨rfl, ⟨nd3, rfl⟩⟩)
                exact ⟨⟨x + 1, n * 16 + v, far, rfl, rfl, rfl, by omega, by omega, by omega, by omega, HF, by repeat (first | exact Drawn0.refl _ | apply Drawn0.step)⟩, by simp [intOf]; omega⟩
          · have hla := num_last 16 ((a0.extract 0 N).extract 2 N) x n far (by rw [HDS.out]; omega)
            have HR : numTok (a0.extract 0 N) (some (n, far)) = (r1, r2, r3, r4, r5, r6) := by
              rw [← HH.out, ← HM.out, hla]
            clear hla HM
            have b0 := blk_cell HG.out 0
            have b1 := blk_cell HG.out 1
            have b2 := blk_cell HG.out 2
            have b3 := blk_cell HG.out 3
            have b4 := blk_cell HG.out 4
            have f0 := blk_frozen HG.out 0
            have f1 := blk_frozen HG.out 1
            have f2 := blk_frozen HG.out 2
            have f3 := blk_frozen HG.out 3
            have f4 := blk_frozen HG.out 4
            cases far with
            | true =>
              simp only [numTok, if_true, Prod.mk.injEq] at HR
              obtain ⟨rfl, rfl, rfl, rfl, rfl, rfl⟩ := HR
              go_wp2
              refine bodyPost_ret (results_ct rfl _ _ w.heap.size 33 _ (0, 0) _ rfl (tok_set (heap_dn HG.out _) _ _ _ _ _) Try.underlying33 rfl (by kernel_rfl)) rfl ⟨rfl, ?_⟩
              exact (((((pw_below_drewN HB.out _).setCell (Nat.le_refl _) _).setCell (Nat.le_refl _) _).setCell (Nat.le_refl _) _).setCell (Nat.le_refl _) _).setCell (Nat.le_refl _) _
            | false =>
              simp only [numTok, if_neg (show ¬ (false = true) by decide), Prod.mk.injEq] at HR
              obtain ⟨rfl, rfl, rfl, rfl, rfl, rfl⟩ := HR
              go_wp2
              refine bodyPost_ret (results_ct rfl _ _ w.heap.size 33 _ (0, 0) _ rfl (tok_set (heap_dn HG.out _) _ _ _ _ _) Try.underlying33 rfl (by kernel_rfl)) rfl ⟨rfl, ?_⟩
              exact (((((pw_below_drewN HB.out _).setCell (Nat.le_refl _) _).setCell (Nat.le_refl _) _).setCell (Nat.le_refl _) _).setCell (Nat.le_refl _) _).setCell (Nat.le_refl _) _
    | false =>
      rw [hb1] at hp1
      rw [show prefB [48, 88] (a0.extract 0 N) = true by simpa [hb1] using hb] at hp2
      have HP1 := Aside0.mk hp1
      have HP2 := Aside0.mk hp2
      clear hp1 hp2 hb hb1
      have hkb := fun W => print_bytes (P := Try.prog) 9 22 5 Try.underlying9 Try.underlying22 Try.underlying5 ((a0.extract 0 N).extract 2 N) W
      have hds : ((a0.extract 0 N).extract 2 N).size = (N - 2) := hd16
      have he0 := empty_iff ((a0.extract 0 N).extract 2 N)
      rw [hds] at he0
      unfold numOf at h
      rw [hds] at h
      have HAL := Aside0.mk hall
      have HDS := Aside0.mk hds
      clear hall hds hd16
      by_cases hN1 : (N - 2) = 0
      · have he : ((a0.extract 0 N).extract 2 N).toList.isEmpty = true := by rw [he0]; exact decide_eq_true hN1
        rw [if_pos hN1] at h
        simp only [Prod.mk.injEq] at h
        obtain ⟨rfl, rfl, rfl, rfl, rfl, rfl⟩ := h
        clear he0 hN1 hkb
        go_enter Try.func28, Try.ntmps28
        go_wp2_with (first | (go_at_call 23; refine (HSP.out _).mono ?_; rintro e w' ⟨rfl, ⟨nd, rfl⟩⟩) | (go_at_call 21; (first | with_reducible refine (HP1.out _).mono ?_ | with_reducible refine (HP2.out _).mono ?_); rintro e w' ⟨rfl, ⟨nd2, rfl⟩⟩))
        have hz : ∀ n, (((((((w.alloc (.cells #[.int .i64 0, .string ⟨#[]⟩, .int .u32 0, .int .i64 0, .int .i64 0] 33)).drewN n).setCell ⟨w.heap.size, 0, none⟩ (.int .i64 0)).setCell ⟨w.heap.size, 1, none⟩ (.string ⟨#[]⟩)).setCell ⟨w.heap.size, 2, none⟩ (.int .u32 0)).setCell ⟨w.heap.size, 3, none⟩ (.int .i64 0)).setCell ⟨w.heap.size, 4, none⟩ (.int .i64 0)).heap[w.heap.size]? = some (.cells #[.int .i64 0, .string ⟨#[]⟩, .int .u32 0, .int .i64 0, .int .i64 0] 33 (0, 0)) := fun n => by
          have hq : ((w.alloc (.cells #[.int .i64 0, .string ⟨#[]⟩, .int .u32 0, .int .i64 0, .int .i64 0] 33)).drewN n).heap[w.heap.size]? = some (.cells #[.int .i64 0, .string ⟨#[]⟩, .int .u32 0, .int .i64 0, .int .i64 0] 33 (0, 0)) := heap_alloc_last w _
          simpa using blk_set (blk_set (blk_set (blk_set (blk_set hq 0 (.int .i64 0)) 1 (.string ⟨#[]⟩)) 2 (.int .u32 0)) 3 (.int .i64 0)) 4 (.int .i64 0)
        refine bodyPost_ret (results_ct rfl _ _ w.heap.size 33 _ (0, 0) _ rfl (hz _) Try.underlying33 rfl (by kernel_rfl)) rfl ⟨rfl, ?_⟩
        exact (((((pw_below_drewN (below_alloc (Below.refl _ _) _) _).setCell (Nat.le_refl _) _).setCell (Nat.le_refl _) _).setCell (Nat.le_refl _) _).setCell (Nat.le_refl _) _).setCell (Nat.le_refl _) _
      · have he : ((a0.extract 0 N).extract 2 N).toList.isEmpty = false := by rw [he0]; exact decide_eq_false hN1
        rw [if_neg hN1] at h
        have HH := Aside0.mk h
        clear h he0 hN1
        go_enter Try.func28, Try.ntmps28
        go_wp2_with (first | (go_at_call 23; refine (HSP.out _).mono ?_; rintro e w' ⟨rfl, ⟨nd, rfl⟩⟩) | (go_at_call 21; (first | with_reducible refine (HP1.out _).mono ?_ | with_reducible refine (HP2.out _).mono ?_); rintro e w' ⟨rfl, ⟨nd2, rfl⟩⟩))
        generalize hWb : Lib.bytesWorld _ 5 ((a0.extract 0 N).extract 2 N) = Wb
        obtain ⟨HC, HG, HB⟩ : Aside0 (ReadsInt Wb .u8 (some ⟨w.heap.size + 1, 0, none⟩) ((a0.extract 0 N).extract 2 N).size (bytesOf ((a0.extract 0 N).extract 2 N))) ∧ Aside0 (Wb.heap[w.heap.size]? = some (.cells #[.int .i64 0, .string ⟨#[]⟩, .int .u32 0, .int .i64 0, .int .i64 0] 33 (0, 0))) ∧ Aside0 (Below w.heap.size w Wb) := by
          rw [← hWb]
          exact num_world w _ ((a0.extract 0 N).extract 2 N) (by rw [HDS.out]; omega)
        clear hWb hkb he
        go_loopw [30, 7, 8] (fun v30 v7 v8 wr => ∃ (x n : Int) (far : Bool), v30 = .int .i64 x ∧ v7 = .int .u64 n ∧ v8 = .bool far ∧ 0 ≤ x ∧ x ≤ ((N - 2) : Nat) ∧ 0 ≤ n ∧ n ≤ 4294967295 ∧ Aside0 (numL 16 (((a0.extract 0 N).extract 2 N).data.toList.drop x.toNat) n far = numL 16 ((a0.extract 0 N).extract 2 N).data.toList 0 false) ∧ Drawn0 Wb wr) (fun v30 _ _ _ => (N - 2) - (intOf v30).toNat)
        case atStart => exact ⟨0, 0, false, rfl, rfl, rfl, by omega, by omega, by omega, by omega, ⟨rfl⟩, Drawn0.refl _⟩
        case round =>
          obtain ⟨x, n, far, rfl, rfl, rfl, hx0, hx1, hn0, hn1, HM, ⟨md, rfl⟩⟩ := hrel
          have g0 := blk_lt HG.out
          by_cases hlt : x < ((N - 2) : Nat)
          · have hrd := num_round 16 ((a0.extract 0 N).extract 2 N) x n far hx0 (by rw [HDS.out]; exact hlt)
            obtain ⟨ad, ead, hcell⟩ := HC.out.at_ x hx0 (by rw [HDS.out]; exact hlt)
            cases ead
            rw [rd_bytesOf, add_plain] at hcell
            have hbr := bt_range ((a0.extract 0 N).extract 2 N) x
            have hws := worth_some (bt ((a0.extract 0 N).extract 2 N) x) hbr.1 hbr.2
            have hwr := worth_range (bt ((a0.extract 0 N).extract 2 N) x)
            generalize bt ((a0.extract 0 N).extract 2 N) x = c at *
            generalize worthV c = v at *
            have HWC : Aside0 (∀ W, Calls Try.prog 37 #[.int .u8 c] W fun e w' => e = .returned (.int .u64 v) ∧ Drawn0 W w') := ⟨fun W => lex_worth.calls 1 c v W hws⟩
            obtain ⟨hv0, hv1⟩ := hwr
            clear hws hbr
            by_cases hv : v ≥ 16
            · rw [if_pos hv] at hrd
              have HF := Aside0.mk (HM.out.symm.trans hrd)
              have HR : (0, (⟨#[]⟩ : ByteArray), (0 : Int), (0 : Int), (0 : Int), (3 : Int)) = (r1, r2, r3, r4, r5, r6) := by
                rw [← HH.out, HF.out]
                rfl
              simp only [Prod.mk.injEq] at HR
              obtain ⟨rfl, rfl, rfl, rfl, rfl, rfl⟩ := HR
              clear hrd HF HM
              have b0 := blk_cell HG.out 0
              have b1 := blk_cell HG.out 1
              have b2 := blk_cell HG.out 2
              have b3 := blk_cell HG.out 3
              have b4 := blk_cell HG.out 4
              have f0 := blk_frozen HG.out 0
              have f1 := blk_frozen HG.out 1
              have f2 := blk_frozen HG.out 2
              have f3 := blk_frozen HG.out 3
              have f4 := blk_frozen HG.out 4
              go_wp2_with (go_at_call 37; refine (HWC.out _).mono ?_; rintro e w' ⟨rfl, ⟨nd3, rfl⟩⟩)
              refine bodyPost_ret (results_ct rfl _ _ w.heap.size 33 _ (0, 0) _ rfl (tok_set (heap_dn HG.out _) _ _ _ _ _) Try.underlying33 rfl (by kernel_rfl)) rfl ⟨rfl, ?_⟩
              exact (((((pw_below_drewN HB.out _).setCell (Nat.le_refl _) _).setCell (Nat.le_refl _) _).setCell (Nat.le_refl _) _).setCell (Nat.le_refl _) _).setCell (Nat.le_refl _) _
            · rw [if_neg hv] at hrd
              have hwx : wrap64 (x + 1) = x + 1 := by unfold wrap64; omega
              by_cases hm : n * 16 + v > 4294967295
              · rw [if_pos hm] at hrd
                have HF := Aside0.mk (hrd.symm.trans HM.out)
                clear hrd HM
                go_wp2_with (go_at_call 37; refine (HWC.out _).mono ?_; rintro e w' ⟨rfl, ⟨nd3, rfl⟩⟩)
                exact ⟨⟨x + 1, 4294967295, true, rfl, rfl, rfl, by omega, by omega, by omega, by omega, HF, by repeat (first | exact Drawn0.refl _ | apply Drawn0.step)⟩, by simp [intOf]; omega⟩
              · rw [if_neg hm] at hrd
                have HF := Aside0.mk (hrd.symm.trans HM.out)
                clear hrd HM
                go_wp2_with (go_at_call 37; refine (HWC.out _).mono ?_; rintro e w' ⟨rfl, ⟨nd3, rfl⟩⟩)
                exact ⟨⟨x + 1, n * 16 + v, far, rfl, rfl, rfl, by omega, by omega, by omega, by omega, HF, by repeat (first | exact Drawn0.refl _ | apply Drawn0.step)⟩, by simp [intOf]; omega⟩
          · have hla := num_last 16 ((a0.extract 0 N).extract 2 N) x n far (by rw [HDS.out]; omega)
            have HR : numTok (a0.extract 0 N) (some (n, far)) = (r1, r2, r3, r4, r5, r6) := by
              rw [← HH.out, ← HM.out, hla]
            clear hla HM
            have b0 := blk_cell HG.out 0
            have b1 := blk_cell HG.out 1
            have b2 := blk_cell HG.out 2
            have b3 := blk_cell HG.out 3
            have b4 := blk_cell HG.out 4
            have f0 := blk_frozen HG.out 0
            have f1 := blk_frozen HG.out 1
            have f2 := blk_frozen HG.out 2
            have f3 := blk_frozen HG.out 3
            have f4 := blk_frozen HG.out 4
            cases far with
            | true =>
              simp only [numTok, if_true, Prod.mk.injEq] at HR
              obtain ⟨rfl, rfl, rfl, rfl, rfl, rfl⟩ := HR
              go_wp2
              refine bodyPost_ret (results_ct rfl _ _ w.heap.size 33 _ (0, 0) _ rfl (tok_set (heap_dn HG.out _) _ _ _ _ _) Try.underlying33 rfl (by kernel_rfl)) rfl ⟨rfl, ?_⟩
              exact (((((pw_below_drewN HB.out _).setCell (Nat.le_refl _) _).setCell (Nat.le_refl _) _).setCell (Nat.le_refl _) _).setCell (Nat.le_refl _) _).setCell (Nat.le_refl _) _
            | false =>
              simp only [numTok, if_neg (show ¬ (false = true) by decide), Prod.mk.injEq] at HR
              obtain ⟨rfl, rfl, rfl, rfl, rfl, rfl⟩ := HR
              go_wp2
              refine bodyPost_ret (results_ct rfl _ _ w.heap.size 33 _ (0, 0) _ rfl (tok_set (heap_dn HG.out _) _ _ _ _ _) Try.underlying33 rfl (by kernel_rfl)) rfl ⟨rfl, ?_⟩
              exact (((((pw_below_drewN HB.out _).setCell (Nat.le_refl _) _).setCell (Nat.le_refl _) _).setCell (Nat.le_refl _) _).setCell (Nat.le_refl _) _).setCell (Nat.le_refl _) _
  · rw [if_neg hb] at h
    rw [show prefB [48, 120] (a0.extract 0 N) = false by simpa using fun h => hb (.inl h)] at hp1
    rw [show prefB [48, 88] (a0.extract 0 N) = false by simpa using fun h => hb (.inr h)] at hp2
    have HP1 := Aside0.mk hp1
    have HP2 := Aside0.mk hp2
    clear hp1 hp2 hb
    have hkb := fun W => print_bytes (P := Try.prog) 9 22 5 Try.underlying9 Try.underlying22 Try.underlying5 (a0.extract 0 N) W
    have hds : (a0.extract 0 N).size = N := hall
    have he0 := empty_iff (a0.extract 0 N)
    rw [hds] at he0
    unfold numOf at h
    rw [hds] at h
    have HAL := Aside0.mk hall
    have HDS := Aside0.mk hds
    clear hall hds
    by_cases hN1 : N = 0
    · have he : (a0.extract 0 N).toList.isEmpty = true := by rw [he0]; exact decide_eq_true hN1
      rw [if_pos hN1] at h
      simp only [Prod.mk.injEq] at h
      obtain ⟨rfl, rfl, rfl, rfl, rfl, rfl⟩ := h
      clear he0 hN1 hkb
      go_enter Try.func28, Try.ntmps28
      go_wp2_with (first | (go_at_call 23; refine (HSP.out _).mono ?_; rintro e w' ⟨rfl, ⟨nd, rfl⟩⟩) | (go_at_call 21; (first | with_reducible refine (HP1.out _).mono ?_ | with_reducible refine (HP2.out _).mono ?_); rintro e w' ⟨rfl, ⟨nd2, rfl⟩⟩))
      have hz : ∀ n, (((((((w.alloc (.cells #[.int .i64 0, .string ⟨#[]⟩, .int .u32 0, .int .i64 0, .int .i64 0] 33)).drewN n).setCell ⟨w.heap.size, 0, none⟩ (.int .i64 0)).setCell ⟨w.heap.size, 1, none⟩ (.string ⟨#[]⟩)).setCell ⟨w.heap.size, 2, none⟩ (.int .u32 0)).setCell ⟨w.heap.size, 3, none⟩ (.int .i64 0)).setCell ⟨w.heap.size, 4, none⟩ (.int .i64 0)).heap[w.heap.size]? = some (.cells #[.int .i64 0, .string ⟨#[]⟩, .int .u32 0, .int .i64 0, .int .i64 0] 33 (0, 0)) := fun n => by
        have hq : ((w.alloc (.cells #[.int .i64 0, .string ⟨#[]⟩, .int .u32 0, .int .i64 0, .int .i64 0] 33)).drewN n).heap[w.heap.size]? = some (.cells #[.int .i64 0, .string ⟨#[]⟩, .int .u32 0, .int .i64 0, .int .i64 0] 33 (0, 0)) := heap_alloc_last w _
        simpa using blk_set (blk_set (blk_set (blk_set (blk_set hq 0 (.int .i64 0)) 1 (.string ⟨#[]⟩)) 2 (.int .u32 0)) 3 (.int .i64 0)) 4 (.int .i64 0)
      refine bodyPost_ret (results_ct rfl _ _ w.heap.size 33 _ (0, 0) _ rfl (hz _) Try.underlying33 rfl (by kernel_rfl)) rfl ⟨rfl, ?_⟩
      exact (((((pw_below_drewN (below_alloc (Below.refl _ _) _) _).setCell (Nat.le_refl _) _).setCell (Nat.le_refl _) _).setCell (Nat.le_refl _) _).setCell (Nat.le_refl _) _).setCell (Nat.le_refl _) _
    · have he : (a0.extract 0 N).toList.isEmpty = false := by rw [he0]; exact decide_eq_false hN1
      rw [if_neg hN1] at h
      have HH := Aside0.mk h
      clear h he0 hN1
      go_enter Try.func28, Try.ntmps28
      go_wp2_with (first | (go_at_call 23; refine (HSP.out _).mono ?_; rintro e w' ⟨rfl, ⟨nd, rfl⟩⟩) | (go_at_call 21; (first | with_reducible refine (HP1.out _).mono ?_ | with_reducible refine (HP2.out _).mono ?_); rintro e w' ⟨rfl, ⟨nd2, rfl⟩⟩))
      generalize hWb : Lib.bytesWorld _ 5 (a0.extract 0 N) = Wb
      obtain ⟨HC, HG, HB⟩ : Aside0 (ReadsInt Wb .u8 (some ⟨w.heap.size + 1, 0, none⟩) (a0.extract 0 N).size (bytesOf (a0.extract 0 N))) ∧ Aside0 (Wb.heap[w.heap.size]? = some (.cells #[.int .i64 0, .string ⟨#[]⟩, .int .u32 0, .int .i64 0, .int .i64 0] 33 (0, 0))) ∧ Aside0 (Below w.heap.size w Wb) := by
        rw [← hWb]
        exact num_world w _ (a0.extract 0 N) (by rw [HDS.out]; omega)
      clear hWb hkb he
      go_loopw [30, 7, 8] (fun v30 v7 v8 wr => ∃ (x n : Int) (far : Bool), v30 = .int .i64 x ∧ v7 = .int .u64 n ∧ v8 = .bool far ∧ 0 ≤ x ∧ x ≤ (N : Nat) ∧ 0 ≤ n ∧ n ≤ 4294967295 ∧ Aside0 (numL 10 ((a0.extract 0 N).data.toList.drop x.toNat) n far = numL 10 (a0.extract 0 N).data.toList 0 false) ∧ Drawn0 Wb wr) (fun v30 _ _ _ => N - (intOf v30).toNat)
      case atStart => exact ⟨0, 0, false, rfl, rfl, rfl, by omega, by omega, by omega, by omega, ⟨rfl⟩, Drawn0.refl _⟩
      case round =>
        obtain ⟨x, n, far, rfl, rfl, rfl, hx0, hx1, hn0, hn1, HM, ⟨md, rfl⟩⟩ := hrel
        have g0 := blk_lt HG.out
        by_cases hlt : x < (N : Nat)
        · have hrd := num_round 10 (a0.extract 0 N) x n far hx0 (by rw [HDS.out]; exact hlt)
          obtain ⟨ad, ead, hcell⟩ := HC.out.at_ x hx0 (by rw [HDS.out]; exact hlt)
          cases ead
          rw [rd_bytesOf, add_plain] at hcell
          have hbr := bt_range (a0.extract 0 N) x
          have hws := worth_some (bt (a0.extract 0 N) x) hbr.1 hbr.2
          have hwr := worth_range (bt (a0.extract 0 N) x)
          generalize bt (a0.extract 0 N) x = c at *
          generalize worthV c = v at *
          have HWC : Aside0 (∀ W, Calls Try.prog 37 #[.int .u8 c] W fun e w' => e = .returned (.int .u64 v) ∧ Drawn0 W w') := ⟨fun W => lex_worth.calls 1 c v W hws⟩
          obtain ⟨hv0, hv1⟩ := hwr
          clear hws hbr
          by_cases hv : v ≥ 10
          · rw [if_pos hv] at hrd
            have HF := Aside0.mk (HM.out.symm.trans hrd)
            have HR : (0, (⟨#[]⟩ : ByteArray), (0 : Int), (0 : Int), (0 : Int), (3 : Int)) = (r1, r2, r3, r4, r5, r6) := by
              rw [← HH.out, HF.out]
              rfl
            simp only [Prod.mk.injEq] at HR
            obtain ⟨rfl, rfl, rfl, rfl, rfl, rfl⟩ := HR
            clear hrd HF HM
            have b0 := blk_cell HG.out 0
            have b1 := blk_cell HG.out 1
            have b2 := blk_cell HG.out 2
            have b3 := blk_cell HG.out 3
            have b4 := blk_cell HG.out 4
            have f0 := blk_frozen HG.out 0
            have f1 := blk_frozen HG.out 1
            have f2 := blk_frozen HG.out 2
            have f3 := blk_frozen HG.out 3
            have f4 := blk_frozen HG.out 4
            go_wp2_with (go_at_call 37; refine (HWC.out _).mono ?_; rintro e w' ⟨rfl, ⟨nd3, rfl⟩⟩)
            refine bodyPost_ret (results_ct rfl _ _ w.heap.size 33 _ (0, 0) _ rfl (tok_set (heap_dn HG.out _) _ _ _ _ _) Try.underlying33 rfl (by kernel_rfl)) rfl ⟨rfl, ?_⟩
            exact (((((pw_below_drewN HB.out _).setCell (Nat.le_refl _) _).setCell (Nat.le_refl _) _).setCell (Nat.le_refl _) _).setCell (Nat.le_refl _) _).setCell (Nat.le_refl _) _
          · rw [if_neg hv] at hrd
            have hwx : wrap64 (x + 1) = x + 1 := by unfold wrap64; omega
            by_cases hm : n * 10 + v > 4294967295
            · rw [if_pos hm] at hrd
              have HF := Aside0.mk (hrd.symm.trans HM.out)
              clear hrd HM
              go_wp2_with (go_at_call 37; refine (HWC.out _).mono ?_; rintro e w' ⟨rfl, ⟨nd3, rfl⟩⟩)
              exact ⟨⟨x + 1, 4294967295, true, rfl, rfl, rfl, by omega, by omega, by omega, by omega, HF, by repeat (first | exact Drawn0.refl _ | apply Drawn0.step)⟩, by simp [intOf]; omega⟩
            · rw [if_neg hm] at hrd
              have HF := Aside0.mk (hrd.symm.trans HM.out)
              clear hrd HM
              go_wp2_with (go_at_call 37; refine (HWC.out _).mono ?_; rintro e w' ⟨rfl, ⟨nd3, rfl⟩⟩)
              exact ⟨⟨x + 1, n * 10 + v, far, rfl, rfl, rfl, by omega, by omega, by omega, by omega, HF, by repeat (first | exact Drawn0.refl _ | apply Drawn0.step)⟩, by simp [intOf]; omega⟩
        · have hla := num_last 10 (a0.extract 0 N) x n far (by rw [HDS.out]; omega)
          have HR : numTok (a0.extract 0 N) (some (n, far)) = (r1, r2, r3, r4, r5, r6) := by
            rw [← HH.out, ← HM.out, hla]
          clear hla HM
          have b0 := blk_cell HG.out 0
          have b1 := blk_cell HG.out 1
          have b2 := blk_cell HG.out 2
          have b3 := blk_cell HG.out 3
          have b4 := blk_cell HG.out 4
          have f0 := blk_frozen HG.out 0
          have f1 := blk_frozen HG.out 1
          have f2 := blk_frozen HG.out 2
          have f3 := blk_frozen HG.out 3
          have f4 := blk_frozen HG.out 4
          cases far with
          | true =>
            simp only [numTok, if_true, Prod.mk.injEq] at HR
            obtain ⟨rfl, rfl, rfl, rfl, rfl, rfl⟩ := HR
            go_wp2
            refine bodyPost_ret (results_ct rfl _ _ w.heap.size 33 _ (0, 0) _ rfl (tok_set (heap_dn HG.out _) _ _ _ _ _) Try.underlying33 rfl (by kernel_rfl)) rfl ⟨rfl, ?_⟩
            exact (((((pw_below_drewN HB.out _).setCell (Nat.le_refl _) _).setCell (Nat.le_refl _) _).setCell (Nat.le_refl _) _).setCell (Nat.le_refl _) _).setCell (Nat.le_refl _) _
          | false =>
            simp only [numTok, if_neg (show ¬ (false = true) by decide), Prod.mk.injEq] at HR
            obtain ⟨rfl, rfl, rfl, rfl, rfl, rfl⟩ := HR
            go_wp2
            refine bodyPost_ret (results_ct rfl _ _ w.heap.size 33 _ (0, 0) _ rfl (tok_set (heap_dn HG.out _) _ _ _ _ _) Try.underlying33 rfl (by kernel_rfl)) rfl ⟨rfl, ?_⟩
            exact (((((pw_below_drewN HB.out _).setCell (Nat.le_refl _) _).setCell (Nat.le_refl _) _).setCell (Nat.le_refl _) _).setCell (Nat.le_refl _) _).setCell (Nat.le_refl _) _
def lex_escape.f (a0 : Int) : Option (Int × Bool) := if a0 = 110 then (some (10, true)) else (if a0 = 116 then (some (9, true)) else (if a0 = 114 then (some (13, true)) else (if a0 = 48 then (some (0, true)) else (if a0 = 92 then (some (a0, true)) else (if a0 = 39 then (some (a0, true)) else (some (0, false)))))))
set_option maxHeartbeats 8000000 in
set_option maxRecDepth 100000 in
theorem lex_escape.calls (a0 : Int) (r1 : Int) (r2 : Bool) (w : World) (h : lex_escape.f a0 = some (r1, r2)) :
    Calls Try.prog 38 #[.int .u8 a0] w fun e w' => e = .returned (.tuple #[.int .u8 r1, .bool r2]) ∧ Drawn0 w w' := by
  have H : (if a0 = 110 then (some (10, true)) else (if a0 = 116 then (some (9, true)) else (if a0 = 114 then (some (13, true)) else (if a0 = 48 then (some (0, true)) else (if a0 = 92 then (some (a0, true)) else (if a0 = 39 then (some (a0, true)) else (some (0, false)))))))) = some (r1, r2) := h
  clear h
  by_cases c2 : a0 = 110
  · rw [if_pos c2] at H
    have c2b0 : (a0 == 110) = true := beq_iff_eq.mpr c2
    have c2b1 : (a0 != 110) = false := bne_eq_false_iff_eq.mpr c2
    clear c2
    simp only [Option.some.injEq, Prod.mk.injEq] at H
    obtain ⟨rfl, rfl⟩ := H
    go_enter Try.func38, Try.ntmps38
    go_wp2
    go_ret2
    exact ⟨by first | rfl | (simp; done) | (simp [*]; done), by repeat (first | exact Drawn0.refl _ | apply Drawn0.step)⟩
  · rw [if_neg c2] at H
    have c2b0 : (a0 == 110) = false := beq_eq_false_iff_ne.mpr c2
    have c2b1 : (a0 != 110) = true := bne_iff_ne.mpr c2
    by_cases c3 : a0 = 116
    · rw [if_pos c3] at H
      have c3b0 : (a0 == 116) = true := beq_iff_eq.mpr c3
      have c3b1 : (a0 != 116) = false := bne_eq_false_iff_eq.mpr c3
      clear c3
      simp only [Option.some.injEq, Prod.mk.injEq] at H
      obtain ⟨rfl, rfl⟩ := H
      go_enter Try.func38, Try.ntmps38
      go_wp2
      go_ret2
      exact ⟨by first | rfl | (simp; done) | (simp [*]; done), by repeat (first | exact Drawn0.refl _ | apply Drawn0.step)⟩
    · rw [if_neg c3] at H
      have c3b0 : (a0 == 116) = false := beq_eq_false_iff_ne.mpr c3
      have c3b1 : (a0 != 116) = true := bne_iff_ne.mpr c3
      by_cases c4 : a0 = 114
      · rw [if_pos c4] at H
        have c4b0 : (a0 == 114) = true := beq_iff_eq.mpr c4
        have c4b1 : (a0 != 114) = false := bne_eq_false_iff_eq.mpr c4
        clear c4
        simp only [Option.some.injEq, Prod.mk.injEq] at H
        obtain ⟨rfl, rfl⟩ := H
        go_enter Try.func38, Try.ntmps38
        go_wp2
        go_ret2
        exact ⟨by first | rfl | (simp; done) | (simp [*]; done), by repeat (first | exact Drawn0.refl _ | apply Drawn0.step)⟩
      · rw [if_neg c4] at H
        have c4b0 : (a0 == 114) = false := beq_eq_false_iff_ne.mpr c4
        have c4b1 : (a0 != 114) = true := bne_iff_ne.mpr c4
        by_cases c5 : a0 = 48
        · rw [if_pos c5] at H
          have c5b0 : (a0 == 48) = true := beq_iff_eq.mpr c5
          have c5b1 : (a0 != 48) = false := bne_eq_false_iff_eq.mpr c5
          clear c5
          simp only [Option.some.injEq, Prod.mk.injEq] at H
          obtain ⟨rfl, rfl⟩ := H
          go_enter Try.func38, Try.ntmps38
          go_wp2
          go_ret2
          exact ⟨by first | rfl | (simp; done) | (simp [*]; done), by repeat (first | exact Drawn0.refl _ | apply Drawn0.step)⟩
        · rw [if_neg c5] at H
          have c5b0 : (a0 == 48) = false := beq_eq_false_iff_ne.mpr c5
          have c5b1 : (a0 != 48) = true := bne_iff_ne.mpr c5
          by_cases c6 : a0 = 92
          · rw [if_pos c6] at H
            have c6b0 : (a0 == 92) = true := beq_iff_eq.mpr c6
            have c6b1 : (a0 != 92) = false := bne_eq_false_iff_eq.mpr c6
            clear c6
            simp only [Option.some.injEq, Prod.mk.injEq] at H
            obtain ⟨rfl, rfl⟩ := H
            go_enter Try.func38, Try.ntmps38
            go_wp2
            go_ret2
            exact ⟨by first | rfl | (simp; done) | (simp [*]; done), by repeat (first | exact Drawn0.refl _ | apply Drawn0.step)⟩
          · rw [if_neg c6] at H
            have c6b0 : (a0 == 92) = false := beq_eq_false_iff_ne.mpr c6
            have c6b1 : (a0 != 92) = true := bne_iff_ne.mpr c6
            by_cases c7 : a0 = 39
            · rw [if_pos c7] at H
              have c7b0 : (a0 == 39) = true := beq_iff_eq.mpr c7
              have c7b1 : (a0 != 39) = false := bne_eq_false_iff_eq.mpr c7
              clear c7
              simp only [Option.some.injEq, Prod.mk.injEq] at H
              obtain ⟨rfl, rfl⟩ := H
              go_enter Try.func38, Try.ntmps38
              go_wp2
              go_ret2
              exact ⟨by first | rfl | (simp; done) | (simp [*]; done), by repeat (first | exact Drawn0.refl _ | apply Drawn0.step)⟩
            · rw [if_neg c7] at H
              have c7b0 : (a0 == 39) = false := beq_eq_false_iff_ne.mpr c7
              have c7b1 : (a0 != 39) = true := bne_iff_ne.mpr c7
              simp only [Option.some.injEq, Prod.mk.injEq] at H
              obtain ⟨rfl, rfl⟩ := H
              go_enter Try.func38, Try.ntmps38
              go_wp2
              go_ret2
              exact ⟨by first | rfl | (simp; done) | (simp [*]; done), by repeat (first | exact Drawn0.refl _ | apply Drawn0.step)⟩
end Go.Proofs.Ytgelabhiebmadaa.P
end
section
namespace Go.Proofs.Ytgelabhiebmadaa.P
open Go.RowKit Go.Proofs.YtgelabhiebmadaaW.PrintWords Go.Proofs.YtgelabhiebmadaaW.PrintLast Go.Proofs.YtgelabhiebmadaaW.PrintMore
attribute [local go_sem] max2_int min2_int max_two min_two max_three min_three max_four min_four   
set_option linter.unusedVariables false
set_option linter.unusedSimpArgs false
def lex_char.j0 : Nat → ByteArray → Bool → Option (Int × ByteArray × Int × Int × Int × Int)
  | 0, _, _ => none
  | k + 1, x0, x18 => if x18 = true then (if 2 < (x0.size : Int) then ((lex_escape.f (bt x0 2)).bind fun bt111 => (if bt111.2 = true then (if 0 ≤ 4 then (if 4 ≤ (x0.size : Int) then (some (3, x0.extract 0 4, (bt111.1) % 4294967296, 0, 0, 0)) else (none)) else (none)) else (some (0, (⟨#[]⟩ : ByteArray), 0, 0, 0, 3)))) else (none)) else (if (x0.size : Int) ≥ 3 then (if 2 < (x0.size : Int) then (if (bt x0 2) = 39 then (if 1 < (x0.size : Int) then (if (bt x0 1) ≥ 32 then (if (bt x0 1) ≤ 126 then (if (bt x0 1) = 39 then (some (0, (⟨#[]⟩ : ByteArray), 0, 0, 0, 3)) else (if (bt x0 1) = 92 then (some (0, (⟨#[]⟩ : ByteArray), 0, 0, 0, 3)) else (if 0 ≤ 3 then (if 3 ≤ (x0.size : Int) then (some (3, x0.extract 0 3, (bt x0 1) % 4294967296, 0, 0, 0)) else (none)) else (none)))) else (some (0, (⟨#[]⟩ : ByteArray), 0, 0, 0, 3))) else (some (0, (⟨#[]⟩ : ByteArray), 0, 0, 0, 3))) else (none)) else (some (0, (⟨#[]⟩ : ByteArray), 0, 0, 0, 3))) else (none)) else (some (0, (⟨#[]⟩ : ByteArray), 0, 0, 0, 3)))
def lex_char.f (k : Nat) (a0 : ByteArray) : Option (Int × ByteArray × Int × Int × Int × Int) := if (a0.size : Int) ≥ 4 then (if 1 < (a0.size : Int) then (if (bt a0 1) = 92 then (if 3 < (a0.size : Int) then (lex_char.j0 k a0 ((bt a0 3) == 39)) else (none)) else (lex_char.j0 k a0 false)) else (none)) else (lex_char.j0 k a0 false)
theorem lex_char.mono_l : ∀ k, (∀ y0 y1, LeO (lex_char.j0 k y0 y1) (lex_char.j0 (k + 1) y0 y1))
  | 0 => fun _ _ r h => by simp [lex_char.j0] at h
  | k + 1 => by
    have ih0 := lex_char.mono_l k
    · intro y0 y1
      unfold lex_char.j0
      repeat' first
      | (with_reducible exact ih0 _ _)
      | (with_reducible exact LeO.refl _)
      | (with_reducible exact LeO.none _)
      | (with_reducible refine LeO.ite ?_ ?_)
      | (with_reducible refine LeO.bind ?_ (fun _ => ?_))
      | exact ih0 _ _
      | exact LeO.none _
      | refine LeO.ite ?_ ?_
      | refine LeO.bind ?_ (fun _ => ?_)
theorem lex_char.mono : ∀ a0 k, LeO (lex_char.f k a0) (lex_char.f (k + 1) a0) := by
  intro a0 k
  have ih0 := lex_char.mono_l k
  unfold lex_char.f
  repeat' first
      | (with_reducible exact ih0 _ _)
      | (with_reducible exact LeO.refl _)
      | (with_reducible exact LeO.none _)
      | (with_reducible refine LeO.ite ?_ ?_)
      | (with_reducible refine LeO.bind ?_ (fun _ => ?_))
      | exact ih0 _ _
      | exact LeO.none _
      | refine LeO.ite ?_ ?_
      | refine LeO.bind ?_ (fun _ => ?_)
def lex_char.T7 : Bool × List (List Nat × List Nat) := (true, [([], []), ([0], [0]), ([], []), ([2], [2]), ([3], [3]), ([1, 4], [1, 4]), ([5, 0, 1, 2, 3, 4, 5], [5]), ([6, 0, 1, 2, 3, 4, 5, 6], [])])
def lex_char.B7 : List Nat := [0, 1, 0, 4, 12, 31, 63, 127]
theorem lex_char.tab7 : rtab .any (opsOf Try.f29 7) = lex_char.T7 := by kernel_rfl
theorem lex_char.bits7 : waitsOk lex_char.T7.2 lex_char.B7 = true := by kernel_rfl
set_option maxHeartbeats 8000000 in
set_option maxRecDepth 100000 in
theorem lex_char.calls (k : Nat) (a0 : ByteArray) (r1 : Int) (r2 : ByteArray) (r3 : Int) (r4 : Int) (r5 : Int) (r6 : Int) (w : World) (h : lex_char.f k a0 = some (r1, r2, r3, r4, r5, r6)) :
    Calls Try.prog 29 #[.string a0] w fun e w' => e = .returned (.tuple #[.agg #[.int .i64 r1, .string r2, .int .u32 r3, .int .i64 r4, .int .i64 r5], .int .i64 r6]) ∧ Below w.heap.size w w' := by
  have hu33 := Try.underlying33
  have HB := Aside0.mk (Below.refl w.heap.size w)
  have H : (if (a0.size : Int) ≥ 4 then (if 1 < (a0.size : Int) then (if (bt a0 1) = 92 then (if 3 < (a0.size : Int) then (lex_char.j0 k a0 ((bt a0 3) == 39)) else (none)) else (lex_char.j0 k a0 false)) else (none)) else (lex_char.j0 k a0 false)) = some (r1, r2, r3, r4, r5, r6) := h
  clear h
  have HC2 := Aside0.mk H
  clear H
  go_enter Try.func29, Try.ntmps29
  go_upto_region 1 with (first | ((with_reducible refine gate_dst (N := 2) rfl ?_); refine box_event ?hg (N := 2) ?hd (cs := #[.int .i64 0, .string (⟨#[]⟩ : ByteArray), .int .u32 0, .int .i64 0, .int .i64 0]) (t := 33) ?hr ?_; (case hd => rfl); (case hg => rfl); (case hr => first | (go_simp; done) | (go_simp; rfl)); intro gb110 hg w3 hbox hb; have n0_ := Aside0.mk (below_step (by repeat (first | (with_reducible first | exact HB.out | apply below_alloc | apply pw_below_drewN | apply below_drew1) | exact HB.out)) hb); have n1_ := Aside0.mk (hbox); have n2_ := Aside0.mk ((by rw [hg]; exact (below_size (by repeat (first | (with_reducible first | exact HB.out | apply below_alloc | apply pw_below_drewN | apply below_drew1) | exact HB.out))) : w.heap.size ≤ gb110)); have n3_ := Aside0.mk ((by rw [hg]; exact (below_size (by repeat (first | (with_reducible first | exact HB.out | apply below_alloc | apply pw_below_drewN | apply below_drew1) | exact HB.out))) : w.heap.size ≤ gb110)); clear HB; have HB := n0_; have BK110 := n1_; have GW110 := n2_; have GE110 := n3_; clear n0_ n1_ n2_ n3_; clear hb hbox hg))
  (try simp only [Act.put, List.setIfInBounds_toArray, List.set_cons_zero, List.set_cons_succ])
  go_cut [18] (fun v18 wc => ∃ (kq : Nat) (x18_1 : Bool), v18 = .bool x18_1 ∧ Aside0 (lex_char.j0 kq a0 x18_1 = some (r1, r2, r3, r4, r5, r6)) ∧ Aside0 (kq ≤ k) ∧ Aside0 (wc.heap[gb110]? = some (.cells #[.int .i64 0, .string (⟨#[]⟩ : ByteArray), .int .u32 0, .int .i64 0, .int .i64 0] 33 (0, 0))) ∧ Aside0 (Below w.heap.size w wc))
  case first =>
    have H := HC2.out
    clear HC2
    by_cases c4 : (a0.size : Int) ≥ 4
    · rw [if_pos c4] at H
      have c4b0 : decide (4 ≤ (a0.size : Int)) = true := decide_eq_true c4
      have c4b1 : decide (4 ≤ a0.size) = true := decide_eq_true (by omega)
      clear c4
      (first | rw [c4b0] | (simp only [i64_w, i32_w]; rw [c4b0]) | skip)
      by_cases c5 : 1 < (a0.size : Int)
      · rw [if_pos c5] at H
        have c5b0 : decide (1 < (a0.size : Int)) = true := decide_eq_true c5
        have c5b1 : decide (1 < a0.size) = true := decide_eq_true (by omega)
        clear c5
        by_cases c7 : (bt a0 1) = 92
        · rw [if_pos c7] at H
          have c7b0 : ((bt a0 1) == 92) = true := beq_iff_eq.mpr c7
          have c7b1 : ((bt a0 1) != 92) = false := bne_eq_false_iff_eq.mpr c7
          clear c7
          by_cases c8 : 3 < (a0.size : Int)
          · rw [if_pos c8] at H
            have c8b0 : decide (3 < (a0.size : Int)) = true := decide_eq_true c8
            have c8b1 : decide (3 < a0.size) = true := decide_eq_true (by omega)
            clear c8
            have H' := Aside0.mk H
            clear H
            have p6 : 0 ≤ (1 : Int) := (by omega)
            have q6 : 1 < a0.size := (by have : (1 : Int) < (a0.size : Int) := of_decide_eq_true (by first | (with_reducible assumption) | assumption); omega)
            have hx6 : ∀ h : 1 < a0.size, ((a0[1]'h).toNat : Int) = bt a0 1 := bt_at a0 1
            clear p6
            have qi6 : (1 < (a0.size : Int)) = True := eq_true (of_decide_eq_true (by first | (with_reducible assumption) | assumption))
            replace q6 := eq_true q6
            have p9 : 0 ≤ (3 : Int) := (by omega)
            have q9 : 3 < a0.size := (by have : (3 : Int) < (a0.size : Int) := of_decide_eq_true (by first | (with_reducible assumption) | assumption); omega)
            have hx9 : ∀ h : 3 < a0.size, ((a0[3]'h).toNat : Int) = bt a0 3 := bt_at a0 3
            clear p9
            have qi9 : (3 < (a0.size : Int)) = True := eq_true (of_decide_eq_true (by first | (with_reducible assumption) | assumption))
            replace q9 := eq_true q9
            go_wp2
            go_meet
            case rel => exact ⟨_, (((bt a0 3) == 39)), (by first | rfl | (simp; done) | (simp [*]; done)), H', ⟨by first | omega | exact Nat.le_refl _⟩, ⟨by (with_reducible repeat (first | refine blk_drewN ?_ _ | refine blk_drew ?_ | refine blk_alloc ?_ _)); exact BK110.out⟩, ⟨by repeat (first | (with_reducible first | exact HB.out | apply below_alloc | apply pw_below_drewN | apply below_drew1 | refine below_set ?_ GE110.out) | exact HB.out)⟩⟩
          · rw [if_neg c8] at H
            exact absurd H (by simp)
        · rw [if_neg c7] at H
          have c7b0 : ((bt a0 1) == 92) = false := beq_eq_false_iff_ne.mpr c7
          have c7b1 : ((bt a0 1) != 92) = true := bne_iff_ne.mpr c7
          have H' := Aside0.mk H
          clear H
          have p6 : 0 ≤ (1 : Int) := (by omega)
          have q6 : 1 < a0.size := (by have : (1 : Int) < (a0.size : Int) := of_decide_eq_true (by first | (with_reducible assumption) | assumption); omega)
          have hx6 : ∀ h : 1 < a0.size, ((a0[1]'h).toNat : Int) = bt a0 1 := bt_at a0 1
          clear p6
          have qi6 : (1 < (a0.size : Int)) = True := eq_true (of_decide_eq_true (by first | (with_reducible assumption) | assumption))
          replace q6 := eq_true q6
          go_wp2
          go_meet
          case rel => exact ⟨_, (false), (by first | rfl | (simp; done) | (simp [*]; done)), H', ⟨by first | omega | exact Nat.le_refl _⟩, ⟨by (with_reducible repeat (first | refine blk_drewN ?_ _ | refine blk_drew ?_ | refine blk_alloc ?_ _)); exact BK110.out⟩, ⟨by repeat (first | (with_reducible first | exact HB.out | apply below_alloc | apply pw_below_drewN | apply below_drew1 | refine below_set ?_ GE110.out) | exact HB.out)⟩⟩
      · rw [if_neg c5] at H
        exact absurd H (by simp)
    · rw [if_neg c4] at H
      have c4b0 : decide (4 ≤ (a0.size : Int)) = false := decide_eq_false c4
      have c4b1 : decide (4 ≤ a0.size) = false := decide_eq_false (by omega)
      clear c4
      (first | rw [c4b0] | (simp only [i64_w, i32_w]; rw [c4b0]) | skip)
      have H' := Aside0.mk H
      clear H
      go_wp2
      go_meet
      case rel => exact ⟨_, (false), (by first | rfl | (simp; done) | (simp [*]; done)), H', ⟨by first | omega | exact Nat.le_refl _⟩, ⟨by (with_reducible repeat (first | refine blk_drewN ?_ _ | refine blk_drew ?_ | refine blk_alloc ?_ _)); exact BK110.out⟩, ⟨by repeat (first | (with_reducible first | exact HB.out | apply below_alloc | apply pw_below_drewN | apply below_drew1 | refine below_set ?_ GE110.out) | exact HB.out)⟩⟩
  case rest =>
    clear HC2
    try clear c2
    try clear p2
    try clear c4
    try clear c4b0
    try clear c4b1
    try clear c5
    try clear c5b0
    try clear c5b1
    try clear p6
    try clear q6
    try clear hx6
    try clear qi6
    try clear c7
    try clear c7b0
    try clear c7b1
    try clear c8
    try clear c8b0
    try clear c8b1
    try clear p9
    try clear q9
    try clear hx9
    try clear qi9
    try clear p6
    try clear p9
    try clear q6
    try clear q9
    obtain ⟨kq, x18_1, rfl, HA, HJ1, BK110, HB⟩ := hcut
    cases kq with
    | zero => exact absurd HA.out (by simp [lex_char.j0])
    | succ kj1 =>
      have H := HA.out
      clear HA
      simp only [lex_char.j0] at H
      by_cases c10 : x18_1 = true
      · subst c10
        have H1 : (if 2 < (a0.size : Int) then ((lex_escape.f (bt a0 2)).bind fun bt111 => (if bt111.2 = true then (if 0 ≤ 4 then (if 4 ≤ (a0.size : Int) then (some (3, a0.extract 0 4, (bt111.1) % 4294967296, 0, 0, 0)) else (none)) else (none)) else (some (0, (⟨#[]⟩ : ByteArray), 0, 0, 0, 3)))) else (none)) = some (r1, r2, r3, r4, r5, r6) := by rw [if_pos rfl] at H; exact H
        clear H
        have H := H1
        clear H1
        by_cases c11 : 2 < (a0.size : Int)
        · rw [if_pos c11] at H
          have c11b0 : decide (2 < (a0.size : Int)) = true := decide_eq_true c11
          have c11b1 : decide (2 < a0.size) = true := decide_eq_true (by omega)
          clear c11
          replace H := Option.bind_eq_some_iff.mp H
          obtain ⟨⟨t111, t112⟩, A130, H⟩ := H
          replace H : (if t112 = true then (if 0 ≤ 4 then (if 4 ≤ (a0.size : Int) then (some (3, a0.extract 0 4, (t111) % 4294967296, 0, 0, 0)) else (none)) else (none)) else (some (0, (⟨#[]⟩ : ByteArray), 0, 0, 0, 3))) = some (r1, r2, r3, r4, r5, r6) := H
          have A13 := Aside0.mk A130
          clear A130
          by_cases c14 : t112 = true
          · subst c14
            have H1 : (if 0 ≤ 4 then (if 4 ≤ (a0.size : Int) then (some (3, a0.extract 0 4, (t111) % 4294967296, 0, 0, 0)) else (none)) else (none)) = some (r1, r2, r3, r4, r5, r6) := by rw [if_pos rfl] at H; exact H
            clear H
            have H := H1
            clear H1
            by_cases c15 : 0 ≤ 4
            · rw [if_pos c15] at H
              have c15b0 := eq_true c15
              have c15b1 : decide (0 ≤ 4) = true := decide_eq_true c15
              clear c15
              by_cases c16 : 4 ≤ (a0.size : Int)
              · rw [if_pos c16] at H
                have c16b0 := eq_true c16
                have c16b1 : decide (4 ≤ (a0.size : Int)) = true := decide_eq_true c16
                clear c16
                simp only [Option.some.injEq, Prod.mk.injEq] at H
                obtain ⟨rfl, rfl, rfl, rfl, rfl, rfl⟩ := H
                have p12 : 0 ≤ (2 : Int) := (by omega)
                have q12 : 2 < a0.size := (by have : (2 : Int) < (a0.size : Int) := of_decide_eq_true (by first | (with_reducible assumption) | assumption); omega)
                have hx12 : ∀ h : 2 < a0.size, ((a0[2]'h).toNat : Int) = bt a0 2 := bt_at a0 2
                clear p12
                have qi12 : (2 < (a0.size : Int)) = True := eq_true (of_decide_eq_true (by first | (with_reducible assumption) | assumption))
                replace q12 := eq_true q12
                go_wp2_with (first | ((with_reducible refine gate_callee (f := 38) rfl ?_); refine goesL_ (some 22) rfl rfl Try.func38 (by kernel_rfl) rfl #[.int .u8 (bt a0 2)] rfl (by (try simp only [List.map_toArray, List.map_cons, List.map_nil]); first | done | rfl | (simp only [List.length_drop, List.length_take]; rfl)) ?_; (with_reducible refine (lex_escape.calls (bt a0 2) t111 true _ A13.out).mono ?_); rintro e w' ⟨rfl, ⟨nd, rfl⟩⟩; refine ⟨_, rfl, ?_⟩; (try (rw [drewN_self wc]; generalize hq_ : World.drewN wc _ = wc; have n0_ : Aside0 (wc.heap[gb110]? = some (.cells #[.int .i64 0, .string (⟨#[]⟩ : ByteArray), .int .u32 0, .int .i64 0, .int .i64 0] 33 (0, 0))) := ⟨by rw [← hq_]; exact (by (with_reducible repeat (first | refine blk_drewN ?_ _ | refine blk_drew ?_ | refine blk_alloc ?_ _)); exact BK110.out)⟩; have n1_ : Aside0 (Below w.heap.size w wc) := ⟨by rw [← hq_]; exact (by repeat (first | (with_reducible first | exact HB.out | apply below_alloc | apply pw_below_drewN | apply below_drew1 | refine below_set ?_ GE110.out) | exact HB.out))⟩; clear BK110 HB hq_; have BK110 := n0_; have HB := n1_; clear n0_ n1_)); have hcz17_0 : wc.cell? ⟨gb110, 0, none⟩ = some (.int .i64 0) := (blk_cell BK110.out 0).trans rfl; have hcz17_1 : wc.cell? ⟨gb110, 1, none⟩ = some (.string (⟨#[]⟩ : ByteArray)) := (blk_cell BK110.out 1).trans rfl; have hcz17_2 : wc.cell? ⟨gb110, 2, none⟩ = some (.int .u32 0) := (blk_cell BK110.out 2).trans rfl; have hcz17_3 : wc.cell? ⟨gb110, 3, none⟩ = some (.int .i64 0) := (blk_cell BK110.out 3).trans rfl; have hcz17_4 : wc.cell? ⟨gb110, 4, none⟩ = some (.int .i64 0) := (blk_cell BK110.out 4).trans rfl; have hfz17_0 := blk_frozen BK110.out 0; have hfz17_1 := blk_frozen BK110.out 1; have hfz17_2 := blk_frozen BK110.out 2; have hfz17_3 := blk_frozen BK110.out 3; have hfz17_4 := blk_frozen BK110.out 4))
                refine bodyPost_ret (results_ct rfl _ _ gb110 33 #[.int .i64 3, .string (a0.extract 0 4), .int .u32 ((t111) % 4294967296), .int .i64 0, .int .i64 0] (0, 0) _ rfl (by (with_reducible repeat (first | refine blk_drewN ?_ _ | refine blk_drew ?_ | refine blk_alloc ?_ _)); refine blk_put (cs := #[.int .i64 3, .string (a0.extract 0 4), .int .u32 ((t111) % 4294967296), .int .i64 0, .int .i64 0]) ?_ 4 _ rfl; (with_reducible repeat (first | refine blk_drewN ?_ _ | refine blk_drew ?_ | refine blk_alloc ?_ _)); refine blk_put (cs := #[.int .i64 3, .string (a0.extract 0 4), .int .u32 ((t111) % 4294967296), .int .i64 0, .int .i64 0]) ?_ 3 _ rfl; (with_reducible repeat (first | refine blk_drewN ?_ _ | refine blk_drew ?_ | refine blk_alloc ?_ _)); refine blk_put (cs := #[.int .i64 3, .string (a0.extract 0 4), .int .u32 0, .int .i64 0, .int .i64 0]) ?_ 2 _ rfl; (with_reducible repeat (first | refine blk_drewN ?_ _ | refine blk_drew ?_ | refine blk_alloc ?_ _)); refine blk_put (cs := #[.int .i64 3, .string (⟨#[]⟩ : ByteArray), .int .u32 0, .int .i64 0, .int .i64 0]) ?_ 1 _ rfl; (with_reducible repeat (first | refine blk_drewN ?_ _ | refine blk_drew ?_ | refine blk_alloc ?_ _)); refine blk_put (cs := #[.int .i64 0, .string (⟨#[]⟩ : ByteArray), .int .u32 0, .int .i64 0, .int .i64 0]) ?_ 0 _ rfl; (with_reducible repeat (first | refine blk_drewN ?_ _ | refine blk_drew ?_ | refine blk_alloc ?_ _)); exact BK110.out) Try.underlying33 rfl (by kernel_rfl)) rfl ?_
                exact ⟨by first | rfl | (simp [errW_none, errW_some] <;> rfl) | (simp [*, errW_none, errW_some] <;> rfl), by repeat (first | (with_reducible first | exact HB.out | apply below_alloc | apply pw_below_drewN | apply below_drew1 | refine below_set ?_ GE110.out) | exact HB.out)⟩
              · rw [if_neg c16] at H
                exact absurd H (by simp)
            · rw [if_neg c15] at H
              exact absurd H (by simp)
          · replace c14 := Bool.eq_false_iff.mpr c14
            subst c14
            have H1 : (some (0, (⟨#[]⟩ : ByteArray), 0, 0, 0, 3)) = some (r1, r2, r3, r4, r5, r6) := by rw [if_neg (show ¬ (false = true) by decide)] at H; exact H
            clear H
            have H := H1
            clear H1
            simp only [Option.some.injEq, Prod.mk.injEq] at H
            obtain ⟨rfl, rfl, rfl, rfl, rfl, rfl⟩ := H
            have p12 : 0 ≤ (2 : Int) := (by omega)
            have q12 : 2 < a0.size := (by have : (2 : Int) < (a0.size : Int) := of_decide_eq_true (by first | (with_reducible assumption) | assumption); omega)
            have hx12 : ∀ h : 2 < a0.size, ((a0[2]'h).toNat : Int) = bt a0 2 := bt_at a0 2
            clear p12
            have qi12 : (2 < (a0.size : Int)) = True := eq_true (of_decide_eq_true (by first | (with_reducible assumption) | assumption))
            replace q12 := eq_true q12
            go_wp2_with (first | ((with_reducible refine gate_callee (f := 38) rfl ?_); refine goesL_ (some 22) rfl rfl Try.func38 (by kernel_rfl) rfl #[.int .u8 (bt a0 2)] rfl (by (try simp only [List.map_toArray, List.map_cons, List.map_nil]); first | done | rfl | (simp only [List.length_drop, List.length_take]; rfl)) ?_; (with_reducible refine (lex_escape.calls (bt a0 2) t111 false _ A13.out).mono ?_); rintro e w' ⟨rfl, ⟨nd, rfl⟩⟩; refine ⟨_, rfl, ?_⟩; (try (rw [drewN_self wc]; generalize hq_ : World.drewN wc _ = wc; have n0_ : Aside0 (wc.heap[gb110]? = some (.cells #[.int .i64 0, .string (⟨#[]⟩ : ByteArray), .int .u32 0, .int .i64 0, .int .i64 0] 33 (0, 0))) := ⟨by rw [← hq_]; exact (by (with_reducible repeat (first | refine blk_drewN ?_ _ | refine blk_drew ?_ | refine blk_alloc ?_ _)); exact BK110.out)⟩; have n1_ : Aside0 (Below w.heap.size w wc) := ⟨by rw [← hq_]; exact (by repeat (first | (with_reducible first | exact HB.out | apply below_alloc | apply pw_below_drewN | apply below_drew1 | refine below_set ?_ GE110.out) | exact HB.out))⟩; clear BK110 HB hq_; have BK110 := n0_; have HB := n1_; clear n0_ n1_)); have hcz18_0 : wc.cell? ⟨gb110, 0, none⟩ = some (.int .i64 0) := (blk_cell BK110.out 0).trans rfl; have hcz18_1 : wc.cell? ⟨gb110, 1, none⟩ = some (.string (⟨#[]⟩ : ByteArray)) := (blk_cell BK110.out 1).trans rfl; have hcz18_2 : wc.cell? ⟨gb110, 2, none⟩ = some (.int .u32 0) := (blk_cell BK110.out 2).trans rfl; have hcz18_3 : wc.cell? ⟨gb110, 3, none⟩ = some (.int .i64 0) := (blk_cell BK110.out 3).trans rfl; have hcz18_4 : wc.cell? ⟨gb110, 4, none⟩ = some (.int .i64 0) := (blk_cell BK110.out 4).trans rfl; have hfz18_0 := blk_frozen BK110.out 0; have hfz18_1 := blk_frozen BK110.out 1; have hfz18_2 := blk_frozen BK110.out 2; have hfz18_3 := blk_frozen BK110.out 3; have hfz18_4 := blk_frozen BK110.out 4))
            refine bodyPost_ret (results_ct rfl _ _ gb110 33 #[.int .i64 0, .string (⟨#[]⟩ : ByteArray), .int .u32 0, .int .i64 0, .int .i64 0] (0, 0) _ rfl (by (with_reducible repeat (first | refine blk_drewN ?_ _ | refine blk_drew ?_ | refine blk_alloc ?_ _)); refine blk_put (cs := #[.int .i64 0, .string (⟨#[]⟩ : ByteArray), .int .u32 0, .int .i64 0, .int .i64 0]) ?_ 4 _ rfl; (with_reducible repeat (first | refine blk_drewN ?_ _ | refine blk_drew ?_ | refine blk_alloc ?_ _)); refine blk_put (cs := #[.int .i64 0, .string (⟨#[]⟩ : ByteArray), .int .u32 0, .int .i64 0, .int .i64 0]) ?_ 3 _ rfl; (with_reducible repeat (first | refine blk_drewN ?_ _ | refine blk_drew ?_ | refine blk_alloc ?_ _)); refine blk_put (cs := #[.int .i64 0, .string (⟨#[]⟩ : ByteArray), .int .u32 0, .int .i64 0, .int .i64 0]) ?_ 2 _ rfl; (with_reducible repeat (first | refine blk_drewN ?_ _ | refine blk_drew ?_ | refine blk_alloc ?_ _)); refine blk_put (cs := #[.int .i64 0, .string (⟨#[]⟩ : ByteArray), .int .u32 0, .int .i64 0, .int .i64 0]) ?_ 1 _ rfl; (with_reducible repeat (first | refine blk_drewN ?_ _ | refine blk_drew ?_ | refine blk_alloc ?_ _)); refine blk_put (cs := #[.int .i64 0, .string (⟨#[]⟩ : ByteArray), .int .u32 0, .int .i64 0, .int .i64 0]) ?_ 0 _ rfl; (with_reducible repeat (first | refine blk_drewN ?_ _ | refine blk_drew ?_ | refine blk_alloc ?_ _)); exact BK110.out) Try.underlying33 rfl (by kernel_rfl)) rfl ?_
            exact ⟨by first | rfl | (simp [errW_none, errW_some] <;> rfl) | (simp [*, errW_none, errW_some] <;> rfl), by repeat (first | (with_reducible first | exact HB.out | apply below_alloc | apply pw_below_drewN | apply below_drew1 | refine below_set ?_ GE110.out) | exact HB.out)⟩
        · rw [if_neg c11] at H
          exact absurd H (by simp)
      · replace c10 := Bool.eq_false_iff.mpr c10
        subst c10
        have H1 : (if (a0.size : Int) ≥ 3 then (if 2 < (a0.size : Int) then (if (bt a0 2) = 39 then (if 1 < (a0.size : Int) then (if (bt a0 1) ≥ 32 then (if (bt a0 1) ≤ 126 then (if (bt a0 1) = 39 then (some (0, (⟨#[]⟩ : ByteArray), 0, 0, 0, 3)) else (if (bt a0 1) = 92 then (some (0, (⟨#[]⟩ : ByteArray), 0, 0, 0, 3)) else (if 0 ≤ 3 then (if 3 ≤ (a0.size : Int) then (some (3, a0.extract 0 3, (bt a0 1) % 4294967296, 0, 0, 0)) else (none)) else (none)))) else (some (0, (⟨#[]⟩ : ByteArray), 0, 0, 0, 3))) else (some (0, (⟨#[]⟩ : ByteArray), 0, 0, 0, 3))) else (none)) else (some (0, (⟨#[]⟩ : ByteArray), 0, 0, 0, 3))) else (none)) else (some (0, (⟨#[]⟩ : ByteArray), 0, 0, 0, 3))) = some (r1, r2, r3, r4, r5, r6) := by rw [if_neg (show ¬ (false = true) by decide)] at H; exact H
        clear H
        have H := H1
        clear H1
        by_cases c19 : (a0.size : Int) ≥ 3
        · rw [if_pos c19] at H
          have c19b0 : decide (3 ≤ (a0.size : Int)) = true := decide_eq_true c19
          have c19b1 : decide (3 ≤ a0.size) = true := decide_eq_true (by omega)
          clear c19
          by_cases c20 : 2 < (a0.size : Int)
          · rw [if_pos c20] at H
            have c20b0 : decide (2 < (a0.size : Int)) = true := decide_eq_true c20
            have c20b1 : decide (2 < a0.size) = true := decide_eq_true (by omega)
            clear c20
            by_cases c22 : (bt a0 2) = 39
            · rw [if_pos c22] at H
              have c22b0 : ((bt a0 2) == 39) = true := beq_iff_eq.mpr c22
              have c22b1 : ((bt a0 2) != 39) = false := bne_eq_false_iff_eq.mpr c22
              clear c22
              by_cases c23 : 1 < (a0.size : Int)
              · rw [if_pos c23] at H
                have c23b0 : decide (1 < (a0.size : Int)) = true := decide_eq_true c23
                have c23b1 : decide (1 < a0.size) = true := decide_eq_true (by omega)
                clear c23
                by_cases c25 : (bt a0 1) ≥ 32
                · rw [if_pos c25] at H
                  have c25b0 : decide (32 ≤ (bt a0 1)) = true := decide_eq_true c25
                  clear c25
                  by_cases c27 : (bt a0 1) ≤ 126
                  · rw [if_pos c27] at H
                    have c27b0 : decide ((bt a0 1) ≤ 126) = true := decide_eq_true c27
                    clear c27
                    by_cases c29 : (bt a0 1) = 39
                    · rw [if_pos c29] at H
                      have c29b0 : ((bt a0 1) == 39) = true := beq_iff_eq.mpr c29
                      have c29b1 : ((bt a0 1) != 39) = false := bne_eq_false_iff_eq.mpr c29
                      clear c29
                      simp only [Option.some.injEq, Prod.mk.injEq] at H
                      obtain ⟨rfl, rfl, rfl, rfl, rfl, rfl⟩ := H
                      have p21 : 0 ≤ (2 : Int) := (by omega)
                      have q21 : 2 < a0.size := (by have : (2 : Int) < (a0.size : Int) := of_decide_eq_true (by first | (with_reducible assumption) | assumption); omega)
                      have hx21 : ∀ h : 2 < a0.size, ((a0[2]'h).toNat : Int) = bt a0 2 := bt_at a0 2
                      clear p21
                      have qi21 : (2 < (a0.size : Int)) = True := eq_true (of_decide_eq_true (by first | (with_reducible assumption) | assumption))
                      replace q21 := eq_true q21
                      have p24 : 0 ≤ (1 : Int) := (by omega)
                      have q24 : 1 < a0.size := (by have : (1 : Int) < (a0.size : Int) := of_decide_eq_true (by first | (with_reducible assumption) | assumption); omega)
                      have hx24 : ∀ h : 1 < a0.size, ((a0[1]'h).toNat : Int) = bt a0 1 := bt_at a0 1
                      clear p24
                      have qi24 : (1 < (a0.size : Int)) = True := eq_true (of_decide_eq_true (by first | (with_reducible assumption) | assumption))
                      replace q24 := eq_true q24
                      have p26 : 0 ≤ (1 : Int) := (by omega)
                      have q26 : 1 < a0.size := (by have : (1 : Int) < (a0.size : Int) := of_decide_eq_true (by first | (with_reducible assumption) | assumption); omega)
                      have hx26 : ∀ h : 1 < a0.size, ((a0[1]'h).toNat : Int) = bt a0 1 := bt_at a0 1
                      clear p26
                      have qi26 : (1 < (a0.size : Int)) = True := eq_true (of_decide_eq_true (by first | (with_reducible assumption) | assumption))
                      replace q26 := eq_true q26
                      have p28 : 0 ≤ (1 : Int) := (by omega)
                      have q28 : 1 < a0.size := (by have : (1 : Int) < (a0.size : Int) := of_decide_eq_true (by first | (with_reducible assumption) | assumption); omega)
                      have hx28 : ∀ h : 1 < a0.size, ((a0[1]'h).toNat : Int) = bt a0 1 := bt_at a0 1
                      clear p28
                      have qi28 : (1 < (a0.size : Int)) = True := eq_true (of_decide_eq_true (by first | (with_reducible assumption) | assumption))
                      replace q28 := eq_true q28
                      have hcz30_0 : wc.cell? ⟨gb110, 0, none⟩ = some (.int .i64 0) := (blk_cell BK110.out 0).trans rfl
                      have hcz30_1 : wc.cell? ⟨gb110, 1, none⟩ = some (.string (⟨#[]⟩ : ByteArray)) := (blk_cell BK110.out 1).trans rfl
                      have hcz30_2 : wc.cell? ⟨gb110, 2, none⟩ = some (.int .u32 0) := (blk_cell BK110.out 2).trans rfl
                      have hcz30_3 : wc.cell? ⟨gb110, 3, none⟩ = some (.int .i64 0) := (blk_cell BK110.out 3).trans rfl
                      have hcz30_4 : wc.cell? ⟨gb110, 4, none⟩ = some (.int .i64 0) := (blk_cell BK110.out 4).trans rfl
                      have hfz30_0 := blk_frozen BK110.out 0
                      have hfz30_1 := blk_frozen BK110.out 1
                      have hfz30_2 := blk_frozen BK110.out 2
                      have hfz30_3 := blk_frozen BK110.out 3
                      have hfz30_4 := blk_frozen BK110.out 4
                      go_wp2
                      refine bodyPost_ret (results_ct rfl _ _ gb110 33 #[.int .i64 0, .string (⟨#[]⟩ : ByteArray), .int .u32 0, .int .i64 0, .int .i64 0] (0, 0) _ rfl (by (with_reducible repeat (first | refine blk_drewN ?_ _ | refine blk_drew ?_ | refine blk_alloc ?_ _)); refine blk_put (cs := #[.int .i64 0, .string (⟨#[]⟩ : ByteArray), .int .u32 0, .int .i64 0, .int .i64 0]) ?_ 4 _ rfl; (with_reducible repeat (first | refine blk_drewN ?_ _ | refine blk_drew ?_ | refine blk_alloc ?_ _)); refine blk_put (cs := #[.int .i64 0, .string (⟨#[]⟩ : ByteArray), .int .u32 0, .int .i64 0, .int .i64 0]) ?_ 3 _ rfl; (with_reducible repeat (first | refine blk_drewN ?_ _ | refine blk_drew ?_ | refine blk_alloc ?_ _)); refine blk_put (cs := #[.int .i64 0, .string (⟨#[]⟩ : ByteArray), .int .u32 0, .int .i64 0, .int .i64 0]) ?_ 2 _ rfl; (with_reducible repeat (first | refine blk_drewN ?_ _ | refine blk_drew ?_ | refine blk_alloc ?_ _)); refine blk_put (cs := #[.int .i64 0, .string (⟨#[]⟩ : ByteArray), .int .u32 0, .int .i64 0, .int .i64 0]) ?_ 1 _ rfl; (with_reducible repeat (first | refine blk_drewN ?_ _ | refine blk_drew ?_ | refine blk_alloc ?_ _)); refine blk_put (cs := #[.int .i64 0, .string (⟨#[]⟩ : ByteArray), .int .u32 0, .int .i64 0, .int .i64 0]) ?_ 0 _ rfl; (with_reducible repeat (first | refine blk_drewN ?_ _ | refine blk_drew ?_ | refine blk_alloc ?_ _)); exact BK110.out) Try.underlying33 rfl (by kernel_rfl)) rfl ?_
                      exact ⟨by first | rfl | (simp [errW_none, errW_some] <;> rfl) | (simp [*, errW_none, errW_some] <;> rfl), by repeat (first | (with_reducible first | exact HB.out | apply below_alloc | apply pw_below_drewN | apply below_drew1 | refine below_set ?_ GE110.out) | exact HB.out)⟩
                    · rw [if_neg c29] at H
                      have c29b0 : ((bt a0 1) == 39) = false := beq_eq_false_iff_ne.mpr c29
                      have c29b1 : ((bt a0 1) != 39) = true := bne_iff_ne.mpr c29
                      by_cases c32 : (bt a0 1) = 92
                      · rw [if_pos c32] at H
                        have c32b0 : ((bt a0 1) == 92) = true := beq_iff_eq.mpr c32
                        have c32b1 : ((bt a0 1) != 92) = false := bne_eq_false_iff_eq.mpr c32
                        clear c32
                        simp only [Option.some.injEq, Prod.mk.injEq] at H
                        obtain ⟨rfl, rfl, rfl, rfl, rfl, rfl⟩ := H
                        have p21 : 0 ≤ (2 : Int) := (by omega)
                        have q21 : 2 < a0.size := (by have : (2 : Int) < (a0.size : Int) := of_decide_eq_true (by first | (with_reducible assumption) | assumption); omega)
                        have hx21 : ∀ h : 2 < a0.size, ((a0[2]'h).toNat : Int) = bt a0 2 := bt_at a0 2
                        clear p21
                        have qi21 : (2 < (a0.size : Int)) = True := eq_true (of_decide_eq_true (by first | (with_reducible assumption) | assumption))
                        replace q21 := eq_true q21
                        have p24 : 0 ≤ (1 : Int) := (by omega)
                        have q24 : 1 < a0.size := (by have : (1 : Int) < (a0.size : Int) := of_decide_eq_true (by first | (with_reducible assumption) | assumption); omega)
                        have hx24 : ∀ h : 1 < a0.size, ((a0[1]'h).toNat : Int) = bt a0 1 := bt_at a0 1
                        clear p24
                        have qi24 : (1 < (a0.size : Int)) = True := eq_true (of_decide_eq_true (by first | (with_reducible assumption) | assumption))
                        replace q24 := eq_true q24
                        have p26 : 0 ≤ (1 : Int) := (by omega)
                        have q26 : 1 < a0.size := (by have : (1 : Int) < (a0.size : Int) := of_decide_eq_true (by first | (with_reducible assumption) | assumption); omega)
                        have hx26 : ∀ h : 1 < a0.size, ((a0[1]'h).toNat : Int) = bt a0 1 := bt_at a0 1
                        clear p26
                        have qi26 : (1 < (a0.size : Int)) = True := eq_true (of_decide_eq_true (by first | (with_reducible assumption) | assumption))
                        replace q26 := eq_true q26
                        have p28 : 0 ≤ (1 : Int) := (by omega)
                        have q28 : 1 < a0.size := (by have : (1 : Int) < (a0.size : Int) := of_decide_eq_true (by first | (with_reducible assumption) | assumption); omega)
                        have hx28 : ∀ h : 1 < a0.size, ((a0[1]'h).toNat : Int) = bt a0 1 := bt_at a0 1
                        clear p28
                        have qi28 : (1 < (a0.size : Int)) = True := eq_true (of_decide_eq_true (by first | (with_reducible assumption) | assumption))
                        replace q28 := eq_true q28
                        have p31 : 0 ≤ (1 : Int) := (by omega)
                        have q31 : 1 < a0.size := (by have : (1 : Int) < (a0.size : Int) := of_decide_eq_true (by first | (with_reducible assumption) | assumption); omega)
                        have hx31 : ∀ h : 1 < a0.size, ((a0[1]'h).toNat : Int) = bt a0 1 := bt_at a0 1
                        clear p31
                        have qi31 : (1 < (a0.size : Int)) = True := eq_true (of_decide_eq_true (by first | (with_reducible assumption) | assumption))
                        replace q31 := eq_true q31
                        have hcz33_0 : wc.cell? ⟨gb110, 0, none⟩ = some (.int .i64 0) := (blk_cell BK110.out 0).trans rfl
                        have hcz33_1 : wc.cell? ⟨gb110, 1, none⟩ = some (.string (⟨#[]⟩ : ByteArray)) := (blk_cell BK110.out 1).trans rfl
                        have hcz33_2 : wc.cell? ⟨gb110, 2, none⟩ = some (.int .u32 0) := (blk_cell BK110.out 2).trans rfl
                        have hcz33_3 : wc.cell? ⟨gb110, 3, none⟩ = some (.int .i64 0) := (blk_cell BK110.out 3).trans rfl
                        have hcz33_4 : wc.cell? ⟨gb110, 4, none⟩ = some (.int .i64 0) := (blk_cell BK110.out 4).trans rfl
                        have hfz33_0 := blk_frozen BK110.out 0
                        have hfz33_1 := blk_frozen BK110.out 1
                        have hfz33_2 := blk_frozen BK110.out 2
                        have hfz33_3 := blk_frozen BK110.out 3
                        have hfz33_4 := blk_frozen BK110.out 4
                        go_wp2
                        refine bodyPost_ret (results_ct rfl _ _ gb110 33 #[.int .i64 0, .string (⟨#[]⟩ : ByteArray), .int .u32 0, .int .i64 0, .int .i64 0] (0, 0) _ rfl (by (with_reducible repeat (first | refine blk_drewN ?_ _ | refine blk_drew ?_ | refine blk_alloc ?_ _)); refine blk_put (cs := #[.int .i64 0, .string (⟨#[]⟩ : ByteArray), .int .u32 0, .int .i64 0, .int .i64 0]) ?_ 4 _ rfl; (with_reducible repeat (first | refine blk_drewN ?_ _ | refine blk_drew ?_ | refine blk_alloc ?_ _)); refine blk_put (cs := #[.int .i64 0, .string (⟨#[]⟩ : ByteArray), .int .u32 0, .int .i64 0, .int .i64 0]) ?_ 3 _ rfl; (with_reducible repeat (first | refine blk_drewN ?_ _ | refine blk_drew ?_ | refine blk_alloc ?_ _)); refine blk_put (cs := #[.int .i64 0, .string (⟨#[]⟩ : ByteArray), .int .u32 0, .int .i64 0, .int .i64 0]) ?_ 2 _ rfl; (with_reducible repeat (first | refine blk_drewN ?_ _ | refine blk_drew ?_ | refine blk_alloc ?_ _)); refine blk_put (cs := #[.int .i64 0, .string (⟨#[]⟩ : ByteArray), .int .u32 0, .int .i64 0, .int .i64 0]) ?_ 1 _ rfl; (with_reducible repeat (first | refine blk_drewN ?_ _ | refine blk_drew ?_ | refine blk_alloc ?_ _)); refine blk_put (cs := #[.int .i64 0, .string (⟨#[]⟩ : ByteArray), .int .u32 0, .int .i64 0, .int .i64 0]) ?_ 0 _ rfl; (with_reducible repeat (first | refine blk_drewN ?_ _ | refine blk_drew ?_ | refine blk_alloc ?_ _)); exact BK110.out) Try.underlying33 rfl (by kernel_rfl)) rfl ?_
                        exact ⟨by first | rfl | (simp [errW_none, errW_some] <;> rfl) | (simp [*, errW_none, errW_some] <;> rfl), by repeat (first | (with_reducible first | exact HB.out | apply below_alloc | apply pw_below_drewN | apply below_drew1 | refine below_set ?_ GE110.out) | exact HB.out)⟩
                      · rw [if_neg c32] at H
                        have c32b0 : ((bt a0 1) == 92) = false := beq_eq_false_iff_ne.mpr c32
                        have c32b1 : ((bt a0 1) != 92) = true := bne_iff_ne.mpr c32
                        by_cases c34 : 0 ≤ 3
                        · rw [if_pos c34] at H
                          have c34b0 := eq_true c34
                          have c34b1 : decide (0 ≤ 3) = true := decide_eq_true c34
                          clear c34
                          by_cases c35 : 3 ≤ (a0.size : Int)
                          · rw [if_pos c35] at H
                            have c35b0 := eq_true c35
                            have c35b1 : decide (3 ≤ (a0.size : Int)) = true := decide_eq_true c35
                            clear c35
                            simp only [Option.some.injEq, Prod.mk.injEq] at H
                            obtain ⟨rfl, rfl, rfl, rfl, rfl, rfl⟩ := H
                            have p21 : 0 ≤ (2 : Int) := (by omega)
                            have q21 : 2 < a0.size := (by have : (2 : Int) < (a0.size : Int) := of_decide_eq_true (by first | (with_reducible assumption) | assumption); omega)
                            have hx21 : ∀ h : 2 < a0.size, ((a0[2]'h).toNat : Int) = bt a0 2 := bt_at a0 2
                            clear p21
                            have qi21 : (2 < (a0.size : Int)) = True := eq_true (of_decide_eq_true (by first | (with_reducible assumption) | assumption))
                            replace q21 := eq_true q21
                            have p24 : 0 ≤ (1 : Int) := (by omega)
                            have q24 : 1 < a0.size := (by have : (1 : Int) < (a0.size : Int) := of_decide_eq_true (by first | (with_reducible assumption) | assumption); omega)
                            have hx24 : ∀ h : 1 < a0.size, ((a0[1]'h).toNat : Int) = bt a0 1 := bt_at a0 1
                            clear p24
                            have qi24 : (1 < (a0.size : Int)) = True := eq_true (of_decide_eq_true (by first | (with_reducible assumption) | assumption))
                            replace q24 := eq_true q24
                            have p26 : 0 ≤ (1 : Int) := (by omega)
                            have q26 : 1 < a0.size := (by have : (1 : Int) < (a0.size : Int) := of_decide_eq_true (by first | (with_reducible assumption) | assumption); omega)
                            have hx26 : ∀ h : 1 < a0.size, ((a0[1]'h).toNat : Int) = bt a0 1 := bt_at a0 1
                            clear p26
                            have qi26 : (1 < (a0.size : Int)) = True := eq_true (of_decide_eq_true (by first | (with_reducible assumption) | assumption))
                            replace q26 := eq_true q26
                            have p28 : 0 ≤ (1 : Int) := (by omega)
                            have q28 : 1 < a0.size := (by have : (1 : Int) < (a0.size : Int) := of_decide_eq_true (by first | (with_reducible assumption) | assumption); omega)
                            have hx28 : ∀ h : 1 < a0.size, ((a0[1]'h).toNat : Int) = bt a0 1 := bt_at a0 1
                            clear p28
                            have qi28 : (1 < (a0.size : Int)) = True := eq_true (of_decide_eq_true (by first | (with_reducible assumption) | assumption))
                            replace q28 := eq_true q28
                            have p31 : 0 ≤ (1 : Int) := (by omega)
                            have q31 : 1 < a0.size := (by have : (1 : Int) < (a0.size : Int) := of_decide_eq_true (by first | (with_reducible assumption) | assumption); omega)
                            have hx31 : ∀ h : 1 < a0.size, ((a0[1]'h).toNat : Int) = bt a0 1 := bt_at a0 1
                            clear p31
                            have qi31 : (1 < (a0.size : Int)) = True := eq_true (of_decide_eq_true (by first | (with_reducible assumption) | assumption))
                            replace q31 := eq_true q31
                            try go_wp2
                            have n0_ := Aside0.mk (blk_drew BK110.out)
                            have n1_ := Aside0.mk (below_drew1 HB.out)
                            clear BK110
                            clear HB
                            have BK110 := n0_
                            have HB := n1_
                            clear n0_ n1_
                            have p36 : 0 ≤ (1 : Int) := (by omega)
                            have q36 : 1 < a0.size := (by have : (1 : Int) < (a0.size : Int) := of_decide_eq_true (by first | (with_reducible assumption) | assumption); omega)
                            have hx36 : ∀ h : 1 < a0.size, ((a0[1]'h).toNat : Int) = bt a0 1 := bt_at a0 1
                            clear p36
                            have qi36 : (1 < (a0.size : Int)) = True := eq_true (of_decide_eq_true (by first | (with_reducible assumption) | assumption))
                            replace q36 := eq_true q36
                            refine start_ (n := 8) (S := fun w' => True) (ds := []) #[false, false, false, false, false, false, false, false] (by kernel_rfl) rfl rfl trivial (fun hHeld => ?_); refine with_tabW lex_char.tab7 lex_char.bits7 (fun HT_ HW_ => ?_)
                            generalize wc.drew = w37 at BK110 HB hHeld ⊢
                            refine pure_ (i := 0) (N := some 60) (v := ?_) (a' := ?_) #[true, false, false, false, false, false, false, false] rfl rfl (any_of HT_.out (by kernel_rfl)) (fun _ _ _ h => h) (Or.inl ⟨by rfl, ?_⟩) ?_ ?_
                            rotate_left
                            · intro w'
                              go_simp
                              with_reducible rfl
                            rotate_left
                            · simp only [Act.put, List.setIfInBounds_toArray, List.set_cons_zero, List.set_cons_succ, i64_w, i32_w]
                              rfl
                            refine pure_ (i := 1) (N := some 61) (v := ?_) (a' := ?_) #[true, true, false, false, false, false, false, false] rfl rfl (any_of HT_.out (by kernel_rfl)) (fun _ _ _ h => h) (Or.inl ⟨by rfl, ?_⟩) ?_ ?_
                            rotate_left
                            · intro w'
                              go_simp
                              with_reducible rfl
                            rotate_left
                            · simp only [Act.put, List.setIfInBounds_toArray, List.set_cons_zero, List.set_cons_succ, i64_w, i32_w]
                              rfl
                            refine pure_ (i := 2) (N := some 62) (v := ?_) (a' := ?_) #[true, true, true, false, false, false, false, false] rfl rfl (any_of HT_.out (by kernel_rfl)) (fun _ _ _ h => h) (Or.inl ⟨by rfl, ?_⟩) ?_ ?_
                            rotate_left
                            · intro w'
                              go_simp
                              with_reducible rfl
                            rotate_left
                            · simp only [Act.put, List.setIfInBounds_toArray, List.set_cons_zero, List.set_cons_succ, i64_w, i32_w]
                              rfl
                            refine take_ (i := 3) (N := some 63) (v := ?_) (a' := ?_) #[true, true, true, true, false, false, false, false] rfl rfl (take_ofW HT_.out HW_.out (by kernel_rfl)) (fun _ _ _ h => h) (Or.inl ⟨by rfl, ?_⟩) hHeld ?_ ?_
                            rotate_left
                            · intro w' _
                              go_simp
                              with_reducible rfl
                            rotate_left
                            · simp only [Act.put, List.setIfInBounds_toArray, List.set_cons_zero, List.set_cons_succ, i64_w, i32_w]
                              rfl
                            refine pure_ (i := 4) (N := some 64) (v := ?_) (a' := ?_) #[true, true, true, true, true, false, false, false] rfl rfl (any_of HT_.out (by kernel_rfl)) (fun _ _ _ h => h) (Or.inl ⟨by rfl, ?_⟩) ?_ ?_
                            rotate_left
                            · intro w'
                              go_simp
                              with_reducible rfl
                            rotate_left
                            · simp only [Act.put, List.setIfInBounds_toArray, List.set_cons_zero, List.set_cons_succ, i64_w, i32_w]
                              rfl
                            refine pure_ (i := 5) (N := some 65) (v := ?_) (a' := ?_) #[true, true, true, true, true, true, false, false] rfl rfl (any_of HT_.out (by kernel_rfl)) (fun _ _ _ h => h) (Or.inl ⟨by rfl, ?_⟩) ?_ ?_
                            rotate_left
                            · intro w'
                              go_simp
                              with_reducible rfl
                            rotate_left
                            · simp only [Act.put, List.setIfInBounds_toArray, List.set_cons_zero, List.set_cons_succ, i64_w, i32_w]
                              rfl
                            refine one_ (i := 6) (N := none) #[true, true, true, true, true, true, true, false] rfl rfl (one_of HT_.out (by kernel_rfl)) (by decide) (fun K hK => ?_)
                            have hs38 : w37.cell? ⟨gb110, 0, none⟩ = some (.int .i64 0) := (blk_cell BK110.out 0).trans rfl
                            have hfs38 := blk_frozen BK110.out 0
                            have hs39 : w37.cell? ⟨gb110, 1, none⟩ = some (.string (⟨#[]⟩ : ByteArray)) := (blk_cell BK110.out 1).trans rfl
                            have hfs39 := blk_frozen BK110.out 1
                            have hs40 : w37.cell? ⟨gb110, 2, none⟩ = some (.int .u32 0) := (blk_cell BK110.out 2).trans rfl
                            have hfs40 := blk_frozen BK110.out 2
                            have hs41 : w37.cell? ⟨gb110, 3, none⟩ = some (.int .i64 0) := (blk_cell BK110.out 3).trans rfl
                            have hfs41 := blk_frozen BK110.out 3
                            have hs42 : w37.cell? ⟨gb110, 4, none⟩ = some (.int .i64 0) := (blk_cell BK110.out 4).trans rfl
                            have hfs42 := blk_frozen BK110.out 4
                            refine skip_ (w1 := ?_) (by rfl) rfl ?_ ?_
                            rotate_left
                            · go_simp
                              rfl
                            refine hK.out _ _ trivial (fun hHeld => ?_)
                            clear hK K
                            refine pure_ (i := 7) (N := some 3) (v := ?_) (a' := ?_) #[true, true, true, true, true, true, true, true] rfl rfl (any_of HT_.out (by kernel_rfl)) (fun _ _ _ h => h) (Or.inl ⟨by rfl, ?_⟩) ?_ ?_
                            rotate_left
                            · intro w'
                              go_simp
                              with_reducible rfl
                            rotate_left
                            · simp only [Act.put, List.setIfInBounds_toArray, List.set_cons_zero, List.set_cons_succ, i64_w, i32_w]
                              rfl
                            refine done_ (done_of HT_.out (by kernel_rfl)) ?_
                            try go_wp2
                            refine bodyPost_ret (results_ct rfl _ _ gb110 33 #[.int .i64 3, .string (a0.extract 0 3), .int .u32 ((bt a0 1) % 4294967296), .int .i64 0, .int .i64 0] (0, 0) _ rfl (by (with_reducible repeat (first | refine blk_drewN ?_ _ | refine blk_drew ?_ | refine blk_alloc ?_ _)); refine blk_put (cs := #[.int .i64 3, .string (a0.extract 0 3), .int .u32 ((bt a0 1) % 4294967296), .int .i64 0, .int .i64 0]) ?_ 4 _ rfl; (with_reducible repeat (first | refine blk_drewN ?_ _ | refine blk_drew ?_ | refine blk_alloc ?_ _)); refine blk_put (cs := #[.int .i64 3, .string (a0.extract 0 3), .int .u32 ((bt a0 1) % 4294967296), .int .i64 0, .int .i64 0]) ?_ 3 _ rfl; (with_reducible repeat (first | refine blk_drewN ?_ _ | refine blk_drew ?_ | refine blk_alloc ?_ _)); refine blk_put (cs := #[.int .i64 3, .string (a0.extract 0 3), .int .u32 0, .int .i64 0, .int .i64 0]) ?_ 2 _ rfl; (with_reducible repeat (first | refine blk_drewN ?_ _ | refine blk_drew ?_ | refine blk_alloc ?_ _)); refine blk_put (cs := #[.int .i64 3, .string (⟨#[]⟩ : ByteArray), .int .u32 0, .int .i64 0, .int .i64 0]) ?_ 1 _ rfl; (with_reducible repeat (first | refine blk_drewN ?_ _ | refine blk_drew ?_ | refine blk_alloc ?_ _)); refine blk_put (cs := #[.int .i64 0, .string (⟨#[]⟩ : ByteArray), .int .u32 0, .int .i64 0, .int .i64 0]) ?_ 0 _ rfl; (with_reducible repeat (first | refine blk_drewN ?_ _ | refine blk_drew ?_ | refine blk_alloc ?_ _)); exact BK110.out) Try.underlying33 rfl (by kernel_rfl)) rfl ?_
                            exact ⟨by first | rfl | (simp [errW_none, errW_some] <;> rfl) | (simp [*, errW_none, errW_some] <;> rfl), by repeat (first | (with_reducible first | exact HB.out | apply below_alloc | apply pw_below_drewN | apply below_drew1 | refine below_set ?_ GE110.out) | exact HB.out)⟩
                          · rw [if_neg c35] at H
                            exact absurd H (by simp)
                        · rw [if_neg c34] at H
                          exact absurd H (by simp)
                  · rw [if_neg c27] at H
                    have c27b0 : decide ((bt a0 1) ≤ 126) = false := decide_eq_false c27
                    clear c27
                    simp only [Option.some.injEq, Prod.mk.injEq] at H
                    obtain ⟨rfl, rfl, rfl, rfl, rfl, rfl⟩ := H
                    have p21 : 0 ≤ (2 : Int) := (by omega)
                    have q21 : 2 < a0.size := (by have : (2 : Int) < (a0.size : Int) := of_decide_eq_true (by first | (with_reducible assumption) | assumption); omega)
                    have hx21 : ∀ h : 2 < a0.size, ((a0[2]'h).toNat : Int) = bt a0 2 := bt_at a0 2
                    clear p21
                    have qi21 : (2 < (a0.size : Int)) = True := eq_true (of_decide_eq_true (by first | (with_reducible assumption) | assumption))
                    replace q21 := eq_true q21
                    have p24 : 0 ≤ (1 : Int) := (by omega)
                    have q24 : 1 < a0.size := (by have : (1 : Int) < (a0.size : Int) := of_decide_eq_true (by first | (with_reducible assumption) | assumption); omega)
                    have hx24 : ∀ h : 1 < a0.size, ((a0[1]'h).toNat : Int) = bt a0 1 := bt_at a0 1
                    clear p24
                    have qi24 : (1 < (a0.size : Int)) = True := eq_true (of_decide_eq_true (by first | (with_reducible assumption) | assumption))
                    replace q24 := eq_true q24
                    have p26 : 0 ≤ (1 : Int) := (by omega)
                    have q26 : 1 < a0.size := (by have : (1 : Int) < (a0.size : Int) := of_decide_eq_true (by first | (with_reducible assumption) | assumption); omega)
                    have hx26 : ∀ h : 1 < a0.size, ((a0[1]'h).toNat : Int) = bt a0 1 := bt_at a0 1
                    clear p26
                    have qi26 : (1 < (a0.size : Int)) = True := eq_true (of_decide_eq_true (by first | (with_reducible assumption) | assumption))
                    replace q26 := eq_true q26
                    have hcz43_0 : wc.cell? ⟨gb110, 0, none⟩ = some (.int .i64 0) := (blk_cell BK110.out 0).trans rfl
                    have hcz43_1 : wc.cell? ⟨gb110, 1, none⟩ = some (.string (⟨#[]⟩ : ByteArray)) := (blk_cell BK110.out 1).trans rfl
                    have hcz43_2 : wc.cell? ⟨gb110, 2, none⟩ = some (.int .u32 0) := (blk_cell BK110.out 2).trans rfl
                    have hcz43_3 : wc.cell? ⟨gb110, 3, none⟩ = some (.int .i64 0) := (blk_cell BK110.out 3).trans rfl
                    have hcz43_4 : wc.cell? ⟨gb110, 4, none⟩ = some (.int .i64 0) := (blk_cell BK110.out 4).trans rfl
                    have hfz43_0 := blk_frozen BK110.out 0
                    have hfz43_1 := blk_frozen BK110.out 1
                    have hfz43_2 := blk_frozen BK110.out 2
                    have hfz43_3 := blk_frozen BK110.out 3
                    have hfz43_4 := blk_frozen BK110.out 4
                    go_wp2
                    refine bodyPost_ret (results_ct rfl _ _ gb110 33 #[.int .i64 0, .string (⟨#[]⟩ : ByteArray), .int .u32 0, .int .i64 0, .int .i64 0] (0, 0) _ rfl (by (with_reducible repeat (first | refine blk_drewN ?_ _ | refine blk_drew ?_ | refine blk_alloc ?_ _)); refine blk_put (cs := #[.int .i64 0, .string (⟨#[]⟩ : ByteArray), .int .u32 0, .int .i64 0, .int .i64 0]) ?_ 4 _ rfl; (with_reducible repeat (first | refine blk_drewN ?_ _ | refine blk_drew ?_ | refine blk_alloc ?_ _)); refine blk_put (cs := #[.int .i64 0, .string (⟨#[]⟩ : ByteArray), .int .u32 0, .int .i64 0, .int .i64 0]) ?_ 3 _ rfl; (with_reducible repeat (first | refine blk_drewN ?_ _ | refine blk_drew ?_ | refine blk_alloc ?_ _)); refine blk_put (cs := #[.int .i64 0, .string (⟨#[]⟩ : ByteArray), .int .u32 0, .int .i64 0, .int .i64 0]) ?_ 2 _ rfl; (with_reducible repeat (first | refine blk_drewN ?_ _ | refine blk_drew ?_ | refine blk_alloc ?_ _)); refine blk_put (cs := #[.int .i64 0, .string (⟨#[]⟩ : ByteArray), .int .u32 0, .int .i64 0, .int .i64 0]) ?_ 1 _ rfl; (with_reducible repeat (first | refine blk_drewN ?_ _ | refine blk_drew ?_ | refine blk_alloc ?_ _)); refine blk_put (cs := #[.int .i64 0, .string (⟨#[]⟩ : ByteArray), .int .u32 0, .int .i64 0, .int .i64 0]) ?_ 0 _ rfl; (with_reducible repeat (first | refine blk_drewN ?_ _ | refine blk_drew ?_ | refine blk_alloc ?_ _)); exact BK110.out) Try.underlying33 rfl (by kernel_rfl)) rfl ?_
                    exact ⟨by first | rfl | (simp [errW_none, errW_some] <;> rfl) | (simp [*, errW_none, errW_some] <;> rfl), by repeat (first | (with_reducible first | exact HB.out | apply below_alloc | apply pw_below_drewN | apply below_drew1 | refine below_set ?_ GE110.out) | exact HB.out)⟩
                · rw [if_neg c25] at H
                  have c25b0 : decide (32 ≤ (bt a0 1)) = false := decide_eq_false c25
                  clear c25
                  simp only [Option.some.injEq, Prod.mk.injEq] at H
                  obtain ⟨rfl, rfl, rfl, rfl, rfl, rfl⟩ := H
                  have p21 : 0 ≤ (2 : Int) := (by omega)
                  have q21 : 2 < a0.size := (by have : (2 : Int) < (a0.size : Int) := of_decide_eq_true (by first | (with_reducible assumption) | assumption); omega)
                  have hx21 : ∀ h : 2 < a0.size, ((a0[2]'h).toNat : Int) = bt a0 2 := bt_at a0 2
                  clear p21
                  have qi21 : (2 < (a0.size : Int)) = True := eq_true (of_decide_eq_true (by first | (with_reducible assumption) | assumption))
                  replace q21 := eq_true q21
                  have p24 : 0 ≤ (1 : Int) := (by omega)
                  have q24 : 1 < a0.size := (by have : (1 : Int) < (a0.size : Int) := of_decide_eq_true (by first | (with_reducible assumption) | assumption); omega)
                  have hx24 : ∀ h : 1 < a0.size, ((a0[1]'h).toNat : Int) = bt a0 1 := bt_at a0 1
                  clear p24
                  have qi24 : (1 < (a0.size : Int)) = True := eq_true (of_decide_eq_true (by first | (with_reducible assumption) | assumption))
                  replace q24 := eq_true q24
                  have hcz44_0 : wc.cell? ⟨gb110, 0, none⟩ = some (.int .i64 0) := (blk_cell BK110.out 0).trans rfl
                  have hcz44_1 : wc.cell? ⟨gb110, 1, none⟩ = some (.string (⟨#[]⟩ : ByteArray)) := (blk_cell BK110.out 1).trans rfl
                  have hcz44_2 : wc.cell? ⟨gb110, 2, none⟩ = some (.int .u32 0) := (blk_cell BK110.out 2).trans rfl
                  have hcz44_3 : wc.cell? ⟨gb110, 3, none⟩ = some (.int .i64 0) := (blk_cell BK110.out 3).trans rfl
                  have hcz44_4 : wc.cell? ⟨gb110, 4, none⟩ = some (.int .i64 0) := (blk_cell BK110.out 4).trans rfl
                  have hfz44_0 := blk_frozen BK110.out 0
                  have hfz44_1 := blk_frozen BK110.out 1
                  have hfz44_2 := blk_frozen BK110.out 2
                  have hfz44_3 := blk_frozen BK110.out 3
                  have hfz44_4 := blk_frozen BK110.out 4
                  go_wp2
                  refine bodyPost_ret (results_ct rfl _ _ gb110 33 #[.int .i64 0, .string (⟨#[]⟩ : ByteArray), .int .u32 0, .int .i64 0, .int .i64 0] (0, 0) _ rfl (by (with_reducible repeat (first | refine blk_drewN ?_ _ | refine blk_drew ?_ | refine blk_alloc ?_ _)); refine blk_put (cs := #[.int .i64 0, .string (⟨#[]⟩ : ByteArray), .int .u32 0, .int .i64 0, .int .i64 0]) ?_ 4 _ rfl; (with_reducible repeat (first | refine blk_drewN ?_ _ | refine blk_drew ?_ | refine blk_alloc ?_ _)); refine blk_put (cs := #[.int .i64 0, .string (⟨#[]⟩ : ByteArray), .int .u32 0, .int .i64 0, .int .i64 0]) ?_ 3 _ rfl; (with_reducible repeat (first | refine blk_drewN ?_ _ | refine blk_drew ?_ | refine blk_alloc ?_ _)); refine blk_put (cs := #[.int .i64 0, .string (⟨#[]⟩ : ByteArray), .int .u32 0, .int .i64 0, .int .i64 0]) ?_ 2 _ rfl; (with_reducible repeat (first | refine blk_drewN ?_ _ | refine blk_drew ?_ | refine blk_alloc ?_ _)); refine blk_put (cs := #[.int .i64 0, .string (⟨#[]⟩ : ByteArray), .int .u32 0, .int .i64 0, .int .i64 0]) ?_ 1 _ rfl; (with_reducible repeat (first | refine blk_drewN ?_ _ | refine blk_drew ?_ | refine blk_alloc ?_ _)); refine blk_put (cs := #[.int .i64 0, .string (⟨#[]⟩ : ByteArray), .int .u32 0, .int .i64 0, .int .i64 0]) ?_ 0 _ rfl; (with_reducible repeat (first | refine blk_drewN ?_ _ | refine blk_drew ?_ | refine blk_alloc ?_ _)); exact BK110.out) Try.underlying33 rfl (by kernel_rfl)) rfl ?_
                  exact ⟨by first | rfl | (simp [errW_none, errW_some] <;> rfl) | (simp [*, errW_none, errW_some] <;> rfl), by repeat (first | (with_reducible first | exact HB.out | apply below_alloc | apply pw_below_drewN | apply below_drew1 | refine below_set ?_ GE110.out) | exact HB.out)⟩
              · rw [if_neg c23] at H
                exact absurd H (by simp)
            · rw [if_neg c22] at H
              have c22b0 : ((bt a0 2) == 39) = false := beq_eq_false_iff_ne.mpr c22
              have c22b1 : ((bt a0 2) != 39) = true := bne_iff_ne.mpr c22
              simp only [Option.some.injEq, Prod.mk.injEq] at H
              obtain ⟨rfl, rfl, rfl, rfl, rfl, rfl⟩ := H
              have p21 : 0 ≤ (2 : Int) := (by omega)
              have q21 : 2 < a0.size := (by have : (2 : Int) < (a0.size : Int) := of_decide_eq_true (by first | (with_reducible assumption) | assumption); omega)
              have hx21 : ∀ h : 2 < a0.size, ((a0[2]'h).toNat : Int) = bt a0 2 := bt_at a0 2
              clear p21
              have qi21 : (2 < (a0.size : Int)) = True := eq_true (of_decide_eq_true (by first | (with_reducible assumption) | assumption))
              replace q21 := eq_true q21
              have hcz45_0 : wc.cell? ⟨gb110, 0, none⟩ = some (.int .i64 0) := (blk_cell BK110.out 0).trans rfl
              have hcz45_1 : wc.cell? ⟨gb110, 1, none⟩ = some (.string (⟨#[]⟩ : ByteArray)) := (blk_cell BK110.out 1).trans rfl
              have hcz45_2 : wc.cell? ⟨gb110, 2, none⟩ = some (.int .u32 0) := (blk_cell BK110.out 2).trans rfl
              have hcz45_3 : wc.cell? ⟨gb110, 3, none⟩ = some (.int .i64 0) := (blk_cell BK110.out 3).trans rfl
              have hcz45_4 : wc.cell? ⟨gb110, 4, none⟩ = some (.int .i64 0) := (blk_cell BK110.out 4).trans rfl
              have hfz45_0 := blk_frozen BK110.out 0
              have hfz45_1 := blk_frozen BK110.out 1
              have hfz45_2 := blk_frozen BK110.out 2
              have hfz45_3 := blk_frozen BK110.out 3
              have hfz45_4 := blk_frozen BK110.out 4
              go_wp2
              refine bodyPost_ret (results_ct rfl _ _ gb110 33 #[.int .i64 0, .string (⟨#[]⟩ : ByteArray), .int .u32 0, .int .i64 0, .int .i64 0] (0, 0) _ rfl (by (with_reducible repeat (first | refine blk_drewN ?_ _ | refine blk_drew ?_ | refine blk_alloc ?_ _)); refine blk_put (cs := #[.int .i64 0, .string (⟨#[]⟩ : ByteArray), .int .u32 0, .int .i64 0, .int .i64 0]) ?_ 4 _ rfl; (with_reducible repeat (first | refine blk_drewN ?_ _ | refine blk_drew ?_ | refine blk_alloc ?_ _)); refine blk_put (cs := #[.int .i64 0, .string (⟨#[]⟩ : ByteArray), .int .u32 0, .int .i64 0, .int .i64 0]) ?_ 3 _ rfl; (with_reducible repeat (first | refine blk_drewN ?_ _ | refine blk_drew ?_ | refine blk_alloc ?_ _)); refine blk_put (cs := #[.int .i64 0, .string (⟨#[]⟩ : ByteArray), .int .u32 0, .int .i64 0, .int .i64 0]) ?_ 2 _ rfl; (with_reducible repeat (first | refine blk_drewN ?_ _ | refine blk_drew ?_ | refine blk_alloc ?_ _)); refine blk_put (cs := #[.int .i64 0, .string (⟨#[]⟩ : ByteArray), .int .u32 0, .int .i64 0, .int .i64 0]) ?_ 1 _ rfl; (with_reducible repeat (first | refine blk_drewN ?_ _ | refine blk_drew ?_ | refine blk_alloc ?_ _)); refine blk_put (cs := #[.int .i64 0, .string (⟨#[]⟩ : ByteArray), .int .u32 0, .int .i64 0, .int .i64 0]) ?_ 0 _ rfl; (with_reducible repeat (first | refine blk_drewN ?_ _ | refine blk_drew ?_ | refine blk_alloc ?_ _)); exact BK110.out) Try.underlying33 rfl (by kernel_rfl)) rfl ?_
              exact ⟨by first | rfl | (simp [errW_none, errW_some] <;> rfl) | (simp [*, errW_none, errW_some] <;> rfl), by repeat (first | (with_reducible first | exact HB.out | apply below_alloc | apply pw_below_drewN | apply below_drew1 | refine below_set ?_ GE110.out) | exact HB.out)⟩
          · rw [if_neg c20] at H
            exact absurd H (by simp)
        · rw [if_neg c19] at H
          have c19b0 : decide (3 ≤ (a0.size : Int)) = false := decide_eq_false c19
          have c19b1 : decide (3 ≤ a0.size) = false := decide_eq_false (by omega)
          clear c19
          simp only [Option.some.injEq, Prod.mk.injEq] at H
          obtain ⟨rfl, rfl, rfl, rfl, rfl, rfl⟩ := H
          have hcz46_0 : wc.cell? ⟨gb110, 0, none⟩ = some (.int .i64 0) := (blk_cell BK110.out 0).trans rfl
          have hcz46_1 : wc.cell? ⟨gb110, 1, none⟩ = some (.string (⟨#[]⟩ : ByteArray)) := (blk_cell BK110.out 1).trans rfl
          have hcz46_2 : wc.cell? ⟨gb110, 2, none⟩ = some (.int .u32 0) := (blk_cell BK110.out 2).trans rfl
          have hcz46_3 : wc.cell? ⟨gb110, 3, none⟩ = some (.int .i64 0) := (blk_cell BK110.out 3).trans rfl
          have hcz46_4 : wc.cell? ⟨gb110, 4, none⟩ = some (.int .i64 0) := (blk_cell BK110.out 4).trans rfl
          have hfz46_0 := blk_frozen BK110.out 0
          have hfz46_1 := blk_frozen BK110.out 1
          have hfz46_2 := blk_frozen BK110.out 2
          have hfz46_3 := blk_frozen BK110.out 3
          have hfz46_4 := blk_frozen BK110.out 4
          go_wp2
          refine bodyPost_ret (results_ct rfl _ _ gb110 33 #[.int .i64 0, .string (⟨#[]⟩ : ByteArray), .int .u32 0, .int .i64 0, .int .i64 0] (0, 0) _ rfl (by (with_reducible repeat (first | refine blk_drewN ?_ _ | refine blk_drew ?_ | refine blk_alloc ?_ _)); refine blk_put (cs := #[.int .i64 0, .string (⟨#[]⟩ : ByteArray), .int .u32 0, .int .i64 0, .int .i64 0]) ?_ 4 _ rfl; (with_reducible repeat (first | refine blk_drewN ?_ _ | refine blk_drew ?_ | refine blk_alloc ?_ _)); refine blk_put (cs := #[.int .i64 0, .string (⟨#[]⟩ : ByteArray), .int .u32 0, .int .i64 0, .int .i64 0]) ?_ 3 _ rfl; (with_reducible repeat (first | refine blk_drewN ?_ _ | refine blk_drew ?_ | refine blk_alloc ?_ _)); refine blk_put (cs := #[.int .i64 0, .string (⟨#[]⟩ : ByteArray), .int .u32 0, .int .i64 0, .int .i64 0]) ?_ 2 _ rfl; (with_reducible repeat (first | refine blk_drewN ?_ _ | refine blk_drew ?_ | refine blk_alloc ?_ _)); refine blk_put (cs := #[.int .i64 0, .string (⟨#[]⟩ : ByteArray), .int .u32 0, .int .i64 0, .int .i64 0]) ?_ 1 _ rfl; (with_reducible repeat (first | refine blk_drewN ?_ _ | refine blk_drew ?_ | refine blk_alloc ?_ _)); refine blk_put (cs := #[.int .i64 0, .string (⟨#[]⟩ : ByteArray), .int .u32 0, .int .i64 0, .int .i64 0]) ?_ 0 _ rfl; (with_reducible repeat (first | refine blk_drewN ?_ _ | refine blk_drew ?_ | refine blk_alloc ?_ _)); exact BK110.out) Try.underlying33 rfl (by kernel_rfl)) rfl ?_
          exact ⟨by first | rfl | (simp [errW_none, errW_some] <;> rfl) | (simp [*, errW_none, errW_some] <;> rfl), by repeat (first | (with_reducible first | exact HB.out | apply below_alloc | apply pw_below_drewN | apply below_drew1 | refine below_set ?_ GE110.out) | exact HB.out)⟩
def runOps (P : Program) (ops : Array Oper) : List Nat → Act → World → Option (Act × World)
  | [], a, w => some (a, w)
  | i :: rest, a, w =>
    match ops[i]? with
    | none => runOps P ops rest a w
    | some o =>
      if Region.wanted o (yielded ops a.tmps) then
        match (execOp a.eval o).run P w with
        | .ok (.value v) w' => runOps P ops rest (a.put o.dst v) w'
        | .ok .skip w' => runOps P ops rest (a.put o.dst undef) w'
        | _ => none
      else runOps P ops rest (a.put o.dst undef) w
theorem wpOps_run {P : Program} {ops : Array Oper} {Q : Exit → Act → World → Prop} (l2 : List Nat) (a' : Act) (w' : World) (h2 : wpOps P ops Q l2 a' w') :
    ∀ (l : List Nat) (a : Act) (w : World), runOps P ops l a w = some (a', w') → wpOps P ops Q (l ++ l2) a w := by
  intro l
  induction l with
  | nil =>
    intro a w h
    simp only [runOps, Option.some.injEq, Prod.mk.injEq] at h
    obtain ⟨rfl, rfl⟩ := h
    exact h2
  | cons i rest ih =>
    intro a w h
    simp only [runOps] at h
    simp only [List.cons_append, wpOps]
    split at h
    · rename_i h0
      rw [h0]
      exact ih _ _ h
    · rename_i o h0
      rw [h0]
      dsimp only
      split at h
      · rename_i hw
        rw [if_pos hw]
        refine .inl ?_
        unfold Oper.wp
        split at h
        · rename_i v w1 hr
          rw [hr]
          exact ih _ _ h
        · rename_i w1 hr
          rw [hr]
          exact ih _ _ h
        · cases h
      · rename_i hw
        rw [if_neg hw]
        exact ih _ _ h
theorem wpOps_store {P : Program} {ops : Array Oper} {Q : Exit → Act → World → Prop} (i : Nat) (rest : List Nat) {o : Oper} {t : TypeId} {p x : Operand} {a : Act} {w w' : World}
    (hi : ops[i]? = some o) (ho : o.op = .store t p x) (hg : Region.wanted o (yielded ops a.tmps) = true) (hrun : (Instr.storeAt t (a.eval p) (a.eval x)).run P w = .ok () w')
    (hK : wpOps P ops Q rest (a.put o.dst undef) w') : wpOps P ops Q (i :: rest) a w := by
  simp only [wpOps, hi]
  rw [if_pos hg]
  refine .inl ?_
  have hx : (execOp a.eval o).run P w = .ok .skip w' := by
    unfold execOp
    simp only [ho, Sem.run_bind, hrun, Result.andThen_ok, Sem.run_pure]
  unfold Oper.wp
  rw [hx]
  exact hK
def marks : List (List UInt8) := [[60, 60, 61], [62, 62, 61], [45, 62], [43, 43], [45, 45], [60, 60], [62, 62], [60, 61], [62, 61], [61, 61], [33, 61], [38, 38], [124, 124], [43, 61], [45, 61], [42, 61], [47, 61], [37, 61], [38, 61], [124, 61], [94, 61], [43], [45], [42], [47], [37], [38], [124], [94], [126], [33], [60], [62], [61], [63], [58], [59], [44], [46], [40], [41], [91], [93], [123], [125]]
def marks45 : Array Value := (marks.map fun m => Value.string ⟨m.toArray⟩).toArray
def zero45 : Array Value := (List.replicate 45 (Value.string ⟨#[]⟩)).toArray
theorem size64 : (Try.prog.info? 64).map (·.size) = some marks45.size := by kernel_rfl
theorem one64 : marks45.all (·.oneCell') = true := by kernel_rfl
theorem index64 (w : World) : ∀ n : Nat, n < 45 → (Instr.index 64 (.agg marks45) (.int .i64 n)).run Try.prog w = .ok (.string ⟨(marks.getD n []).toArray⟩) w
  | 0, _ => by kernel_rfl
  | 1, _ => by kernel_rfl
  | 2, _ => by kernel_rfl
  | 3, _ => by kernel_rfl
  | 4, _ => by kernel_rfl
  | 5, _ => by kernel_rfl
  | 6, _ => by kernel_rfl
  | 7, _ => by kernel_rfl
  | 8, _ => by kernel_rfl
  | 9, _ => by kernel_rfl
  | 10, _ => by kernel_rfl
  | 11, _ => by kernel_rfl
  | 12, _ => by kernel_rfl
  | 13, _ => by kernel_rfl
  | 14, _ => by kernel_rfl
  | 15, _ => by kernel_rfl
  | 16, _ => by kernel_rfl
  | 17, _ => by kernel_rfl
  | 18, _ => by kernel_rfl
  | 19, _ => by kernel_rfl
  | 20, _ => by kernel_rfl
  | 21, _ => by kernel_rfl
  | 22, _ => by kernel_rfl
  | 23, _ => by kernel_rfl
  | 24, _ => by kernel_rfl
  | 25, _ => by kernel_rfl
  | 26, _ => by kernel_rfl
  | 27, _ => by kernel_rfl
  | 28, _ => by kernel_rfl
  | 29, _ => by kernel_rfl
  | 30, _ => by kernel_rfl
  | 31, _ => by kernel_rfl
  | 32, _ => by kernel_rfl
  | 33, _ => by kernel_rfl
  | 34, _ => by kernel_rfl
  | 35, _ => by kernel_rfl
  | 36, _ => by kernel_rfl
  | 37, _ => by kernel_rfl
  | 38, _ => by kernel_rfl
  | 39, _ => by kernel_rfl
  | 40, _ => by kernel_rfl
  | 41, _ => by kernel_rfl
  | 42, _ => by kernel_rfl
  | 43, _ => by kernel_rfl
  | 44, _ => by kernel_rfl
  | n + 45, h => absurd h (by omega)
def markFrom (n : Nat) (s : ByteArray) : List UInt8 := ((marks.drop n).find? fun m => prefB m s).getD []
theorem marks_len : marks.length = 45 := rfl
theorem mark_step (k : Nat) (hk : k < 45) (s : ByteArray) : markFrom k s = if prefB (marks.getD k []) s = true then marks.getD k [] else markFrom (k + 1) s := by
  unfold markFrom
  have hl : k < marks.length := hk
  rw [List.drop_eq_getElem_cons hl, List.find?_cons]
  have e : marks.getD k [] = marks[k] := by simp [List.getD, hl]
  rw [e]
  cases prefB marks[k] s <;> simp
theorem mark_end (s : ByteArray) : markFrom 45 s = [] := by
  unfold markFrom
  rw [List.drop_eq_nil_of_le (Nat.le_of_eq marks_len)]
  rfl
def lex_mark.f (a0 : ByteArray) : Option ByteArray := if a0.size ≤ 9223372036854775807 then some ⟨(markFrom 0 a0).toArray⟩ else none
set_option maxHeartbeats 1000000 in
set_option maxRecDepth 100000 in
theorem lex_mark.calls (a0 : ByteArray) (r : ByteArray) (w : World) (h : lex_mark.f a0 = some r) : Calls Try.prog 30 #[.string a0] w fun e w' => e = .returned (.string r) ∧ Below w.heap.size w w' := by
  unfold lex_mark.f at h
  by_cases hs : a0.size ≤ 9223372036854775807
  case neg => rw [if_neg hs] at h; cases h
  rw [if_pos hs] at h
  have HL := Aside0.mk hs
  have HR := Aside0.mk (Option.some.inj h)
  clear h hs
  go_enter Try.func30, Try.ntmps30
  refine wp_seq (wp_region (wpOps_run [] ⟨#[.string a0, undef, .string ⟨#[]⟩, undef, undef, undef, undef, undef, undef, undef, undef, undef, undef, undef, undef, undef], []⟩ w ?_ [0] _ _ (by kernel_rfl)))
  refine wp_seq (wp_region (wpOps_run [2] ⟨#[.string a0, undef, .string ⟨#[]⟩, .pointer (some ⟨w.heap.size, 0, none⟩), undef, undef, .agg marks45, undef, undef, undef, undef, undef, undef, undef, undef, undef], []⟩ (w.alloc (.cells zero45 64)) ?_ [0, 1] _ _ (by kernel_rfl)))
  have hst := run_storeAt_new (P := Try.prog) w 64 zero45 marks45 size64 rfl one64
  refine wpOps_store 2 [] rfl rfl rfl hst ?_
  refine wp_seq ?_
  have HG := Aside0.mk (heap_alloc_last w (.cells marks45 64))
  have HB : Aside0 (Below w.heap.size w (w.alloc (.cells marks45 64))) := ⟨below_alloc (Below.refl _ _) _⟩
  clear hst
  go_wp2_with (refine wpList_load_row rfl 64 _ rfl w.heap.size rfl 64 marks45 (0, 0) _ HG.out Try.underlying64 rfl (by kernel_rfl) ?_)
  go_loopw [8] (fun n wr => ∃ k : Nat, n = .int .i64 k ∧ k ≤ 45 ∧ Aside0 (markFrom 0 a0 = markFrom k a0) ∧ Aside0 (Below w.heap.size w wr)) (fun n _ => 45 - (intOf n).toNat)
  case atStart => exact ⟨0, rfl, by omega, ⟨rfl⟩, HB⟩
  case round =>
    clear HB HG
    obtain ⟨k, rfl, hk, HM, HB⟩ := hrel
    by_cases hlt : k < 45
    · have hidx := fun W => index64 W k hlt
      have hst := mark_step k hlt a0
      have hcall := fun W => pref_calls a0 (marks.getD k []) HL.out W
      generalize marks.getD k [] = m at *
      cases hp : prefB m a0 with
      | true =>
        have HC := Aside0.mk (fun W => hp ▸ hcall W)
        rw [hp, if_pos rfl] at hst
        have HS := Aside0.mk (show (⟨m.toArray⟩ : ByteArray) = r by rw [← HR.out, HM.out, hst])
        clear hst hcall hp
        go_wp2_with (go_at_call 21; refine (HC.out _).mono ?_; rintro e w' ⟨rfl, ⟨nd, rfl⟩⟩)
        go_ret
        exact ⟨by rw [← HS.out]; rfl, pw_below_drewN HB.out _⟩
      | false =>
        have HC := Aside0.mk (fun W => hp ▸ hcall W)
        rw [hp, if_neg (by simp)] at hst
        have HS := Aside0.mk (HM.out.trans hst)
        clear hst hcall hp
        go_wp2_with (go_at_call 21; refine (HC.out _).mono ?_; rintro e w' ⟨rfl, ⟨nd, rfl⟩⟩)
        exact ⟨⟨k + 1, by go_num, by omega, HS, ⟨pw_below_drewN HB.out _⟩⟩, by simp [intOf]; omega⟩
    · obtain rfl : k = 45 := by omega
      have HS := Aside0.mk (show (⟨#[]⟩ : ByteArray) = r by rw [← HR.out, HM.out, mark_end])
      clear hlt hk
      go_wp2
      go_ret
      exact ⟨by rw [← HS.out]; rfl, HB.out⟩
end Go.Proofs.Ytgelabhiebmadaa.P
end
section
namespace Go.Proofs.Ytgelabhiebmadaa.P
open Go.RowKit Go.Proofs.YtgelabhiebmadaaW.PrintWords Go.Proofs.YtgelabhiebmadaaW.PrintLast Go.Proofs.YtgelabhiebmadaaW.PrintMore
attribute [local go_sem] max2_int min2_int max_two min_two max_three min_three max_four min_four   
set_option linter.unusedVariables false
set_option linter.unusedSimpArgs false
def lex_token.f (k : Nat) (a0 : ByteArray) : Option (Int × ByteArray × Int × Int × Int × Int) := if 0 < (a0.size : Int) then ((lex_letter.f (bt a0 0)).bind fun t114 => (if t114 = true then ((lex_span_more.f a0).bind fun t115 => (if 0 ≤ t115 then (if t115 ≤ (a0.size : Int) then (if t115 > 31 then (some (1, a0.extract 0 (t115 : Int).toNat, 0, 0, 0, 2)) else ((lex_Word.f (a0.extract 0 (t115 : Int).toNat)).bind fun t117 => (if t117 = true then (some (2, a0.extract 0 (t115 : Int).toNat, 0, 0, 0, 0)) else (some (1, a0.extract 0 (t115 : Int).toNat, 0, 0, 0, 0))))) else (none)) else (none))) else ((lex_digit.f (bt a0 0)).bind fun t118 => (if t118 = true then ((lex_number.f a0).bind fun bt119 => (some (bt119.1, bt119.2.1, bt119.2.2.1, bt119.2.2.2.1, bt119.2.2.2.2.1, bt119.2.2.2.2.2))) else (if (bt a0 0) = 39 then ((lex_char.f k a0).bind fun bt125 => (some (bt125.1, bt125.2.1, bt125.2.2.1, bt125.2.2.2.1, bt125.2.2.2.2.1, bt125.2.2.2.2.2))) else ((lex_mark.f a0).bind fun t131 => (if t131.toList = ([] : List UInt8) then (some (0, (⟨#[]⟩ : ByteArray), 0, 0, 0, 3)) else (some (4, t131, 0, 0, 0, 0))))))))) else (none)
theorem lex_token.mono : ∀ a0 k, LeO (lex_token.f k a0) (lex_token.f (k + 1) a0) := by
  intro a0 k
  unfold lex_token.f
  repeat' first
      | (with_reducible exact lex_char.mono _ _)
      | (with_reducible exact LeO.refl _)
      | (with_reducible exact LeO.none _)
      | (with_reducible refine LeO.ite ?_ ?_)
      | (with_reducible refine LeO.bind ?_ (fun _ => ?_))
      | exact lex_char.mono _ _
      | exact LeO.none _
      | refine LeO.ite ?_ ?_
      | refine LeO.bind ?_ (fun _ => ?_)
set_option maxHeartbeats 8000000 in
set_option maxRecDepth 100000 in
theorem lex_token.calls (k : Nat) (a0 : ByteArray) (r1 : Int) (r2 : ByteArray) (r3 : Int) (r4 : Int) (r5 : Int) (r6 : Int) (w : World) (h : lex_token.f k a0 = some (r1, r2, r3, r4, r5, r6)) :
    Calls Try.prog 16 #[.string a0] w fun e w' => e = .returned (.tuple #[.agg #[.int .i64 r1, .string r2, .int .u32 r3, .int .i64 r4, .int .i64 r5], .int .i64 r6]) ∧ Below w.heap.size w w' := by
  have hu33 := Try.underlying33
  have HB := Aside0.mk (Below.refl w.heap.size w)
  have H : (if 0 < (a0.size : Int) then ((lex_letter.f (bt a0 0)).bind fun t114 => (if t114 = true then ((lex_span_more.f a0).bind fun t115 => (if 0 ≤ t115 then (if t115 ≤ (a0.size : Int) then (if t115 > 31 then (some (1, a0.extract 0 (t115 : Int).toNat, 0, 0, 0, 2)) else ((lex_Word.f (a0.extract 0 (t115 : Int).toNat)).bind fun t117 => (if t117 = true then (some (2, a0.extract 0 (t115 : Int).toNat, 0, 0, 0, 0)) else (some (1, a0.extract 0 (t115 : Int).toNat, 0, 0, 0, 0))))) else (none)) else (none))) else ((lex_digit.f (bt a0 0)).bind fun t118 => (if t118 = true then ((lex_number.f a0).bind fun bt119 => (some (bt119.1, bt119.2.1, bt119.2.2.1, bt119.2.2.2.1, bt119.2.2.2.2.1, bt119.2.2.2.2.2))) else (if (bt a0 0) = 39 then ((lex_char.f k a0).bind fun bt125 => (some (bt125.1, bt125.2.1, bt125.2.2.1, bt125.2.2.2.1, bt125.2.2.2.2.1, bt125.2.2.2.2.2))) else ((lex_mark.f a0).bind fun t131 => (if t131.toList = ([] : List UInt8) then (some (0, (⟨#[]⟩ : ByteArray), 0, 0, 0, 3)) else (some (4, t131, 0, 0, 0, 0))))))))) else (none)) = some (r1, r2, r3, r4, r5, r6) := h
  clear h
  by_cases c2 : 0 < (a0.size : Int)
  · rw [if_pos c2] at H
    have c2b0 : decide (0 < (a0.size : Int)) = true := decide_eq_true c2
    have c2b1 : decide (0 < a0.size) = true := decide_eq_true (by omega)
    clear c2
    replace H := Option.bind_eq_some_iff.mp H
    obtain ⟨t114, A40, H⟩ := H
    replace H : (if t114 = true then ((lex_span_more.f a0).bind fun t115 => (if 0 ≤ t115 then (if t115 ≤ (a0.size : Int) then (if t115 > 31 then (some (1, a0.extract 0 (t115 : Int).toNat, 0, 0, 0, 2)) else ((lex_Word.f (a0.extract 0 (t115 : Int).toNat)).bind fun t117 => (if t117 = true then (some (2, a0.extract 0 (t115 : Int).toNat, 0, 0, 0, 0)) else (some (1, a0.extract 0 (t115 : Int).toNat, 0, 0, 0, 0))))) else (none)) else (none))) else ((lex_digit.f (bt a0 0)).bind fun t118 => (if t118 = true then ((lex_number.f a0).bind fun bt119 => (some (bt119.1, bt119.2.1, bt119.2.2.1, bt119.2.2.2.1, bt119.2.2.2.2.1, bt119.2.2.2.2.2))) else (if (bt a0 0) = 39 then ((lex_char.f k a0).bind fun bt125 => (some (bt125.1, bt125.2.1, bt125.2.2.1, bt125.2.2.2.1, bt125.2.2.2.2.1, bt125.2.2.2.2.2))) else ((lex_mark.f a0).bind fun t131 => (if t131.toList = ([] : List UInt8) then (some (0, (⟨#[]⟩ : ByteArray), 0, 0, 0, 3)) else (some (4, t131, 0, 0, 0, 0)))))))) = some (r1, r2, r3, r4, r5, r6) := H
    have A4 := Aside0.mk A40
    clear A40
    by_cases c5 : t114 = true
    · subst c5
      have H1 : ((lex_span_more.f a0).bind fun t115 => (if 0 ≤ t115 then (if t115 ≤ (a0.size : Int) then (if t115 > 31 then (some (1, a0.extract 0 (t115 : Int).toNat, 0, 0, 0, 2)) else ((lex_Word.f (a0.extract 0 (t115 : Int).toNat)).bind fun t117 => (if t117 = true then (some (2, a0.extract 0 (t115 : Int).toNat, 0, 0, 0, 0)) else (some (1, a0.extract 0 (t115 : Int).toNat, 0, 0, 0, 0))))) else (none)) else (none))) = some (r1, r2, r3, r4, r5, r6) := by rw [if_pos rfl] at H; exact H
      clear H
      have H := H1
      clear H1
      replace H := Option.bind_eq_some_iff.mp H
      obtain ⟨t115, A60, H⟩ := H
      replace H : (if 0 ≤ t115 then (if t115 ≤ (a0.size : Int) then (if t115 > 31 then (some (1, a0.extract 0 (t115 : Int).toNat, 0, 0, 0, 2)) else ((lex_Word.f (a0.extract 0 (t115 : Int).toNat)).bind fun t117 => (if t117 = true then (some (2, a0.extract 0 (t115 : Int).toNat, 0, 0, 0, 0)) else (some (1, a0.extract 0 (t115 : Int).toNat, 0, 0, 0, 0))))) else (none)) else (none)) = some (r1, r2, r3, r4, r5, r6) := H
      have A6 := Aside0.mk A60
      clear A60
      by_cases c7 : 0 ≤ t115
      · rw [if_pos c7] at H
        have c7b0 := eq_true c7
        have c7b1 : decide (0 ≤ t115) = true := decide_eq_true c7
        clear c7
        by_cases c8 : t115 ≤ (a0.size : Int)
        · rw [if_pos c8] at H
          have c8b0 := eq_true c8
          have c8b1 : decide (t115 ≤ (a0.size : Int)) = true := decide_eq_true c8
          clear c8
          by_cases c9 : t115 > 31
          · rw [if_pos c9] at H
            have c9b0 : decide (31 < t115) = true := decide_eq_true c9
            clear c9
            simp only [Option.some.injEq, Prod.mk.injEq] at H
            obtain ⟨rfl, rfl, rfl, rfl, rfl, rfl⟩ := H
            go_enter Try.func16, Try.ntmps16
            go_wp2_with (first | ((with_reducible refine gate_dst (N := 2) rfl ?_); refine box_event ?hg (N := 2) ?hd (cs := #[.int .i64 0, .string (⟨#[]⟩ : ByteArray), .int .u32 0, .int .i64 0, .int .i64 0]) (t := 33) ?hr ?_; (case hd => rfl); (case hg => rfl); (case hr => first | (go_simp; done) | (go_simp; rfl)); intro gb113 hg w10 hbox hb; have n0_ := Aside0.mk (below_step (by repeat (first | (with_reducible first | exact HB.out | apply below_alloc | apply pw_below_drewN | apply below_drew1) | exact HB.out)) hb); have n1_ := Aside0.mk (hbox); have n2_ := Aside0.mk ((by rw [hg]; exact (below_size (by repeat (first | (with_reducible first | exact HB.out | apply below_alloc | apply pw_below_drewN | apply below_drew1) | exact HB.out))) : w.heap.size ≤ gb113)); have n3_ := Aside0.mk ((by rw [hg]; exact (below_size (by repeat (first | (with_reducible first | exact HB.out | apply below_alloc | apply pw_below_drewN | apply below_drew1) | exact HB.out))) : w.heap.size ≤ gb113)); clear HB; have HB := n0_; have BK113 := n1_; have GW113 := n2_; have GE113 := n3_; clear n0_ n1_ n2_ n3_; clear hb hbox hg; have p3 : 0 ≤ (0 : Int) := (by omega); have q3 : 0 < a0.size := (by have : (0 : Int) < (a0.size : Int) := of_decide_eq_true (by first | (with_reducible assumption) | assumption); omega); have hx3 : ∀ h : 0 < a0.size, ((a0[0]'h).toNat : Int) = bt a0 0 := bt_at a0 0; clear p3; have qi3 : (0 < (a0.size : Int)) = True := eq_true (of_decide_eq_true (by first | (with_reducible assumption) | assumption)); replace q3 := eq_true q3) | ((with_reducible refine gate_callee (f := 25) rfl ?_); refine goesL_ (some 10) rfl rfl Try.func25 (by kernel_rfl) rfl #[.int .u8 (bt a0 0)] rfl (by (try simp only [List.map_toArray, List.map_cons, List.map_nil]); first | done | rfl | (simp only [List.length_drop, List.length_take]; rfl)) ?_; (with_reducible refine (lex_letter.calls (bt a0 0) true _ A4.out).mono ?_); rintro e w' ⟨rfl, ⟨nd, rfl⟩⟩; refine ⟨_, rfl, ?_⟩; (try (rw [drewN_self w10]; generalize hq_ : World.drewN w10 _ = w10; have n0_ : Aside0 (w10.heap[gb113]? = some (.cells #[.int .i64 0, .string (⟨#[]⟩ : ByteArray), .int .u32 0, .int .i64 0, .int .i64 0] 33 (0, 0))) := ⟨by rw [← hq_]; exact (by (with_reducible repeat (first | refine blk_drewN ?_ _ | refine blk_drew ?_ | refine blk_alloc ?_ _)); exact BK113.out)⟩; have n1_ : Aside0 (Below w.heap.size w w10) := ⟨by rw [← hq_]; exact (by repeat (first | (with_reducible first | exact HB.out | apply below_alloc | apply pw_below_drewN | apply below_drew1 | refine below_set ?_ GE113.out) | exact HB.out))⟩; clear BK113 HB hq_; have BK113 := n0_; have HB := n1_; clear n0_ n1_))) | ((with_reducible refine gate_callee (f := 23) rfl ?_); refine goesL_ (some 12) rfl rfl Try.func23 (by kernel_rfl) rfl #[.string a0, .func (.func 26) #[] #[]] rfl (by (try simp only [List.map_toArray, List.map_cons, List.map_nil]); first | done | rfl | (simp only [List.length_drop, List.length_take]; rfl)) ?_; (with_reducible refine (lex_span_more.calls a0  t115 _ A6.out).mono ?_); rintro e w' ⟨rfl, ⟨nd, rfl⟩⟩; refine ⟨_, rfl, ?_⟩; (try (rw [drewN_self w10]; generalize hq_ : World.drewN w10 _ = w10; have n0_ : Aside0 (w10.heap[gb113]? = some (.cells #[.int .i64 0, .string (⟨#[]⟩ : ByteArray), .int .u32 0, .int .i64 0, .int .i64 0] 33 (0, 0))) := ⟨by rw [← hq_]; exact (by (with_reducible repeat (first | refine blk_drewN ?_ _ | refine blk_drew ?_ | refine blk_alloc ?_ _)); exact BK113.out)⟩; have n1_ : Aside0 (Below w.heap.size w w10) := ⟨by rw [← hq_]; exact (by repeat (first | (with_reducible first | exact HB.out | apply below_alloc | apply pw_below_drewN | apply below_drew1 | refine below_set ?_ GE113.out) | exact HB.out))⟩; clear BK113 HB hq_; have BK113 := n0_; have HB := n1_; clear n0_ n1_))) | ((with_reducible refine gate_dst (N := 5) rfl ?_); refine box_event ?hg (N := 5) ?hd (cs := #[.int .i64 0, .string (⟨#[]⟩ : ByteArray), .int .u32 0, .int .i64 0, .int .i64 0]) (t := 33) ?hr ?_; (case hd => rfl); (case hg => rfl); (case hr => first | (go_simp; done) | (go_simp; rfl)); intro gb116 hg w11 hbox hb; have n0_ := Aside0.mk (blk_below (g := gb113) (o := .cells #[.int .i64 0, .string (⟨#[]⟩ : ByteArray), .int .u32 0, .int .i64 0, .int .i64 0] 33 (0, 0)) (by (with_reducible repeat (first | refine blk_drewN ?_ _ | refine blk_drew ?_ | refine blk_alloc ?_ _)); exact BK113.out) hb); have n1_ := Aside0.mk (below_step (by repeat (first | (with_reducible first | exact HB.out | apply below_alloc | apply pw_below_drewN | apply below_drew1 | refine below_set ?_ GE113.out) | exact HB.out)) hb); have n2_ := Aside0.mk (hbox); have n3_ := Aside0.mk ((by rw [hg]; exact (below_size (by repeat (first | (with_reducible first | exact HB.out | apply below_alloc | apply pw_below_drewN | apply below_drew1 | refine below_set ?_ GE113.out) | exact HB.out))) : w.heap.size ≤ gb116)); have n4_ := Aside0.mk ((by rw [hg]; exact (below_size (by repeat (first | (with_reducible first | exact HB.out | apply below_alloc | apply pw_below_drewN | apply below_drew1 | refine below_set ?_ GE113.out) | exact HB.out))) : w.heap.size ≤ gb116)); have n5_ := Aside0.mk ((by rw [hg]; exact Nat.ne_of_lt (blk_lt (g := gb113) (o := .cells #[.int .i64 0, .string (⟨#[]⟩ : ByteArray), .int .u32 0, .int .i64 0, .int .i64 0] 33 (0, 0)) (by (with_reducible repeat (first | refine blk_drewN ?_ _ | refine blk_drew ?_ | refine blk_alloc ?_ _)); exact BK113.out)) : gb113 ≠ gb116)); have n6_ := Aside0.mk ((by rw [hg]; exact Nat.ne_of_gt (blk_lt (g := gb113) (o := .cells #[.int .i64 0, .string (⟨#[]⟩ : ByteArray), .int .u32 0, .int .i64 0, .int .i64 0] 33 (0, 0)) (by (with_reducible repeat (first | refine blk_drewN ?_ _ | refine blk_drew ?_ | refine blk_alloc ?_ _)); exact BK113.out)) : gb116 ≠ gb113)); clear BK113; clear HB; have BK113 := n0_; have HB := n1_; have BK116 := n2_; have GW116 := n3_; have GE116 := n4_; have NB113_116 := n5_; have NB116_113 := n6_; clear n0_ n1_ n2_ n3_ n4_ n5_ n6_; clear hb hbox hg; have hnb12 := NB116_113.out; have hnc12 := NB113_116.out; have hcz13_0 : w11.cell? ⟨gb116, 0, none⟩ = some (.int .i64 0) := (blk_cell BK116.out 0).trans rfl; have hcz13_1 : w11.cell? ⟨gb116, 1, none⟩ = some (.string (⟨#[]⟩ : ByteArray)) := (blk_cell BK116.out 1).trans rfl; have hcz13_2 : w11.cell? ⟨gb116, 2, none⟩ = some (.int .u32 0) := (blk_cell BK116.out 2).trans rfl; have hcz13_3 : w11.cell? ⟨gb116, 3, none⟩ = some (.int .i64 0) := (blk_cell BK116.out 3).trans rfl; have hcz13_4 : w11.cell? ⟨gb116, 4, none⟩ = some (.int .i64 0) := (blk_cell BK116.out 4).trans rfl; have hfz13_0 := blk_frozen BK116.out 0; have hfz13_1 := blk_frozen BK116.out 1; have hfz13_2 := blk_frozen BK116.out 2; have hfz13_3 := blk_frozen BK116.out 3; have hfz13_4 := blk_frozen BK116.out 4; have hcz14_0 : w11.cell? ⟨gb113, 0, none⟩ = some (.int .i64 0) := (blk_cell BK113.out 0).trans rfl; have hcz14_1 : w11.cell? ⟨gb113, 1, none⟩ = some (.string (⟨#[]⟩ : ByteArray)) := (blk_cell BK113.out 1).trans rfl; have hcz14_2 : w11.cell? ⟨gb113, 2, none⟩ = some (.int .u32 0) := (blk_cell BK113.out 2).trans rfl; have hcz14_3 : w11.cell? ⟨gb113, 3, none⟩ = some (.int .i64 0) := (blk_cell BK113.out 3).trans rfl; have hcz14_4 : w11.cell? ⟨gb113, 4, none⟩ = some (.int .i64 0) := (blk_cell BK113.out 4).trans rfl; have hfz14_0 := blk_frozen BK113.out 0; have hfz14_1 := blk_frozen BK113.out 1; have hfz14_2 := blk_frozen BK113.out 2; have hfz14_3 := blk_frozen BK113.out 3; have hfz14_4 := blk_frozen BK113.out 4))
            refine bodyPost_ret (results_ct rfl _ _ gb113 33 #[.int .i64 1, .string (a0.extract 0 (t115 : Int).toNat), .int .u32 0, .int .i64 0, .int .i64 0] (0, 0) _ rfl (by (with_reducible repeat (first | refine blk_drewN ?_ _ | refine blk_drew ?_ | refine blk_alloc ?_ _)); refine blk_put (cs := #[.int .i64 1, .string (a0.extract 0 (t115 : Int).toNat), .int .u32 0, .int .i64 0, .int .i64 0]) ?_ 4 _ rfl; (with_reducible repeat (first | refine blk_drewN ?_ _ | refine blk_drew ?_ | refine blk_alloc ?_ _)); refine blk_put (cs := #[.int .i64 1, .string (a0.extract 0 (t115 : Int).toNat), .int .u32 0, .int .i64 0, .int .i64 0]) ?_ 3 _ rfl; (with_reducible repeat (first | refine blk_drewN ?_ _ | refine blk_drew ?_ | refine blk_alloc ?_ _)); refine blk_put (cs := #[.int .i64 1, .string (a0.extract 0 (t115 : Int).toNat), .int .u32 0, .int .i64 0, .int .i64 0]) ?_ 2 _ rfl; (with_reducible repeat (first | refine blk_drewN ?_ _ | refine blk_drew ?_ | refine blk_alloc ?_ _)); refine blk_put (cs := #[.int .i64 1, .string (⟨#[]⟩ : ByteArray), .int .u32 0, .int .i64 0, .int .i64 0]) ?_ 1 _ rfl; (with_reducible repeat (first | refine blk_drewN ?_ _ | refine blk_drew ?_ | refine blk_alloc ?_ _)); refine blk_put (cs := #[.int .i64 0, .string (⟨#[]⟩ : ByteArray), .int .u32 0, .int .i64 0, .int .i64 0]) ?_ 0 _ rfl; (with_reducible repeat (first | refine blk_drewN ?_ _ | refine blk_drew ?_ | refine blk_alloc ?_ _)); refine blk_far ?_ NB113_116.out _; (with_reducible repeat (first | refine blk_drewN ?_ _ | refine blk_drew ?_ | refine blk_alloc ?_ _)); refine blk_far ?_ NB113_116.out _; (with_reducible repeat (first | refine blk_drewN ?_ _ | refine blk_drew ?_ | refine blk_alloc ?_ _)); refine blk_far ?_ NB113_116.out _; (with_reducible repeat (first | refine blk_drewN ?_ _ | refine blk_drew ?_ | refine blk_alloc ?_ _)); refine blk_far ?_ NB113_116.out _; (with_reducible repeat (first | refine blk_drewN ?_ _ | refine blk_drew ?_ | refine blk_alloc ?_ _)); refine blk_far ?_ NB113_116.out _; (with_reducible repeat (first | refine blk_drewN ?_ _ | refine blk_drew ?_ | refine blk_alloc ?_ _)); exact BK113.out) Try.underlying33 rfl (by kernel_rfl)) rfl ?_
            exact ⟨by first | rfl | (simp [errW_none, errW_some] <;> rfl) | (simp [*, errW_none, errW_some] <;> rfl), by repeat (first | (with_reducible first | exact HB.out | apply below_alloc | apply pw_below_drewN | apply below_drew1 | refine below_set ?_ GE113.out | refine below_set ?_ GE116.out) | exact HB.out)⟩
          · rw [if_neg c9] at H
            have c9b0 : decide (31 < t115) = false := decide_eq_false c9
            clear c9
            replace H := Option.bind_eq_some_iff.mp H
            obtain ⟨t117, A150, H⟩ := H
            replace H : (if t117 = true then (some (2, a0.extract 0 (t115 : Int).toNat, 0, 0, 0, 0)) else (some (1, a0.extract 0 (t115 : Int).toNat, 0, 0, 0, 0))) = some (r1, r2, r3, r4, r5, r6) := H
            have A15 := Aside0.mk A150
            clear A150
            by_cases c16 : t117 = true
            · subst c16
              have H1 : (some (2, a0.extract 0 (t115 : Int).toNat, 0, 0, 0, 0)) = some (r1, r2, r3, r4, r5, r6) := by rw [if_pos rfl] at H; exact H
              clear H
              have H := H1
              clear H1
              simp only [Option.some.injEq, Prod.mk.injEq] at H
              obtain ⟨rfl, rfl, rfl, rfl, rfl, rfl⟩ := H
              go_enter Try.func16, Try.ntmps16
              go_wp2_with (first | ((with_reducible refine gate_dst (N := 2) rfl ?_); refine box_event ?hg (N := 2) ?hd (cs := #[.int .i64 0, .string (⟨#[]⟩ : ByteArray), .int .u32 0, .int .i64 0, .int .i64 0]) (t := 33) ?hr ?_; (case hd => rfl); (case hg => rfl); (case hr => first | (go_simp; done) | (go_simp; rfl)); intro gb113 hg w17 hbox hb; have n0_ := Aside0.mk (below_step (by repeat (first | (with_reducible first | exact HB.out | apply below_alloc | apply pw_below_drewN | apply below_drew1) | exact HB.out)) hb); have n1_ := Aside0.mk (hbox); have n2_ := Aside0.mk ((by rw [hg]; exact (below_size (by repeat (first | (with_reducible first | exact HB.out | apply below_alloc | apply pw_below_drewN | apply below_drew1) | exact HB.out))) : w.heap.size ≤ gb113)); have n3_ := Aside0.mk ((by rw [hg]; exact (below_size (by repeat (first | (with_reducible first | exact HB.out | apply below_alloc | apply pw_below_drewN | apply below_drew1) | exact HB.out))) : w.heap.size ≤ gb113)); clear HB; have HB := n0_; have BK113 := n1_; have GW113 := n2_; have GE113 := n3_; clear n0_ n1_ n2_ n3_; clear hb hbox hg; have p3 : 0 ≤ (0 : Int) := (by omega); have q3 : 0 < a0.size := (by have : (0 : Int) < (a0.size : Int) := of_decide_eq_true (by first | (with_reducible assumption) | assumption); omega); have hx3 : ∀ h : 0 < a0.size, ((a0[0]'h).toNat : Int) = bt a0 0 := bt_at a0 0; clear p3; have qi3 : (0 < (a0.size : Int)) = True := eq_true (of_decide_eq_true (by first | (with_reducible assumption) | assumption)); replace q3 := eq_true q3) | ((with_reducible refine gate_callee (f := 25) rfl ?_); refine goesL_ (some 10) rfl rfl Try.func25 (by kernel_rfl) rfl #[.int .u8 (bt a0 0)] rfl (by (try simp only [List.map_toArray, List.map_cons, List.map_nil]); first | done | rfl | (simp only [List.length_drop, List.length_take]; rfl)) ?_; (with_reducible refine (lex_letter.calls (bt a0 0) true _ A4.out).mono ?_); rintro e w' ⟨rfl, ⟨nd, rfl⟩⟩; refine ⟨_, rfl, ?_⟩; (try (rw [drewN_self w17]; generalize hq_ : World.drewN w17 _ = w17; have n0_ : Aside0 (w17.heap[gb113]? = some (.cells #[.int .i64 0, .string (⟨#[]⟩ : ByteArray), .int .u32 0, .int .i64 0, .int .i64 0] 33 (0, 0))) := ⟨by rw [← hq_]; exact (by (with_reducible repeat (first | refine blk_drewN ?_ _ | refine blk_drew ?_ | refine blk_alloc ?_ _)); exact BK113.out)⟩; have n1_ : Aside0 (Below w.heap.size w w17) := ⟨by rw [← hq_]; exact (by repeat (first | (with_reducible first | exact HB.out | apply below_alloc | apply pw_below_drewN | apply below_drew1 | refine below_set ?_ GE113.out) | exact HB.out))⟩; clear BK113 HB hq_; have BK113 := n0_; have HB := n1_; clear n0_ n1_))) | ((with_reducible refine gate_callee (f := 23) rfl ?_); refine goesL_ (some 12) rfl rfl Try.func23 (by kernel_rfl) rfl #[.string a0, .func (.func 26) #[] #[]] rfl (by (try simp only [List.map_toArray, List.map_cons, List.map_nil]); first | done | rfl | (simp only [List.length_drop, List.length_take]; rfl)) ?_; (with_reducible refine (lex_span_more.calls a0  t115 _ A6.out).mono ?_); rintro e w' ⟨rfl, ⟨nd, rfl⟩⟩; refine ⟨_, rfl, ?_⟩; (try (rw [drewN_self w17]; generalize hq_ : World.drewN w17 _ = w17; have n0_ : Aside0 (w17.heap[gb113]? = some (.cells #[.int .i64 0, .string (⟨#[]⟩ : ByteArray), .int .u32 0, .int .i64 0, .int .i64 0] 33 (0, 0))) := ⟨by rw [← hq_]; exact (by (with_reducible repeat (first | refine blk_drewN ?_ _ | refine blk_drew ?_ | refine blk_alloc ?_ _)); exact BK113.out)⟩; have n1_ : Aside0 (Below w.heap.size w w17) := ⟨by rw [← hq_]; exact (by repeat (first | (with_reducible first | exact HB.out | apply below_alloc | apply pw_below_drewN | apply below_drew1 | refine below_set ?_ GE113.out) | exact HB.out))⟩; clear BK113 HB hq_; have BK113 := n0_; have HB := n1_; clear n0_ n1_))) | ((with_reducible refine gate_dst (N := 5) rfl ?_); refine box_event ?hg (N := 5) ?hd (cs := #[.int .i64 0, .string (⟨#[]⟩ : ByteArray), .int .u32 0, .int .i64 0, .int .i64 0]) (t := 33) ?hr ?_; (case hd => rfl); (case hg => rfl); (case hr => first | (go_simp; done) | (go_simp; rfl)); intro gb116 hg w18 hbox hb; have n0_ := Aside0.mk (blk_below (g := gb113) (o := .cells #[.int .i64 0, .string (⟨#[]⟩ : ByteArray), .int .u32 0, .int .i64 0, .int .i64 0] 33 (0, 0)) (by (with_reducible repeat (first | refine blk_drewN ?_ _ | refine blk_drew ?_ | refine blk_alloc ?_ _)); exact BK113.out) hb); have n1_ := Aside0.mk (below_step (by repeat (first | (with_reducible first | exact HB.out | apply below_alloc | apply pw_below_drewN | apply below_drew1 | refine below_set ?_ GE113.out) | exact HB.out)) hb); have n2_ := Aside0.mk (hbox); have n3_ := Aside0.mk ((by rw [hg]; exact (below_size (by repeat (first | (with_reducible first | exact HB.out | apply below_alloc | apply pw_below_drewN | apply below_drew1 | refine below_set ?_ GE113.out) | exact HB.out))) : w.heap.size ≤ gb116)); have n4_ := Aside0.mk ((by rw [hg]; exact (below_size (by repeat (first | (with_reducible first | exact HB.out | apply below_alloc | apply pw_below_drewN | apply below_drew1 | refine below_set ?_ GE113.out) | exact HB.out))) : w.heap.size ≤ gb116)); have n5_ := Aside0.mk ((by rw [hg]; exact Nat.ne_of_lt (blk_lt (g := gb113) (o := .cells #[.int .i64 0, .string (⟨#[]⟩ : ByteArray), .int .u32 0, .int .i64 0, .int .i64 0] 33 (0, 0)) (by (with_reducible repeat (first | refine blk_drewN ?_ _ | refine blk_drew ?_ | refine blk_alloc ?_ _)); exact BK113.out)) : gb113 ≠ gb116)); have n6_ := Aside0.mk ((by rw [hg]; exact Nat.ne_of_gt (blk_lt (g := gb113) (o := .cells #[.int .i64 0, .string (⟨#[]⟩ : ByteArray), .int .u32 0, .int .i64 0, .int .i64 0] 33 (0, 0)) (by (with_reducible repeat (first | refine blk_drewN ?_ _ | refine blk_drew ?_ | refine blk_alloc ?_ _)); exact BK113.out)) : gb116 ≠ gb113)); clear BK113; clear HB; have BK113 := n0_; have HB := n1_; have BK116 := n2_; have GW116 := n3_; have GE116 := n4_; have NB113_116 := n5_; have NB116_113 := n6_; clear n0_ n1_ n2_ n3_ n4_ n5_ n6_; clear hb hbox hg; have hnb19 := NB116_113.out; have hnc19 := NB113_116.out; have hcz20_0 : w18.cell? ⟨gb116, 0, none⟩ = some (.int .i64 0) := (blk_cell BK116.out 0).trans rfl; have hcz20_1 : w18.cell? ⟨gb116, 1, none⟩ = some (.string (⟨#[]⟩ : ByteArray)) := (blk_cell BK116.out 1).trans rfl; have hcz20_2 : w18.cell? ⟨gb116, 2, none⟩ = some (.int .u32 0) := (blk_cell BK116.out 2).trans rfl; have hcz20_3 : w18.cell? ⟨gb116, 3, none⟩ = some (.int .i64 0) := (blk_cell BK116.out 3).trans rfl; have hcz20_4 : w18.cell? ⟨gb116, 4, none⟩ = some (.int .i64 0) := (blk_cell BK116.out 4).trans rfl; have hfz20_0 := blk_frozen BK116.out 0; have hfz20_1 := blk_frozen BK116.out 1; have hfz20_2 := blk_frozen BK116.out 2; have hfz20_3 := blk_frozen BK116.out 3; have hfz20_4 := blk_frozen BK116.out 4) | ((with_reducible refine gate_callee (f := 9) rfl ?_); refine goesL_ (some 22) rfl rfl Try.func9 (by kernel_rfl) rfl #[.string (a0.extract 0 (t115 : Int).toNat)] rfl (by (try simp only [List.map_toArray, List.map_cons, List.map_nil]); first | done | rfl | (simp only [List.length_drop, List.length_take]; rfl)) ?_; (with_reducible refine (lex_Word.calls (a0.extract 0 (t115 : Int).toNat) true _ A15.out).mono ?_); rintro e w' ⟨rfl, ⟨nd, rfl⟩⟩; refine ⟨_, rfl, ?_⟩; have hcz21_0 : w18.cell? ⟨gb113, 0, none⟩ = some (.int .i64 0) := (blk_cell BK113.out 0).trans rfl; have hcz21_1 : w18.cell? ⟨gb113, 1, none⟩ = some (.string (⟨#[]⟩ : ByteArray)) := (blk_cell BK113.out 1).trans rfl; have hcz21_2 : w18.cell? ⟨gb113, 2, none⟩ = some (.int .u32 0) := (blk_cell BK113.out 2).trans rfl; have hcz21_3 : w18.cell? ⟨gb113, 3, none⟩ = some (.int .i64 0) := (blk_cell BK113.out 3).trans rfl; have hcz21_4 : w18.cell? ⟨gb113, 4, none⟩ = some (.int .i64 0) := (blk_cell BK113.out 4).trans rfl; have hfz21_0 := blk_frozen BK113.out 0; have hfz21_1 := blk_frozen BK113.out 1; have hfz21_2 := blk_frozen BK113.out 2; have hfz21_3 := blk_frozen BK113.out 3; have hfz21_4 := blk_frozen BK113.out 4))
              refine bodyPost_ret (results_ct rfl _ _ gb113 33 #[.int .i64 2, .string (a0.extract 0 (t115 : Int).toNat), .int .u32 0, .int .i64 0, .int .i64 0] (0, 0) _ rfl (by (with_reducible repeat (first | refine blk_drewN ?_ _ | refine blk_drew ?_ | refine blk_alloc ?_ _)); refine blk_put (cs := #[.int .i64 2, .string (a0.extract 0 (t115 : Int).toNat), .int .u32 0, .int .i64 0, .int .i64 0]) ?_ 4 _ rfl; (with_reducible repeat (first | refine blk_drewN ?_ _ | refine blk_drew ?_ | refine blk_alloc ?_ _)); refine blk_put (cs := #[.int .i64 2, .string (a0.extract 0 (t115 : Int).toNat), .int .u32 0, .int .i64 0, .int .i64 0]) ?_ 3 _ rfl; (with_reducible repeat (first | refine blk_drewN ?_ _ | refine blk_drew ?_ | refine blk_alloc ?_ _)); refine blk_put (cs := #[.int .i64 2, .string (a0.extract 0 (t115 : Int).toNat), .int .u32 0, .int .i64 0, .int .i64 0]) ?_ 2 _ rfl; (with_reducible repeat (first | refine blk_drewN ?_ _ | refine blk_drew ?_ | refine blk_alloc ?_ _)); refine blk_put (cs := #[.int .i64 2, .string (⟨#[]⟩ : ByteArray), .int .u32 0, .int .i64 0, .int .i64 0]) ?_ 1 _ rfl; (with_reducible repeat (first | refine blk_drewN ?_ _ | refine blk_drew ?_ | refine blk_alloc ?_ _)); refine blk_put (cs := #[.int .i64 0, .string (⟨#[]⟩ : ByteArray), .int .u32 0, .int .i64 0, .int .i64 0]) ?_ 0 _ rfl; (with_reducible repeat (first | refine blk_drewN ?_ _ | refine blk_drew ?_ | refine blk_alloc ?_ _)); refine blk_far ?_ NB113_116.out _; (with_reducible repeat (first | refine blk_drewN ?_ _ | refine blk_drew ?_ | refine blk_alloc ?_ _)); refine blk_far ?_ NB113_116.out _; (with_reducible repeat (first | refine blk_drewN ?_ _ | refine blk_drew ?_ | refine blk_alloc ?_ _)); refine blk_far ?_ NB113_116.out _; (with_reducible repeat (first | refine blk_drewN ?_ _ | refine blk_drew ?_ | refine blk_alloc ?_ _)); refine blk_far ?_ NB113_116.out _; (with_reducible repeat (first | refine blk_drewN ?_ _ | refine blk_drew ?_ | refine blk_alloc ?_ _)); refine blk_far ?_ NB113_116.out _; (with_reducible repeat (first | refine blk_drewN ?_ _ | refine blk_drew ?_ | refine blk_alloc ?_ _)); refine blk_far ?_ NB113_116.out _; (with_reducible repeat (first | refine blk_drewN ?_ _ | refine blk_drew ?_ | refine blk_alloc ?_ _)); exact BK113.out) Try.underlying33 rfl (by kernel_rfl)) rfl ?_
              exact ⟨by first | rfl | (simp [errW_none, errW_some] <;> rfl) | (simp [*, errW_none, errW_some] <;> rfl), by repeat (first | (with_reducible first | exact HB.out | apply below_alloc | apply pw_below_drewN | apply below_drew1 | refine below_set ?_ GE113.out | refine below_set ?_ GE116.out) | exact HB.out)⟩
            · replace c16 := Bool.eq_false_iff.mpr c16
              subst c16
              have H1 : (some (1, a0.extract 0 (t115 : Int).toNat, 0, 0, 0, 0)) = some (r1, r2, r3, r4, r5, r6) := by rw [if_neg (show ¬ (false = true) by decide)] at H; exact H
              clear H
              have H := H1
              clear H1
              simp only [Option.some.injEq, Prod.mk.injEq] at H
              obtain ⟨rfl, rfl, rfl, rfl, rfl, rfl⟩ := H
              go_enter Try.func16, Try.ntmps16
              go_wp2_with (first | ((with_reducible refine gate_dst (N := 2) rfl ?_); refine box_event ?hg (N := 2) ?hd (cs := #[.int .i64 0, .string (⟨#[]⟩ : ByteArray), .int .u32 0, .int .i64 0, .int .i64 0]) (t := 33) ?hr ?_; (case hd => rfl); (case hg => rfl); (case hr => first | (go_simp; done) | (go_simp; rfl)); intro gb113 hg w22 hbox hb; have n0_ := Aside0.mk (below_step (by repeat (first | (with_reducible first | exact HB.out | apply below_alloc | apply pw_below_drewN | apply below_drew1) | exact HB.out)) hb); have n1_ := Aside0.mk (hbox); have n2_ := Aside0.mk ((by rw [hg]; exact (below_size (by repeat (first | (with_reducible first | exact HB.out | apply below_alloc | apply pw_below_drewN | apply below_drew1) | exact HB.out))) : w.heap.size ≤ gb113)); have n3_ := Aside0.mk ((by rw [hg]; exact (below_size (by repeat (first | (with_reducible first | exact HB.out | apply below_alloc | apply pw_below_drewN | apply below_drew1) | exact HB.out))) : w.heap.size ≤ gb113)); clear HB; have HB := n0_; have BK113 := n1_; have GW113 := n2_; have GE113 := n3_; clear n0_ n1_ n2_ n3_; clear hb hbox hg; have p3 : 0 ≤ (0 : Int) := (by omega); have q3 : 0 < a0.size := (by have : (0 : Int) < (a0.size : Int) := of_decide_eq_true (by first | (with_reducible assumption) | assumption); omega); have hx3 : ∀ h : 0 < a0.size, ((a0[0]'h).toNat : Int) = bt a0 0 := bt_at a0 0; clear p3; have qi3 : (0 < (a0.size : Int)) = True := eq_true (of_decide_eq_true (by first | (with_reducible assumption) | assumption)); replace q3 := eq_true q3) | ((with_reducible refine gate_callee (f := 25) rfl ?_); refine goesL_ (some 10) rfl rfl Try.func25 (by kernel_rfl) rfl #[.int .u8 (bt a0 0)] rfl (by (try simp only [List.map_toArray, List.map_cons, List.map_nil]); first | done | rfl | (simp only [List.length_drop, List.length_take]; rfl)) ?_; (with_reducible refine (lex_letter.calls (bt a0 0) true _ A4.out).mono ?_); rintro e w' ⟨rfl, ⟨nd, rfl⟩⟩; refine ⟨_, rfl, ?_⟩; (try (rw [drewN_self w22]; generalize hq_ : World.drewN w22 _ = w22; have n0_ : Aside0 (w22.heap[gb113]? = some (.cells #[.int .i64 0, .string (⟨#[]⟩ : ByteArray), .int .u32 0, .int .i64 0, .int .i64 0] 33 (0, 0))) := ⟨by rw [← hq_]; exact (by (with_reducible repeat (first | refine blk_drewN ?_ _ | refine blk_drew ?_ | refine blk_alloc ?_ _)); exact BK113.out)⟩; have n1_ : Aside0 (Below w.heap.size w w22) := ⟨by rw [← hq_]; exact (by repeat (first | (with_reducible first | exact HB.out | apply below_alloc | apply pw_below_drewN | apply below_drew1 | refine below_set ?_ GE113.out) | exact HB.out))⟩; clear BK113 HB hq_; have BK113 := n0_; have HB := n1_; clear n0_ n1_))) | ((with_reducible refine gate_callee (f := 23) rfl ?_); refine goesL_ (some 12) rfl rfl Try.func23 (by kernel_rfl) rfl #[.string a0, .func (.func 26) #[] #[]] rfl (by (try simp only [List.map_toArray, List.map_cons, List.map_nil]); first | done | rfl | (simp only [List.length_drop, List.length_take]; rfl)) ?_; (with_reducible refine (lex_span_more.calls a0  t115 _ A6.out).mono ?_); rintro e w' ⟨rfl, ⟨nd, rfl⟩⟩; refine ⟨_, rfl, ?_⟩; (try (rw [drewN_self w22]; generalize hq_ : World.drewN w22 _ = w22; have n0_ : Aside0 (w22.heap[gb113]? = some (.cells #[.int .i64 0, .string (⟨#[]⟩ : ByteArray), .int .u32 0, .int .i64 0, .int .i64 0] 33 (0, 0))) := ⟨by rw [← hq_]; exact (by (with_reducible repeat (first | refine blk_drewN ?_ _ | refine blk_drew ?_ | refine blk_alloc ?_ _)); exact BK113.out)⟩; have n1_ : Aside0 (Below w.heap.size w w22) := ⟨by rw [← hq_]; exact (by repeat (first | (with_reducible first | exact HB.out | apply below_alloc | apply pw_below_drewN | apply below_drew1 | refine below_set ?_ GE113.out) | exact HB.out))⟩; clear BK113 HB hq_; have BK113 := n0_; have HB := n1_; clear n0_ n1_))) | ((with_reducible refine gate_dst (N := 5) rfl ?_); refine box_event ?hg (N := 5) ?hd (cs := #[.int .i64 0, .string (⟨#[]⟩ : ByteArray), .int .u32 0, .int .i64 0, .int .i64 0]) (t := 33) ?hr ?_; (case hd => rfl); (case hg => rfl); (case hr => first | (go_simp; done) | (go_simp; rfl)); intro gb116 hg w23 hbox hb; have n0_ := Aside0.mk (blk_below (g := gb113) (o := .cells #[.int .i64 0, .string (⟨#[]⟩ : ByteArray), .int .u32 0, .int .i64 0, .int .i64 0] 33 (0, 0)) (by (with_reducible repeat (first | refine blk_drewN ?_ _ | refine blk_drew ?_ | refine blk_alloc ?_ _)); exact BK113.out) hb); have n1_ := Aside0.mk (below_step (by repeat (first | (with_reducible first | exact HB.out | apply below_alloc | apply pw_below_drewN | apply below_drew1 | refine below_set ?_ GE113.out) | exact HB.out)) hb); have n2_ := Aside0.mk (hbox); have n3_ := Aside0.mk ((by rw [hg]; exact (below_size (by repeat (first | (with_reducible first | exact HB.out | apply below_alloc | apply pw_below_drewN | apply below_drew1 | refine below_set ?_ GE113.out) | exact HB.out))) : w.heap.size ≤ gb116)); have n4_ := Aside0.mk ((by rw [hg]; exact (below_size (by repeat (first | (with_reducible first | exact HB.out | apply below_alloc | apply pw_below_drewN | apply below_drew1 | refine below_set ?_ GE113.out) | exact HB.out))) : w.heap.size ≤ gb116)); have n5_ := Aside0.mk ((by rw [hg]; exact Nat.ne_of_lt (blk_lt (g := gb113) (o := .cells #[.int .i64 0, .string (⟨#[]⟩ : ByteArray), .int .u32 0, .int .i64 0, .int .i64 0] 33 (0, 0)) (by (with_reducible repeat (first | refine blk_drewN ?_ _ | refine blk_drew ?_ | refine blk_alloc ?_ _)); exact BK113.out)) : gb113 ≠ gb116)); have n6_ := Aside0.mk ((by rw [hg]; exact Nat.ne_of_gt (blk_lt (g := gb113) (o := .cells #[.int .i64 0, .string (⟨#[]⟩ : ByteArray), .int .u32 0, .int .i64 0, .int .i64 0] 33 (0, 0)) (by (with_reducible repeat (first | refine blk_drewN ?_ _ | refine blk_drew ?_ | refine blk_alloc ?_ _)); exact BK113.out)) : gb116 ≠ gb113)); clear BK113; clear HB; have BK113 := n0_; have HB := n1_; have BK116 := n2_; have GW116 := n3_; have GE116 := n4_; have NB113_116 := n5_; have NB116_113 := n6_; clear n0_ n1_ n2_ n3_ n4_ n5_ n6_; clear hb hbox hg; have hnb24 := NB116_113.out; have hnc24 := NB113_116.out; have hcz25_0 : w23.cell? ⟨gb116, 0, none⟩ = some (.int .i64 0) := (blk_cell BK116.out 0).trans rfl; have hcz25_1 : w23.cell? ⟨gb116, 1, none⟩ = some (.string (⟨#[]⟩ : ByteArray)) := (blk_cell BK116.out 1).trans rfl; have hcz25_2 : w23.cell? ⟨gb116, 2, none⟩ = some (.int .u32 0) := (blk_cell BK116.out 2).trans rfl; have hcz25_3 : w23.cell? ⟨gb116, 3, none⟩ = some (.int .i64 0) := (blk_cell BK116.out 3).trans rfl; have hcz25_4 : w23.cell? ⟨gb116, 4, none⟩ = some (.int .i64 0) := (blk_cell BK116.out 4).trans rfl; have hfz25_0 := blk_frozen BK116.out 0; have hfz25_1 := blk_frozen BK116.out 1; have hfz25_2 := blk_frozen BK116.out 2; have hfz25_3 := blk_frozen BK116.out 3; have hfz25_4 := blk_frozen BK116.out 4) | ((with_reducible refine gate_callee (f := 9) rfl ?_); refine goesL_ (some 22) rfl rfl Try.func9 (by kernel_rfl) rfl #[.string (a0.extract 0 (t115 : Int).toNat)] rfl (by (try simp only [List.map_toArray, List.map_cons, List.map_nil]); first | done | rfl | (simp only [List.length_drop, List.length_take]; rfl)) ?_; (with_reducible refine (lex_Word.calls (a0.extract 0 (t115 : Int).toNat) false _ A15.out).mono ?_); rintro e w' ⟨rfl, ⟨nd, rfl⟩⟩; refine ⟨_, rfl, ?_⟩; have hcz26_0 : w23.cell? ⟨gb113, 0, none⟩ = some (.int .i64 0) := (blk_cell BK113.out 0).trans rfl; have hcz26_1 : w23.cell? ⟨gb113, 1, none⟩ = some (.string (⟨#[]⟩ : ByteArray)) := (blk_cell BK113.out 1).trans rfl; have hcz26_2 : w23.cell? ⟨gb113, 2, none⟩ = some (.int .u32 0) := (blk_cell BK113.out 2).trans rfl; have hcz26_3 : w23.cell? ⟨gb113, 3, none⟩ = some (.int .i64 0) := (blk_cell BK113.out 3).trans rfl; have hcz26_4 : w23.cell? ⟨gb113, 4, none⟩ = some (.int .i64 0) := (blk_cell BK113.out 4).trans rfl; have hfz26_0 := blk_frozen BK113.out 0; have hfz26_1 := blk_frozen BK113.out 1; have hfz26_2 := blk_frozen BK113.out 2; have hfz26_3 := blk_frozen BK113.out 3; have hfz26_4 := blk_frozen BK113.out 4))
              refine bodyPost_ret (results_ct rfl _ _ gb113 33 #[.int .i64 1, .string (a0.extract 0 (t115 : Int).toNat), .int .u32 0, .int .i64 0, .int .i64 0] (0, 0) _ rfl (by (with_reducible repeat (first | refine blk_drewN ?_ _ | refine blk_drew ?_ | refine blk_alloc ?_ _)); refine blk_put (cs := #[.int .i64 1, .string (a0.extract 0 (t115 : Int).toNat), .int .u32 0, .int .i64 0, .int .i64 0]) ?_ 4 _ rfl; (with_reducible repeat (first | refine blk_drewN ?_ _ | refine blk_drew ?_ | refine blk_alloc ?_ _)); refine blk_put (cs := #[.int .i64 1, .string (a0.extract 0 (t115 : Int).toNat), .int .u32 0, .int .i64 0, .int .i64 0]) ?_ 3 _ rfl; (with_reducible repeat (first | refine blk_drewN ?_ _ | refine blk_drew ?_ | refine blk_alloc ?_ _)); refine blk_put (cs := #[.int .i64 1, .string (a0.extract 0 (t115 : Int).toNat), .int .u32 0, .int .i64 0, .int .i64 0]) ?_ 2 _ rfl; (with_reducible repeat (first | refine blk_drewN ?_ _ | refine blk_drew ?_ | refine blk_alloc ?_ _)); refine blk_put (cs := #[.int .i64 1, .string (⟨#[]⟩ : ByteArray), .int .u32 0, .int .i64 0, .int .i64 0]) ?_ 1 _ rfl; (with_reducible repeat (first | refine blk_drewN ?_ _ | refine blk_drew ?_ | refine blk_alloc ?_ _)); refine blk_put (cs := #[.int .i64 0, .string (⟨#[]⟩ : ByteArray), .int .u32 0, .int .i64 0, .int .i64 0]) ?_ 0 _ rfl; (with_reducible repeat (first | refine blk_drewN ?_ _ | refine blk_drew ?_ | refine blk_alloc ?_ _)); refine blk_far ?_ NB113_116.out _; (with_reducible repeat (first | refine blk_drewN ?_ _ | refine blk_drew ?_ | refine blk_alloc ?_ _)); refine blk_far ?_ NB113_116.out _; (with_reducible repeat (first | refine blk_drewN ?_ _ | refine blk_drew ?_ | refine blk_alloc ?_ _)); refine blk_far ?_ NB113_116.out _; (with_reducible repeat (first | refine blk_drewN ?_ _ | refine blk_drew ?_ | refine blk_alloc ?_ _)); refine blk_far ?_ NB113_116.out _; (with_reducible repeat (first | refine blk_drewN ?_ _ | refine blk_drew ?_ | refine blk_alloc ?_ _)); refine blk_far ?_ NB113_116.out _; (with_reducible repeat (first | refine blk_drewN ?_ _ | refine blk_drew ?_ | refine blk_alloc ?_ _)); exact BK113.out) Try.underlying33 rfl (by kernel_rfl)) rfl ?_
              exact ⟨by first | rfl | (simp [errW_none, errW_some] <;> rfl) | (simp [*, errW_none, errW_some] <;> rfl), by repeat (first | (with_reducible first | exact HB.out | apply below_alloc | apply pw_below_drewN | apply below_drew1 | refine below_set ?_ GE113.out | refine below_set ?_ GE116.out) | exact HB.out)⟩
        · rw [if_neg c8] at H
          exact absurd H (by simp)
      · rw [if_neg c7] at H
        exact absurd H (by simp)
    · replace c5 := Bool.eq_false_iff.mpr c5
      subst c5
      have H1 : ((lex_digit.f (bt a0 0)).bind fun t118 => (if t118 = true then ((lex_number.f a0).bind fun bt119 => (some (bt119.1, bt119.2.1, bt119.2.2.1, bt119.2.2.2.1, bt119.2.2.2.2.1, bt119.2.2.2.2.2))) else (if (bt a0 0) = 39 then ((lex_char.f k a0).bind fun bt125 => (some (bt125.1, bt125.2.1, bt125.2.2.1, bt125.2.2.2.1, bt125.2.2.2.2.1, bt125.2.2.2.2.2))) else ((lex_mark.f a0).bind fun t131 => (if t131.toList = ([] : List UInt8) then (some (0, (⟨#[]⟩ : ByteArray), 0, 0, 0, 3)) else (some (4, t131, 0, 0, 0, 0))))))) = some (r1, r2, r3, r4, r5, r6) := by rw [if_neg (show ¬ (false = true) by decide)] at H; exact H
      clear H
      have H := H1
      clear H1
      replace H := Option.bind_eq_some_iff.mp H
      obtain ⟨t118, A280, H⟩ := H
      replace H : (if t118 = true then ((lex_number.f a0).bind fun bt119 => (some (bt119.1, bt119.2.1, bt119.2.2.1, bt119.2.2.2.1, bt119.2.2.2.2.1, bt119.2.2.2.2.2))) else (if (bt a0 0) = 39 then ((lex_char.f k a0).bind fun bt125 => (some (bt125.1, bt125.2.1, bt125.2.2.1, bt125.2.2.2.1, bt125.2.2.2.2.1, bt125.2.2.2.2.2))) else ((lex_mark.f a0).bind fun t131 => (if t131.toList = ([] : List UInt8) then (some (0, (⟨#[]⟩ : ByteArray), 0, 0, 0, 3)) else (some (4, t131, 0, 0, 0, 0)))))) = some (r1, r2, r3, r4, r5, r6) := H
      have A28 := Aside0.mk A280
      clear A280
      by_cases c29 : t118 = true
      · subst c29
        have H1 : ((lex_number.f a0).bind fun bt119 => (some (bt119.1, bt119.2.1, bt119.2.2.1, bt119.2.2.2.1, bt119.2.2.2.2.1, bt119.2.2.2.2.2))) = some (r1, r2, r3, r4, r5, r6) := by rw [if_pos rfl] at H; exact H
        clear H
        have H := H1
        clear H1
        replace H := Option.bind_eq_some_iff.mp H
        obtain ⟨⟨t119, t120, t121, t122, t123, t124⟩, A300, H⟩ := H
        replace H : (some (t119, t120, t121, t122, t123, t124)) = some (r1, r2, r3, r4, r5, r6) := H
        have A30 := Aside0.mk A300
        clear A300
        simp only [Option.some.injEq, Prod.mk.injEq] at H
        obtain ⟨rfl, rfl, rfl, rfl, rfl, rfl⟩ := H
        go_enter Try.func16, Try.ntmps16
        go_wp2_with (first | ((with_reducible refine gate_dst (N := 2) rfl ?_); refine box_event ?hg (N := 2) ?hd (cs := #[.int .i64 0, .string (⟨#[]⟩ : ByteArray), .int .u32 0, .int .i64 0, .int .i64 0]) (t := 33) ?hr ?_; (case hd => rfl); (case hg => rfl); (case hr => first | (go_simp; done) | (go_simp; rfl)); intro gb113 hg w31 hbox hb; have n0_ := Aside0.mk (below_step (by repeat (first | (with_reducible first | exact HB.out | apply below_alloc | apply pw_below_drewN | apply below_drew1) | exact HB.out)) hb); have n1_ := Aside0.mk (hbox); have n2_ := Aside0.mk ((by rw [hg]; exact (below_size (by repeat (first | (with_reducible first | exact HB.out | apply below_alloc | apply pw_below_drewN | apply below_drew1) | exact HB.out))) : w.heap.size ≤ gb113)); have n3_ := Aside0.mk ((by rw [hg]; exact (below_size (by repeat (first | (with_reducible first | exact HB.out | apply below_alloc | apply pw_below_drewN | apply below_drew1) | exact HB.out))) : w.heap.size ≤ gb113)); clear HB; have HB := n0_; have BK113 := n1_; have GW113 := n2_; have GE113 := n3_; clear n0_ n1_ n2_ n3_; clear hb hbox hg; have p3 : 0 ≤ (0 : Int) := (by omega); have q3 : 0 < a0.size := (by have : (0 : Int) < (a0.size : Int) := of_decide_eq_true (by first | (with_reducible assumption) | assumption); omega); have hx3 : ∀ h : 0 < a0.size, ((a0[0]'h).toNat : Int) = bt a0 0 := bt_at a0 0; clear p3; have qi3 : (0 < (a0.size : Int)) = True := eq_true (of_decide_eq_true (by first | (with_reducible assumption) | assumption)); replace q3 := eq_true q3) | ((with_reducible refine gate_callee (f := 25) rfl ?_); refine goesL_ (some 10) rfl rfl Try.func25 (by kernel_rfl) rfl #[.int .u8 (bt a0 0)] rfl (by (try simp only [List.map_toArray, List.map_cons, List.map_nil]); first | done | rfl | (simp only [List.length_drop, List.length_take]; rfl)) ?_; (with_reducible refine (lex_letter.calls (bt a0 0) false _ A4.out).mono ?_); rintro e w' ⟨rfl, ⟨nd, rfl⟩⟩; refine ⟨_, rfl, ?_⟩; (try (rw [drewN_self w31]; generalize hq_ : World.drewN w31 _ = w31; have n0_ : Aside0 (w31.heap[gb113]? = some (.cells #[.int .i64 0, .string (⟨#[]⟩ : ByteArray), .int .u32 0, .int .i64 0, .int .i64 0] 33 (0, 0))) := ⟨by rw [← hq_]; exact (by (with_reducible repeat (first | refine blk_drewN ?_ _ | refine blk_drew ?_ | refine blk_alloc ?_ _)); exact BK113.out)⟩; have n1_ : Aside0 (Below w.heap.size w w31) := ⟨by rw [← hq_]; exact (by repeat (first | (with_reducible first | exact HB.out | apply below_alloc | apply pw_below_drewN | apply below_drew1 | refine below_set ?_ GE113.out) | exact HB.out))⟩; clear BK113 HB hq_; have BK113 := n0_; have HB := n1_; clear n0_ n1_)); have p27 : 0 ≤ (0 : Int) := (by omega); have q27 : 0 < a0.size := (by have : (0 : Int) < (a0.size : Int) := of_decide_eq_true (by first | (with_reducible assumption) | assumption); omega); have hx27 : ∀ h : 0 < a0.size, ((a0[0]'h).toNat : Int) = bt a0 0 := bt_at a0 0; clear p27; have qi27 : (0 < (a0.size : Int)) = True := eq_true (of_decide_eq_true (by first | (with_reducible assumption) | assumption)); replace q27 := eq_true q27) | ((with_reducible refine gate_callee (f := 27) rfl ?_); refine goesL_ (some 28) rfl rfl Try.func27 (by kernel_rfl) rfl #[.int .u8 (bt a0 0)] rfl (by (try simp only [List.map_toArray, List.map_cons, List.map_nil]); first | done | rfl | (simp only [List.length_drop, List.length_take]; rfl)) ?_; (with_reducible refine (lex_digit.calls (bt a0 0) true _ A28.out).mono ?_); rintro e w' ⟨rfl, ⟨nd, rfl⟩⟩; refine ⟨_, rfl, ?_⟩; (try (rw [drewN_self w31]; generalize hq_ : World.drewN w31 _ = w31; have n0_ : Aside0 (w31.heap[gb113]? = some (.cells #[.int .i64 0, .string (⟨#[]⟩ : ByteArray), .int .u32 0, .int .i64 0, .int .i64 0] 33 (0, 0))) := ⟨by rw [← hq_]; exact (by (with_reducible repeat (first | refine blk_drewN ?_ _ | refine blk_drew ?_ | refine blk_alloc ?_ _)); exact BK113.out)⟩; have n1_ : Aside0 (Below w.heap.size w w31) := ⟨by rw [← hq_]; exact (by repeat (first | (with_reducible first | exact HB.out | apply below_alloc | apply pw_below_drewN | apply below_drew1 | refine below_set ?_ GE113.out) | exact HB.out))⟩; clear BK113 HB hq_; have BK113 := n0_; have HB := n1_; clear n0_ n1_))) | ((with_reducible refine gate_callee (f := 28) rfl ?_); refine goesL_ (some 30) rfl rfl Try.func28 (by kernel_rfl) rfl #[.string a0] rfl (by (try simp only [List.map_toArray, List.map_cons, List.map_nil]); first | done | rfl | (simp only [List.length_drop, List.length_take]; rfl)) ?_; (with_reducible refine (lex_number.calls a0 t119 t120 t121 t122 t123 t124 _ A30.out).mono ?_); rintro e w32 ⟨rfl, hb⟩; refine ⟨_, rfl, ?_⟩; have n0_ := Aside0.mk (blk_below (g := gb113) (o := .cells #[.int .i64 0, .string (⟨#[]⟩ : ByteArray), .int .u32 0, .int .i64 0, .int .i64 0] 33 (0, 0)) (by (with_reducible repeat (first | refine blk_drewN ?_ _ | refine blk_drew ?_ | refine blk_alloc ?_ _)); exact BK113.out) hb); have n1_ := Aside0.mk (below_step (by repeat (first | (with_reducible first | exact HB.out | apply below_alloc | apply pw_below_drewN | apply below_drew1 | refine below_set ?_ GE113.out) | exact HB.out)) hb); clear BK113; clear HB; have BK113 := n0_; have HB := n1_; clear n0_ n1_; (try clear hb); (try clear hb2); (try clear hk); (try clear hi); have hcz33_0 : w32.cell? ⟨gb113, 0, none⟩ = some (.int .i64 0) := (blk_cell BK113.out 0).trans rfl; have hcz33_1 : w32.cell? ⟨gb113, 1, none⟩ = some (.string (⟨#[]⟩ : ByteArray)) := (blk_cell BK113.out 1).trans rfl; have hcz33_2 : w32.cell? ⟨gb113, 2, none⟩ = some (.int .u32 0) := (blk_cell BK113.out 2).trans rfl; have hcz33_3 : w32.cell? ⟨gb113, 3, none⟩ = some (.int .i64 0) := (blk_cell BK113.out 3).trans rfl; have hcz33_4 : w32.cell? ⟨gb113, 4, none⟩ = some (.int .i64 0) := (blk_cell BK113.out 4).trans rfl; have hfz33_0 := blk_frozen BK113.out 0; have hfz33_1 := blk_frozen BK113.out 1; have hfz33_2 := blk_frozen BK113.out 2; have hfz33_3 := blk_frozen BK113.out 3; have hfz33_4 := blk_frozen BK113.out 4))
        refine bodyPost_ret (results_ct rfl _ _ gb113 33 #[.int .i64 t119, .string t120, .int .u32 t121, .int .i64 t122, .int .i64 t123] (0, 0) _ rfl (by (with_reducible repeat (first | refine blk_drewN ?_ _ | refine blk_drew ?_ | refine blk_alloc ?_ _)); refine blk_put (cs := #[.int .i64 t119, .string t120, .int .u32 t121, .int .i64 t122, .int .i64 0]) ?_ 4 _ rfl; (with_reducible repeat (first | refine blk_drewN ?_ _ | refine blk_drew ?_ | refine blk_alloc ?_ _)); refine blk_put (cs := #[.int .i64 t119, .string t120, .int .u32 t121, .int .i64 0, .int .i64 0]) ?_ 3 _ rfl; (with_reducible repeat (first | refine blk_drewN ?_ _ | refine blk_drew ?_ | refine blk_alloc ?_ _)); refine blk_put (cs := #[.int .i64 t119, .string t120, .int .u32 0, .int .i64 0, .int .i64 0]) ?_ 2 _ rfl; (with_reducible repeat (first | refine blk_drewN ?_ _ | refine blk_drew ?_ | refine blk_alloc ?_ _)); refine blk_put (cs := #[.int .i64 t119, .string (⟨#[]⟩ : ByteArray), .int .u32 0, .int .i64 0, .int .i64 0]) ?_ 1 _ rfl; (with_reducible repeat (first | refine blk_drewN ?_ _ | refine blk_drew ?_ | refine blk_alloc ?_ _)); refine blk_put (cs := #[.int .i64 0, .string (⟨#[]⟩ : ByteArray), .int .u32 0, .int .i64 0, .int .i64 0]) ?_ 0 _ rfl; (with_reducible repeat (first | refine blk_drewN ?_ _ | refine blk_drew ?_ | refine blk_alloc ?_ _)); exact BK113.out) Try.underlying33 rfl (by kernel_rfl)) rfl ?_
        exact ⟨by first | rfl | (simp [errW_none, errW_some] <;> rfl) | (simp [*, errW_none, errW_some] <;> rfl), by repeat (first | (with_reducible first | exact HB.out | apply below_alloc | apply pw_below_drewN | apply below_drew1 | refine below_set ?_ GE113.out) | exact HB.out)⟩
      · replace c29 := Bool.eq_false_iff.mpr c29
        subst c29
        have H1 : (if (bt a0 0) = 39 then ((lex_char.f k a0).bind fun bt125 => (some (bt125.1, bt125.2.1, bt125.2.2.1, bt125.2.2.2.1, bt125.2.2.2.2.1, bt125.2.2.2.2.2))) else ((lex_mark.f a0).bind fun t131 => (if t131.toList = ([] : List UInt8) then (some (0, (⟨#[]⟩ : ByteArray), 0, 0, 0, 3)) else (some (4, t131, 0, 0, 0, 0))))) = some (r1, r2, r3, r4, r5, r6) := by rw [if_neg (show ¬ (false = true) by decide)] at H; exact H
        clear H
        have H := H1
        clear H1
        by_cases c35 : (bt a0 0) = 39
        · rw [if_pos c35] at H
          have c35b0 : ((bt a0 0) == 39) = true := beq_iff_eq.mpr c35
          have c35b1 : ((bt a0 0) != 39) = false := bne_eq_false_iff_eq.mpr c35
          clear c35
          replace H := Option.bind_eq_some_iff.mp H
          obtain ⟨⟨t125, t126, t127, t128, t129, t130⟩, A360, H⟩ := H
          replace H : (some (t125, t126, t127, t128, t129, t130)) = some (r1, r2, r3, r4, r5, r6) := H
          have A36 := Aside0.mk A360
          clear A360
          simp only [Option.some.injEq, Prod.mk.injEq] at H
          obtain ⟨rfl, rfl, rfl, rfl, rfl, rfl⟩ := H
          go_enter Try.func16, Try.ntmps16
          go_wp2_with (first | ((with_reducible refine gate_dst (N := 2) rfl ?_); refine box_event ?hg (N := 2) ?hd (cs := #[.int .i64 0, .string (⟨#[]⟩ : ByteArray), .int .u32 0, .int .i64 0, .int .i64 0]) (t := 33) ?hr ?_; (case hd => rfl); (case hg => rfl); (case hr => first | (go_simp; done) | (go_simp; rfl)); intro gb113 hg w37 hbox hb; have n0_ := Aside0.mk (below_step (by repeat (first | (with_reducible first | exact HB.out | apply below_alloc | apply pw_below_drewN | apply below_drew1) | exact HB.out)) hb); have n1_ := Aside0.mk (hbox); have n2_ := Aside0.mk ((by rw [hg]; exact (below_size (by repeat (first | (with_reducible first | exact HB.out | apply below_alloc | apply pw_below_drewN | apply below_drew1) | exact HB.out))) : w.heap.size ≤ gb113)); have n3_ := Aside0.mk ((by rw [hg]; exact (below_size (by repeat (first | (with_reducible first | exact HB.out | apply below_alloc | apply pw_below_drewN | apply below_drew1) | exact HB.out))) : w.heap.size ≤ gb113)); clear HB; have HB := n0_; have BK113 := n1_; have GW113 := n2_; have GE113 := n3_; clear n0_ n1_ n2_ n3_; clear hb hbox hg; have p3 : 0 ≤ (0 : Int) := (by omega); have q3 : 0 < a0.size := (by have : (0 : Int) < (a0.size : Int) := of_decide_eq_true (by first | (with_reducible assumption) | assumption); omega); have hx3 : ∀ h : 0 < a0.size, ((a0[0]'h).toNat : Int) = bt a0 0 := bt_at a0 0; clear p3; have qi3 : (0 < (a0.size : Int)) = True := eq_true (of_decide_eq_true (by first | (with_reducible assumption) | assumption)); replace q3 := eq_true q3) | ((with_reducible refine gate_callee (f := 25) rfl ?_); refine goesL_ (some 10) rfl rfl Try.func25 (by kernel_rfl) rfl #[.int .u8 (bt a0 0)] rfl (by (try simp only [List.map_toArray, List.map_cons, List.map_nil]); first | done | rfl | (simp only [List.length_drop, List.length_take]; rfl)) ?_; (with_reducible refine (lex_letter.calls (bt a0 0) false _ A4.out).mono ?_); rintro e w' ⟨rfl, ⟨nd, rfl⟩⟩; refine ⟨_, rfl, ?_⟩; (try (rw [drewN_self w37]; generalize hq_ : World.drewN w37 _ = w37; have n0_ : Aside0 (w37.heap[gb113]? = some (.cells #[.int .i64 0, .string (⟨#[]⟩ : ByteArray), .int .u32 0, .int .i64 0, .int .i64 0] 33 (0, 0))) := ⟨by rw [← hq_]; exact (by (with_reducible repeat (first | refine blk_drewN ?_ _ | refine blk_drew ?_ | refine blk_alloc ?_ _)); exact BK113.out)⟩; have n1_ : Aside0 (Below w.heap.size w w37) := ⟨by rw [← hq_]; exact (by repeat (first | (with_reducible first | exact HB.out | apply below_alloc | apply pw_below_drewN | apply below_drew1 | refine below_set ?_ GE113.out) | exact HB.out))⟩; clear BK113 HB hq_; have BK113 := n0_; have HB := n1_; clear n0_ n1_)); have p27 : 0 ≤ (0 : Int) := (by omega); have q27 : 0 < a0.size := (by have : (0 : Int) < (a0.size : Int) := of_decide_eq_true (by first | (with_reducible assumption) | assumption); omega); have hx27 : ∀ h : 0 < a0.size, ((a0[0]'h).toNat : Int) = bt a0 0 := bt_at a0 0; clear p27; have qi27 : (0 < (a0.size : Int)) = True := eq_true (of_decide_eq_true (by first | (with_reducible assumption) | assumption)); replace q27 := eq_true q27) | ((with_reducible refine gate_callee (f := 27) rfl ?_); refine goesL_ (some 28) rfl rfl Try.func27 (by kernel_rfl) rfl #[.int .u8 (bt a0 0)] rfl (by (try simp only [List.map_toArray, List.map_cons, List.map_nil]); first | done | rfl | (simp only [List.length_drop, List.length_take]; rfl)) ?_; (with_reducible refine (lex_digit.calls (bt a0 0) false _ A28.out).mono ?_); rintro e w' ⟨rfl, ⟨nd, rfl⟩⟩; refine ⟨_, rfl, ?_⟩; (try (rw [drewN_self w37]; generalize hq_ : World.drewN w37 _ = w37; have n0_ : Aside0 (w37.heap[gb113]? = some (.cells #[.int .i64 0, .string (⟨#[]⟩ : ByteArray), .int .u32 0, .int .i64 0, .int .i64 0] 33 (0, 0))) := ⟨by rw [← hq_]; exact (by (with_reducible repeat (first | refine blk_drewN ?_ _ | refine blk_drew ?_ | refine blk_alloc ?_ _)); exact BK113.out)⟩; have n1_ : Aside0 (Below w.heap.size w w37) := ⟨by rw [← hq_]; exact (by repeat (first | (with_reducible first | exact HB.out | apply below_alloc | apply pw_below_drewN | apply below_drew1 | refine below_set ?_ GE113.out) | exact HB.out))⟩; clear BK113 HB hq_; have BK113 := n0_; have HB := n1_; clear n0_ n1_)); have p34 : 0 ≤ (0 : Int) := (by omega); have q34 : 0 < a0.size := (by have : (0 : Int) < (a0.size : Int) := of_decide_eq_true (by first | (with_reducible assumption) | assumption); omega); have hx34 : ∀ h : 0 < a0.size, ((a0[0]'h).toNat : Int) = bt a0 0 := bt_at a0 0; clear p34; have qi34 : (0 < (a0.size : Int)) = True := eq_true (of_decide_eq_true (by first | (with_reducible assumption) | assumption)); replace q34 := eq_true q34) | ((with_reducible refine gate_callee (f := 29) rfl ?_); refine goesL_ (some 38) rfl rfl Try.func29 (by kernel_rfl) rfl #[.string a0] rfl (by (try simp only [List.map_toArray, List.map_cons, List.map_nil]); first | done | rfl | (simp only [List.length_drop, List.length_take]; rfl)) ?_; (with_reducible refine (lex_char.calls k a0 t125 t126 t127 t128 t129 t130 _ A36.out).mono ?_); rintro e w38 ⟨rfl, hb⟩; refine ⟨_, rfl, ?_⟩; have n0_ := Aside0.mk (blk_below (g := gb113) (o := .cells #[.int .i64 0, .string (⟨#[]⟩ : ByteArray), .int .u32 0, .int .i64 0, .int .i64 0] 33 (0, 0)) (by (with_reducible repeat (first | refine blk_drewN ?_ _ | refine blk_drew ?_ | refine blk_alloc ?_ _)); exact BK113.out) hb); have n1_ := Aside0.mk (below_step (by repeat (first | (with_reducible first | exact HB.out | apply below_alloc | apply pw_below_drewN | apply below_drew1 | refine below_set ?_ GE113.out) | exact HB.out)) hb); clear BK113; clear HB; have BK113 := n0_; have HB := n1_; clear n0_ n1_; (try clear hb); (try clear hb2); (try clear hk); (try clear hi); have hcz39_0 : w38.cell? ⟨gb113, 0, none⟩ = some (.int .i64 0) := (blk_cell BK113.out 0).trans rfl; have hcz39_1 : w38.cell? ⟨gb113, 1, none⟩ = some (.string (⟨#[]⟩ : ByteArray)) := (blk_cell BK113.out 1).trans rfl; have hcz39_2 : w38.cell? ⟨gb113, 2, none⟩ = some (.int .u32 0) := (blk_cell BK113.out 2).trans rfl; have hcz39_3 : w38.cell? ⟨gb113, 3, none⟩ = some (.int .i64 0) := (blk_cell BK113.out 3).trans rfl; have hcz39_4 : w38.cell? ⟨gb113, 4, none⟩ = some (.int .i64 0) := (blk_cell BK113.out 4).trans rfl; have hfz39_0 := blk_frozen BK113.out 0; have hfz39_1 := blk_frozen BK113.out 1; have hfz39_2 := blk_frozen BK113.out 2; have hfz39_3 := blk_frozen BK113.out 3; have hfz39_4 := blk_frozen BK113.out 4))
          refine bodyPost_ret (results_ct rfl _ _ gb113 33 #[.int .i64 t125, .string t126, .int .u32 t127, .int .i64 t128, .int .i64 t129] (0, 0) _ rfl (by (with_reducible repeat (first | refine blk_drewN ?_ _ | refine blk_drew ?_ | refine blk_alloc ?_ _)); refine blk_put (cs := #[.int .i64 t125, .string t126, .int .u32 t127, .int .i64 t128, .int .i64 0]) ?_ 4 _ rfl; (with_reducible repeat (first | refine blk_drewN ?_ _ | refine blk_drew ?_ | refine blk_alloc ?_ _)); refine blk_put (cs := #[.int .i64 t125, .string t126, .int .u32 t127, .int .i64 0, .int .i64 0]) ?_ 3 _ rfl; (with_reducible repeat (first | refine blk_drewN ?_ _ | refine blk_drew ?_ | refine blk_alloc ?_ _)); refine blk_put (cs := #[.int .i64 t125, .string t126, .int .u32 0, .int .i64 0, .int .i64 0]) ?_ 2 _ rfl; (with_reducible repeat (first | refine blk_drewN ?_ _ | refine blk_drew ?_ | refine blk_alloc ?_ _)); refine blk_put (cs := #[.int .i64 t125, .string (⟨#[]⟩ : ByteArray), .int .u32 0, .int .i64 0, .int .i64 0]) ?_ 1 _ rfl; (with_reducible repeat (first | refine blk_drewN ?_ _ | refine blk_drew ?_ | refine blk_alloc ?_ _)); refine blk_put (cs := #[.int .i64 0, .string (⟨#[]⟩ : ByteArray), .int .u32 0, .int .i64 0, .int .i64 0]) ?_ 0 _ rfl; (with_reducible repeat (first | refine blk_drewN ?_ _ | refine blk_drew ?_ | refine blk_alloc ?_ _)); exact BK113.out) Try.underlying33 rfl (by kernel_rfl)) rfl ?_
          exact ⟨by first | rfl | (simp [errW_none, errW_some] <;> rfl) | (simp [*, errW_none, errW_some] <;> rfl), by repeat (first | (with_reducible first | exact HB.out | apply below_alloc | apply pw_below_drewN | apply below_drew1 | refine below_set ?_ GE113.out) | exact HB.out)⟩
        · rw [if_neg c35] at H
          have c35b0 : ((bt a0 0) == 39) = false := beq_eq_false_iff_ne.mpr c35
          have c35b1 : ((bt a0 0) != 39) = true := bne_iff_ne.mpr c35
          replace H := Option.bind_eq_some_iff.mp H
          obtain ⟨t131, A400, H⟩ := H
          replace H : (if t131.toList = ([] : List UInt8) then (some (0, (⟨#[]⟩ : ByteArray), 0, 0, 0, 3)) else (some (4, t131, 0, 0, 0, 0))) = some (r1, r2, r3, r4, r5, r6) := H
          have A40 := Aside0.mk A400
          clear A400
          by_cases c41 : t131.toList = ([] : List UInt8)
          · rw [if_pos c41] at H
            have c41b0 : (t131.toList == ([] : List UInt8)) = true := beq_iff_eq.mpr c41
            have c41b1 : (t131.toList != ([] : List UInt8)) = false := bne_eq_false_iff_eq.mpr c41
            clear c41
            simp only [Option.some.injEq, Prod.mk.injEq] at H
            obtain ⟨rfl, rfl, rfl, rfl, rfl, rfl⟩ := H
            go_enter Try.func16, Try.ntmps16
            go_wp2_with (first | ((with_reducible refine gate_dst (N := 2) rfl ?_); refine box_event ?hg (N := 2) ?hd (cs := #[.int .i64 0, .string (⟨#[]⟩ : ByteArray), .int .u32 0, .int .i64 0, .int .i64 0]) (t := 33) ?hr ?_; (case hd => rfl); (case hg => rfl); (case hr => first | (go_simp; done) | (go_simp; rfl)); intro gb113 hg w42 hbox hb; have n0_ := Aside0.mk (below_step (by repeat (first | (with_reducible first | exact HB.out | apply below_alloc | apply pw_below_drewN | apply below_drew1) | exact HB.out)) hb); have n1_ := Aside0.mk (hbox); have n2_ := Aside0.mk ((by rw [hg]; exact (below_size (by repeat (first | (with_reducible first | exact HB.out | apply below_alloc | apply pw_below_drewN | apply below_drew1) | exact HB.out))) : w.heap.size ≤ gb113)); have n3_ := Aside0.mk ((by rw [hg]; exact (below_size (by repeat (first | (with_reducible first | exact HB.out | apply below_alloc | apply pw_below_drewN | apply below_drew1) | exact HB.out))) : w.heap.size ≤ gb113)); clear HB; have HB := n0_; have BK113 := n1_; have GW113 := n2_; have GE113 := n3_; clear n0_ n1_ n2_ n3_; clear hb hbox hg; have p3 : 0 ≤ (0 : Int) := (by omega); have q3 : 0 < a0.size := (by have : (0 : Int) < (a0.size : Int) := of_decide_eq_true (by first | (with_reducible assumption) | assumption); omega); have hx3 : ∀ h : 0 < a0.size, ((a0[0]'h).toNat : Int) = bt a0 0 := bt_at a0 0; clear p3; have qi3 : (0 < (a0.size : Int)) = True := eq_true (of_decide_eq_true (by first | (with_reducible assumption) | assumption)); replace q3 := eq_true q3) | ((with_reducible refine gate_callee (f := 25) rfl ?_); refine goesL_ (some 10) rfl rfl Try.func25 (by kernel_rfl) rfl #[.int .u8 (bt a0 0)] rfl (by (try simp only [List.map_toArray, List.map_cons, List.map_nil]); first | done | rfl | (simp only [List.length_drop, List.length_take]; rfl)) ?_; (with_reducible refine (lex_letter.calls (bt a0 0) false _ A4.out).mono ?_); rintro e w' ⟨rfl, ⟨nd, rfl⟩⟩; refine ⟨_, rfl, ?_⟩; (try (rw [drewN_self w42]; generalize hq_ : World.drewN w42 _ = w42; have n0_ : Aside0 (w42.heap[gb113]? = some (.cells #[.int .i64 0, .string (⟨#[]⟩ : ByteArray), .int .u32 0, .int .i64 0, .int .i64 0] 33 (0, 0))) := ⟨by rw [← hq_]; exact (by (with_reducible repeat (first | refine blk_drewN ?_ _ | refine blk_drew ?_ | refine blk_alloc ?_ _)); exact BK113.out)⟩; have n1_ : Aside0 (Below w.heap.size w w42) := ⟨by rw [← hq_]; exact (by repeat (first | (with_reducible first | exact HB.out | apply below_alloc | apply pw_below_drewN | apply below_drew1 | refine below_set ?_ GE113.out) | exact HB.out))⟩; clear BK113 HB hq_; have BK113 := n0_; have HB := n1_; clear n0_ n1_)); have p27 : 0 ≤ (0 : Int) := (by omega); have q27 : 0 < a0.size := (by have : (0 : Int) < (a0.size : Int) := of_decide_eq_true (by first | (with_reducible assumption) | assumption); omega); have hx27 : ∀ h : 0 < a0.size, ((a0[0]'h).toNat : Int) = bt a0 0 := bt_at a0 0; clear p27; have qi27 : (0 < (a0.size : Int)) = True := eq_true (of_decide_eq_true (by first | (with_reducible assumption) | assumption)); replace q27 := eq_true q27) | ((with_reducible refine gate_callee (f := 27) rfl ?_); refine goesL_ (some 28) rfl rfl Try.func27 (by kernel_rfl) rfl #[.int .u8 (bt a0 0)] rfl (by (try simp only [List.map_toArray, List.map_cons, List.map_nil]); first | done | rfl | (simp only [List.length_drop, List.length_take]; rfl)) ?_; (with_reducible refine (lex_digit.calls (bt a0 0) false _ A28.out).mono ?_); rintro e w' ⟨rfl, ⟨nd, rfl⟩⟩; refine ⟨_, rfl, ?_⟩; (try (rw [drewN_self w42]; generalize hq_ : World.drewN w42 _ = w42; have n0_ : Aside0 (w42.heap[gb113]? = some (.cells #[.int .i64 0, .string (⟨#[]⟩ : ByteArray), .int .u32 0, .int .i64 0, .int .i64 0] 33 (0, 0))) := ⟨by rw [← hq_]; exact (by (with_reducible repeat (first | refine blk_drewN ?_ _ | refine blk_drew ?_ | refine blk_alloc ?_ _)); exact BK113.out)⟩; have n1_ : Aside0 (Below w.heap.size w w42) := ⟨by rw [← hq_]; exact (by repeat (first | (with_reducible first | exact HB.out | apply below_alloc | apply pw_below_drewN | apply below_drew1 | refine below_set ?_ GE113.out) | exact HB.out))⟩; clear BK113 HB hq_; have BK113 := n0_; have HB := n1_; clear n0_ n1_)); have p34 : 0 ≤ (0 : Int) := (by omega); have q34 : 0 < a0.size := (by have : (0 : Int) < (a0.size : Int) := of_decide_eq_true (by first | (with_reducible assumption) | assumption); omega); have hx34 : ∀ h : 0 < a0.size, ((a0[0]'h).toNat : Int) = bt a0 0 := bt_at a0 0; clear p34; have qi34 : (0 < (a0.size : Int)) = True := eq_true (of_decide_eq_true (by first | (with_reducible assumption) | assumption)); replace q34 := eq_true q34) | ((with_reducible refine gate_callee (f := 30) rfl ?_); refine goesL_ (some 42) rfl rfl Try.func30 (by kernel_rfl) rfl #[.string a0] rfl (by (try simp only [List.map_toArray, List.map_cons, List.map_nil]); first | done | rfl | (simp only [List.length_drop, List.length_take]; rfl)) ?_; (with_reducible refine (lex_mark.calls a0 t131 _ A40.out).mono ?_); rintro e w43 ⟨rfl, hb⟩; refine ⟨_, rfl, ?_⟩; have n0_ := Aside0.mk (blk_below (g := gb113) (o := .cells #[.int .i64 0, .string (⟨#[]⟩ : ByteArray), .int .u32 0, .int .i64 0, .int .i64 0] 33 (0, 0)) (by (with_reducible repeat (first | refine blk_drewN ?_ _ | refine blk_drew ?_ | refine blk_alloc ?_ _)); exact BK113.out) hb); have n1_ := Aside0.mk (below_step (by repeat (first | (with_reducible first | exact HB.out | apply below_alloc | apply pw_below_drewN | apply below_drew1 | refine below_set ?_ GE113.out) | exact HB.out)) hb); clear BK113; clear HB; have BK113 := n0_; have HB := n1_; clear n0_ n1_; (try clear hb); (try clear hb2); (try clear hk); (try clear hi); have hcz44_0 : w43.cell? ⟨gb113, 0, none⟩ = some (.int .i64 0) := (blk_cell BK113.out 0).trans rfl; have hcz44_1 : w43.cell? ⟨gb113, 1, none⟩ = some (.string (⟨#[]⟩ : ByteArray)) := (blk_cell BK113.out 1).trans rfl; have hcz44_2 : w43.cell? ⟨gb113, 2, none⟩ = some (.int .u32 0) := (blk_cell BK113.out 2).trans rfl; have hcz44_3 : w43.cell? ⟨gb113, 3, none⟩ = some (.int .i64 0) := (blk_cell BK113.out 3).trans rfl; have hcz44_4 : w43.cell? ⟨gb113, 4, none⟩ = some (.int .i64 0) := (blk_cell BK113.out 4).trans rfl; have hfz44_0 := blk_frozen BK113.out 0; have hfz44_1 := blk_frozen BK113.out 1; have hfz44_2 := blk_frozen BK113.out 2; have hfz44_3 := blk_frozen BK113.out 3; have hfz44_4 := blk_frozen BK113.out 4))
            refine bodyPost_ret (results_ct rfl _ _ gb113 33 #[.int .i64 0, .string (⟨#[]⟩ : ByteArray), .int .u32 0, .int .i64 0, .int .i64 0] (0, 0) _ rfl (by (with_reducible repeat (first | refine blk_drewN ?_ _ | refine blk_drew ?_ | refine blk_alloc ?_ _)); refine blk_put (cs := #[.int .i64 0, .string (⟨#[]⟩ : ByteArray), .int .u32 0, .int .i64 0, .int .i64 0]) ?_ 4 _ rfl; (with_reducible repeat (first | refine blk_drewN ?_ _ | refine blk_drew ?_ | refine blk_alloc ?_ _)); refine blk_put (cs := #[.int .i64 0, .string (⟨#[]⟩ : ByteArray), .int .u32 0, .int .i64 0, .int .i64 0]) ?_ 3 _ rfl; (with_reducible repeat (first | refine blk_drewN ?_ _ | refine blk_drew ?_ | refine blk_alloc ?_ _)); refine blk_put (cs := #[.int .i64 0, .string (⟨#[]⟩ : ByteArray), .int .u32 0, .int .i64 0, .int .i64 0]) ?_ 2 _ rfl; (with_reducible repeat (first | refine blk_drewN ?_ _ | refine blk_drew ?_ | refine blk_alloc ?_ _)); refine blk_put (cs := #[.int .i64 0, .string (⟨#[]⟩ : ByteArray), .int .u32 0, .int .i64 0, .int .i64 0]) ?_ 1 _ rfl; (with_reducible repeat (first | refine blk_drewN ?_ _ | refine blk_drew ?_ | refine blk_alloc ?_ _)); refine blk_put (cs := #[.int .i64 0, .string (⟨#[]⟩ : ByteArray), .int .u32 0, .int .i64 0, .int .i64 0]) ?_ 0 _ rfl; (with_reducible repeat (first | refine blk_drewN ?_ _ | refine blk_drew ?_ | refine blk_alloc ?_ _)); exact BK113.out) Try.underlying33 rfl (by kernel_rfl)) rfl ?_
            exact ⟨by first | rfl | (simp [errW_none, errW_some] <;> rfl) | (simp [*, errW_none, errW_some] <;> rfl), by repeat (first | (with_reducible first | exact HB.out | apply below_alloc | apply pw_below_drewN | apply below_drew1 | refine below_set ?_ GE113.out) | exact HB.out)⟩
          · rw [if_neg c41] at H
            have c41b0 : (t131.toList == ([] : List UInt8)) = false := beq_eq_false_iff_ne.mpr c41
            have c41b1 : (t131.toList != ([] : List UInt8)) = true := bne_iff_ne.mpr c41
            simp only [Option.some.injEq, Prod.mk.injEq] at H
            obtain ⟨rfl, rfl, rfl, rfl, rfl, rfl⟩ := H
            go_enter Try.func16, Try.ntmps16
            go_wp2_with (first | ((with_reducible refine gate_dst (N := 2) rfl ?_); refine box_event ?hg (N := 2) ?hd (cs := #[.int .i64 0, .string (⟨#[]⟩ : ByteArray), .int .u32 0, .int .i64 0, .int .i64 0]) (t := 33) ?hr ?_; (case hd => rfl); (case hg => rfl); (case hr => first | (go_simp; done) | (go_simp; rfl)); intro gb113 hg w45 hbox hb; have n0_ := Aside0.mk (below_step (by repeat (first | (with_reducible first | exact HB.out | apply below_alloc | apply pw_below_drewN | apply below_drew1) | exact HB.out)) hb); have n1_ := Aside0.mk (hbox); have n2_ := Aside0.mk ((by rw [hg]; exact (below_size (by repeat (first | (with_reducible first | exact HB.out | apply below_alloc | apply pw_below_drewN | apply below_drew1) | exact HB.out))) : w.heap.size ≤ gb113)); have n3_ := Aside0.mk ((by rw [hg]; exact (below_size (by repeat (first | (with_reducible first | exact HB.out | apply below_alloc | apply pw_below_drewN | apply below_drew1) | exact HB.out))) : w.heap.size ≤ gb113)); clear HB; have HB := n0_; have BK113 := n1_; have GW113 := n2_; have GE113 := n3_; clear n0_ n1_ n2_ n3_; clear hb hbox hg; have p3 : 0 ≤ (0 : Int) := (by omega); have q3 : 0 < a0.size := (by have : (0 : Int) < (a0.size : Int) := of_decide_eq_true (by first | (with_reducible assumption) | assumption); omega); have hx3 : ∀ h : 0 < a0.size, ((a0[0]'h).toNat : Int) = bt a0 0 := bt_at a0 0; clear p3; have qi3 : (0 < (a0.size : Int)) = True := eq_true (of_decide_eq_true (by first | (with_reducible assumption) | assumption)); replace q3 := eq_true q3) | ((with_reducible refine gate_callee (f := 25) rfl ?_); refine goesL_ (some 10) rfl rfl Try.func25 (by kernel_rfl) rfl #[.int .u8 (bt a0 0)] rfl (by (try simp only [List.map_toArray, List.map_cons, List.map_nil]); first | done | rfl | (simp only [List.length_drop, List.length_take]; rfl)) ?_; (with_reducible refine (lex_letter.calls (bt a0 0) false _ A4.out).mono ?_); rintro e w' ⟨rfl, ⟨nd, rfl⟩⟩; refine ⟨_, rfl, ?_⟩; (try (rw [drewN_self w45]; generalize hq_ : World.drewN w45 _ = w45; have n0_ : Aside0 (w45.heap[gb113]? = some (.cells #[.int .i64 0, .string (⟨#[]⟩ : ByteArray), .int .u32 0, .int .i64 0, .int .i64 0] 33 (0, 0))) := ⟨by rw [← hq_]; exact (by (with_reducible repeat (first | refine blk_drewN ?_ _ | refine blk_drew ?_ | refine blk_alloc ?_ _)); exact BK113.out)⟩; have n1_ : Aside0 (Below w.heap.size w w45) := ⟨by rw [← hq_]; exact (by repeat (first | (with_reducible first | exact HB.out | apply below_alloc | apply pw_below_drewN | apply below_drew1 | refine below_set ?_ GE113.out) | exact HB.out))⟩; clear BK113 HB hq_; have BK113 := n0_; have HB := n1_; clear n0_ n1_)); have p27 : 0 ≤ (0 : Int) := (by omega); have q27 : 0 < a0.size := (by have : (0 : Int) < (a0.size : Int) := of_decide_eq_true (by first | (with_reducible assumption) | assumption); omega); have hx27 : ∀ h : 0 < a0.size, ((a0[0]'h).toNat : Int) = bt a0 0 := bt_at a0 0; clear p27; have qi27 : (0 < (a0.size : Int)) = True := eq_true (of_decide_eq_true (by first | (with_reducible assumption) | assumption)); replace q27 := eq_true q27) | ((with_reducible refine gate_callee (f := 27) rfl ?_); refine goesL_ (some 28) rfl rfl Try.func27 (by kernel_rfl) rfl #[.int .u8 (bt a0 0)] rfl (by (try simp only [List.map_toArray, List.map_cons, List.map_nil]); first | done | rfl | (simp only [List.length_drop, List.length_take]; rfl)) ?_; (with_reducible refine (lex_digit.calls (bt a0 0) false _ A28.out).mono ?_); rintro e w' ⟨rfl, ⟨nd, rfl⟩⟩; refine ⟨_, rfl, ?_⟩; (try (rw [drewN_self w45]; generalize hq_ : World.drewN w45 _ = w45; have n0_ : Aside0 (w45.heap[gb113]? = some (.cells #[.int .i64 0, .string (⟨#[]⟩ : ByteArray), .int .u32 0, .int .i64 0, .int .i64 0] 33 (0, 0))) := ⟨by rw [← hq_]; exact (by (with_reducible repeat (first | refine blk_drewN ?_ _ | refine blk_drew ?_ | refine blk_alloc ?_ _)); exact BK113.out)⟩; have n1_ : Aside0 (Below w.heap.size w w45) := ⟨by rw [← hq_]; exact (by repeat (first | (with_reducible first | exact HB.out | apply below_alloc | apply pw_below_drewN | apply below_drew1 | refine below_set ?_ GE113.out) | exact HB.out))⟩; clear BK113 HB hq_; have BK113 := n0_; have HB := n1_; clear n0_ n1_)); have p34 : 0 ≤ (0 : Int) := (by omega); have q34 : 0 < a0.size := (by have : (0 : Int) < (a0.size : Int) := of_decide_eq_true (by first | (with_reducible assumption) | assumption); omega); have hx34 : ∀ h : 0 < a0.size, ((a0[0]'h).toNat : Int) = bt a0 0 := bt_at a0 0; clear p34; have qi34 : (0 < (a0.size : Int)) = True := eq_true (of_decide_eq_true (by first | (with_reducible assumption) | assumption)); replace q34 := eq_true q34) | ((with_reducible refine gate_callee (f := 30) rfl ?_); refine goesL_ (some 42) rfl rfl Try.func30 (by kernel_rfl) rfl #[.string a0] rfl (by (try simp only [List.map_toArray, List.map_cons, List.map_nil]); first | done | rfl | (simp only [List.length_drop, List.length_take]; rfl)) ?_; (with_reducible refine (lex_mark.calls a0 t131 _ A40.out).mono ?_); rintro e w46 ⟨rfl, hb⟩; refine ⟨_, rfl, ?_⟩; have n0_ := Aside0.mk (blk_below (g := gb113) (o := .cells #[.int .i64 0, .string (⟨#[]⟩ : ByteArray), .int .u32 0, .int .i64 0, .int .i64 0] 33 (0, 0)) (by (with_reducible repeat (first | refine blk_drewN ?_ _ | refine blk_drew ?_ | refine blk_alloc ?_ _)); exact BK113.out) hb); have n1_ := Aside0.mk (below_step (by repeat (first | (with_reducible first | exact HB.out | apply below_alloc | apply pw_below_drewN | apply below_drew1 | refine below_set ?_ GE113.out) | exact HB.out)) hb); clear BK113; clear HB; have BK113 := n0_; have HB := n1_; clear n0_ n1_; (try clear hb); (try clear hb2); (try clear hk); (try clear hi); have hcz47_0 : w46.cell? ⟨gb113, 0, none⟩ = some (.int .i64 0) := (blk_cell BK113.out 0).trans rfl; have hcz47_1 : w46.cell? ⟨gb113, 1, none⟩ = some (.string (⟨#[]⟩ : ByteArray)) := (blk_cell BK113.out 1).trans rfl; have hcz47_2 : w46.cell? ⟨gb113, 2, none⟩ = some (.int .u32 0) := (blk_cell BK113.out 2).trans rfl; have hcz47_3 : w46.cell? ⟨gb113, 3, none⟩ = some (.int .i64 0) := (blk_cell BK113.out 3).trans rfl; have hcz47_4 : w46.cell? ⟨gb113, 4, none⟩ = some (.int .i64 0) := (blk_cell BK113.out 4).trans rfl; have hfz47_0 := blk_frozen BK113.out 0; have hfz47_1 := blk_frozen BK113.out 1; have hfz47_2 := blk_frozen BK113.out 2; have hfz47_3 := blk_frozen BK113.out 3; have hfz47_4 := blk_frozen BK113.out 4))
            refine bodyPost_ret (results_ct rfl _ _ gb113 33 #[.int .i64 4, .string t131, .int .u32 0, .int .i64 0, .int .i64 0] (0, 0) _ rfl (by (with_reducible repeat (first | refine blk_drewN ?_ _ | refine blk_drew ?_ | refine blk_alloc ?_ _)); refine blk_put (cs := #[.int .i64 4, .string t131, .int .u32 0, .int .i64 0, .int .i64 0]) ?_ 4 _ rfl; (with_reducible repeat (first | refine blk_drewN ?_ _ | refine blk_drew ?_ | refine blk_alloc ?_ _)); refine blk_put (cs := #[.int .i64 4, .string t131, .int .u32 0, .int .i64 0, .int .i64 0]) ?_ 3 _ rfl; (with_reducible repeat (first | refine blk_drewN ?_ _ | refine blk_drew ?_ | refine blk_alloc ?_ _)); refine blk_put (cs := #[.int .i64 4, .string t131, .int .u32 0, .int .i64 0, .int .i64 0]) ?_ 2 _ rfl; (with_reducible repeat (first | refine blk_drewN ?_ _ | refine blk_drew ?_ | refine blk_alloc ?_ _)); refine blk_put (cs := #[.int .i64 4, .string (⟨#[]⟩ : ByteArray), .int .u32 0, .int .i64 0, .int .i64 0]) ?_ 1 _ rfl; (with_reducible repeat (first | refine blk_drewN ?_ _ | refine blk_drew ?_ | refine blk_alloc ?_ _)); refine blk_put (cs := #[.int .i64 0, .string (⟨#[]⟩ : ByteArray), .int .u32 0, .int .i64 0, .int .i64 0]) ?_ 0 _ rfl; (with_reducible repeat (first | refine blk_drewN ?_ _ | refine blk_drew ?_ | refine blk_alloc ?_ _)); exact BK113.out) Try.underlying33 rfl (by kernel_rfl)) rfl ?_
            exact ⟨by first | rfl | (simp [errW_none, errW_some] <;> rfl) | (simp [*, errW_none, errW_some] <;> rfl), by repeat (first | (with_reducible first | exact HB.out | apply below_alloc | apply pw_below_drewN | apply below_drew1 | refine below_set ?_ GE113.out) | exact HB.out)⟩
  · rw [if_neg c2] at H
    exact absurd H (by simp)
def lexL : Nat → ByteArray → Int → Int → List S33 → Option (List S33 × Int × Int × Int)
  | 0, _, _, _, _ => none
  | k + 1, s, a, b, out => if s.size = 0 then some (out, a, b, 0) else
    (lex_blank.f s).bind fun n => if n < 0 then some ([], a, b, 3) else if 0 < n then (if n ≤ (s.size : Int) then lexL k (s.extract n.toNat s.size) (posL (s.data.toList.take n.toNat) a b).1 (posL (s.data.toList.take n.toNat) a b).2 out else none) else
    (lex_token.f k s).bind fun t => if t.2.2.2.2.2 = 0 then (if t.2.1.size ≤ s.size then (if out.length < 100000 then lexL k (s.extract t.2.1.size s.size) (posL (s.data.toList.take t.2.1.size) a b).1 (posL (s.data.toList.take t.2.1.size) a b).2 (out ++ [⟨t.1, t.2.1, t.2.2.1, ⟨a, b⟩⟩]) else none) else none) else some ([], a, b, t.2.2.2.2.2)
def lex_Lex.f (k : Nat) (a0 : ByteArray) : Option (List S33 × Int × Int × Int) := if 65536 < a0.size then some ([], 1, 1, 2) else lexL k a0 1 1 []
set_option maxHeartbeats 1000000 in
theorem lexL_mono : ∀ k s a b out, LeO (lexL k s a b out) (lexL (k + 1) s a b out)
  | 0 => fun _ _ _ _ r h => by simp [lexL] at h
  | k + 1 => fun s a b out => by
    have ih := lexL_mono k
    unfold lexL
    repeat' first | exact ih _ _ _ _ | exact LeO.refl _ | exact lex_token.mono _ _ | refine LeO.ite ?_ ?_ | refine LeO.bind ?_ (fun _ => ?_)
theorem lex_Lex.mono (a0 : ByteArray) (k : Nat) : LeO (lex_Lex.f k a0) (lex_Lex.f (k + 1) a0) := by
  unfold lex_Lex.f
  exact LeO.ite (LeO.refl _) (lexL_mono _ _ _ _ _)
theorem row_ne {W : World} {g base : Nat} {t : TypeId} {cs : Array Value} {v : Value} {xs : List S33} (hR : Kd.R k33 33 W base (fun _ => True) v xs) (h : W.heap[g]? = some (.cells cs t (0, 0))) (ht : t ≠ 33) : some g ≠ v.ownBlock := by
  intro he
  obtain ⟨cells, hc⟩ := Kd.R_typed hR g he.symm
  rw [h] at hc
  simp at hc
  exact ht hc.2
theorem row_ne_new {W : World} {base : Nat} {v : Value} {xs : List S33} (hR : Kd.R k33 33 W base (fun _ => True) v xs) : some W.heap.size ≠ v.ownBlock := by
  intro he
  have := Kd.R_lt hR _ he.symm
  omega
theorem pos_set {W : World} {g : Nat} {c0 c1 : Value} (h : W.heap[g]? = some (.cells #[c0, c1] 26 (0, 0))) (v0 v1 : Value) : ((W.setCell ⟨g, 0, none⟩ v0).setCell ⟨g, 1, none⟩ v1).heap[g]? = some (.cells #[v0, v1] 26 (0, 0)) := by
  simpa using blk_set (blk_set h 0 v0) 1 v1
theorem pos_keep {W : World} {g base : Nat} {c0 c1 v : Value} {xs : List S33} (hR : Kd.R k33 33 W base (fun _ => True) v xs) (h : W.heap[g]? = some (.cells #[c0, c1] 26 (0, 0))) (v0 v1 : Value) : Kd.R k33 33 ((W.setCell ⟨g, 0, none⟩ v0).setCell ⟨g, 1, none⟩ v1) base (fun _ => True) v xs :=
  Kd.R_set (Kd.R_set hR h (by decide) _ _) (blk_set h 0 v0) (by decide) _ _
theorem row_keep {W W1 : World} {g base : Nat} {cs : Array Value} {v : Value} {xs : List S33} (hR : Kd.R k33 33 W base (fun _ => True) v xs) (h : W.heap[g]? = some (.cells cs 40 (0, 0))) (hg : W.grownBy W1 (some g)) : Kd.R k33 33 W1 base (fun _ => True) v xs :=
  Kd.R_over' (v := .slice (some ⟨g, 0, none⟩) 0 0) (e' := 40) hR (fun k hk => by cases hk; exact ⟨cs, h⟩) (by decide) hg
theorem below_grown_set {w0 w W : World} {g : Nat} (h : Below w0.heap.size w0 w) (hg : w0.heap.size ≤ g) (hW : w.grownBy W (some g)) : Below w0.heap.size w0 W :=
  pw_below_grown h (some g) h.size hW (fun k hk => by cases hk; exact hg)
set_option maxHeartbeats 4000000 in
set_option maxRecDepth 100000 in
theorem lex_Lex.calls (k : Nat) (a0 : ByteArray) (r1 : List (S33)) (r2 : Int) (r3 : Int) (r4 : Int) (w : World) (hG : G0 w) (h : lex_Lex.f k a0 = some (r1, r2, r3, r4)) :
    Calls Try.prog 8 #[.string a0] w fun e w' => ∃ v0_ : Value, e = .returned (.tuple #[v0_, .agg #[.int .i64 r2, .int .i64 r3], .int .i64 r4]) ∧ Kd.R k33 33 w' w.heap.size (fun _ => True) v0_ r1 ∧ Below w.heap.size w w' := by
  have hu40 := Try.underlying40
  have hu33 := Try.underlying33
  have hu26 := Try.underlying26
  have HGW := Aside0.mk hG
  clear hG
  unfold lex_Lex.f at h
  by_cases hs : 65536 < a0.size
  · rw [if_pos hs] at h
    simp only [Option.some.injEq, Prod.mk.injEq] at h
    obtain ⟨rfl, rfl, rfl, rfl⟩ := h
    have hs' : 65536 < (a0.size : Int) := by omega
    go_enter Try.func8, Try.ntmps8
    go_wp2
    go_region
    go_wp2
    have hz : ((w.alloc (.cells #[.int .i64 1, .int .i64 1] 26)).alloc (.cells #[.string a0, .int .i64 1, .int .i64 1] 40)).drew.heap[w.heap.size]? = some (.cells #[.int .i64 1, .int .i64 1] 26 (0, 0)) := by
      show ((w.alloc (.cells #[.int .i64 1, .int .i64 1] 26)).alloc (.cells #[.string a0, .int .i64 1, .int .i64 1] 40)).heap[w.heap.size]? = _
      rw [heap_alloc_old _ _ (by simp)]
      exact heap_alloc_last w _
    refine bodyPost_ret (v := .tuple #[.slice none 0 0, .agg #[.int .i64 1, .int .i64 1], .int .i64 2]) (results_list (rs := [.tmp 2, .cell 3 26, .tmp 4]) rfl (by simp) (.tmp (.cell w.heap.size 26 _ (0, 0) _ rfl hz Try.underlying26 rfl (by kernel_rfl) (.tmp .nil)))) rfl ⟨_, rfl, Kd.R_nil _ _ _ _ _, below_drew (below_alloc (below_alloc (Below.refl _ _) _) _)⟩
  rw [if_neg hs] at h
  have hs' : ¬ (65536 < (a0.size : Int)) := by omega
  have H := Aside0.mk h
  have HSZ := Aside0.mk (show a0.size ≤ 65536 by omega)
  clear h hs
  go_enter Try.func8, Try.ntmps8
  go_wp2
  clear hs'
  obtain ⟨HG, HT, HB⟩ : Aside0 (((w.alloc (.cells #[.int .i64 0, .int .i64 0] 26)).alloc (.cells #[.string a0, .int .i64 1, .int .i64 1] 40)).heap[w.heap.size + 1]? = some (.cells #[.string a0, .int .i64 1, .int .i64 1] 40 (0, 0))) ∧ Aside0 (((w.alloc (.cells #[.int .i64 0, .int .i64 0] 26)).alloc (.cells #[.string a0, .int .i64 1, .int .i64 1] 40)).heap[w.heap.size]? = some (.cells #[.int .i64 0, .int .i64 0] 26 (0, 0))) ∧ Aside0 (Below w.heap.size w ((w.alloc (.cells #[.int .i64 0, .int .i64 0] 26)).alloc (.cells #[.string a0, .int .i64 1, .int .i64 1] 40))) := by
    refine ⟨⟨?_⟩, ⟨?_⟩, ⟨below_alloc (below_alloc (Below.refl _ _) _) _⟩⟩
    · have hq := heap_alloc_last (w.alloc (.cells #[.int .i64 0, .int .i64 0] 26)) (.cells #[.string a0, .int .i64 1, .int .i64 1] 40)
      simpa using hq
    · rw [heap_alloc_old _ _ (by simp)]
      exact heap_alloc_last w _
  go_loopg [6] k (fun kq v6 wr => ∃ (s : ByteArray) (a b : Int) (out : List S33), Aside0 (lexL kq s a b out = some (r1, r2, r3, r4)) ∧ Aside0 (s.size ≤ 65536 ∧ 1 ≤ a ∧ 1 ≤ b ∧ a + s.size ≤ 1000000 ∧ b + s.size ≤ 1000000) ∧ Aside0 (wr.heap[w.heap.size + 1]? = some (.cells #[.string s, .int .i64 a, .int .i64 b] 40 (0, 0))) ∧ Aside0 (wr.heap[w.heap.size]? = some (.cells #[.int .i64 0, .int .i64 0] 26 (0, 0))) ∧ Aside0 (Below w.heap.size w wr) ∧ Aside0 (Kd.R k33 33 wr w.heap.size (fun _ => True) v6 out) ∧ Aside0 (kq ≤ k))
  case atStart => exact ⟨a0, 1, 1, [], H, ⟨by have := HSZ.out; omega⟩, HG, HT, HB, ⟨Kd.R_nil _ _ _ _ _⟩, ⟨Nat.le_refl _⟩⟩
  case round =>
    clear HG HT HB H HSZ
    obtain ⟨s, a, b, out, H, HS, HG, HT, HB, HO, HK⟩ := hrel
    cases gk with
    | zero => exact absurd H.out (by simp [lexL])
    | succ k1 =>
    have h := H.out
    clear H
    simp only [lexL] at h
    have he0 := empty_iff s
    have g1 := blk_lt HG.out
    have g0 := blk_lt HT.out
    have c0 := blk_cell HG.out 0
    have c1 := blk_cell HG.out 1
    have c2 := blk_cell HG.out 2
    have d0 := blk_cell HT.out 0
    have d1 := blk_cell HT.out 1
    have e0 := blk_frozen HT.out 0
    have e1 := blk_frozen HT.out 1
    simp only [List.getElem?_toArray, List.getElem?_cons_zero, List.getElem?_cons_succ] at c0 c1 c2 d0 d1
    by_cases hz : s.size = 0
    · rw [if_pos hz] at h
      simp only [Option.some.injEq, Prod.mk.injEq] at h
      obtain ⟨rfl, rfl, rfl, rfl⟩ := h
      have he : s.toList.isEmpty = true := by rw [he0]; exact decide_eq_true hz
      clear he0 hz
      go_wp2
      go_region
      go_wp2
      have hz : ((wr.setCell ⟨w.heap.size, 0, none⟩ (.int .i64 a)).setCell ⟨w.heap.size, 1, none⟩ (.int .i64 b)).drew.heap[w.heap.size]? = some (.cells #[.int .i64 a, .int .i64 b] 26 (0, 0)) := pos_set HT.out _ _
      refine bodyPost_ret (v := .tuple #[u6, .agg #[.int .i64 a, .int .i64 b], .int .i64 0]) (results_list (rs := [.tmp 2, .cell 3 26, .tmp 4]) rfl (by simp) (.tmp (.cell w.heap.size 26 _ (0, 0) _ rfl hz Try.underlying26 rfl (by kernel_rfl) (.tmp .nil)))) rfl ⟨_, rfl, ?_, ?_⟩
      · exact Kd.R_drew (pos_keep HO.out HT.out _ _)
      · exact below_drew (below_set (below_set HB.out (Nat.le_refl _)) (Nat.le_refl _))
    rw [if_neg hz] at h
    have he : s.toList.isEmpty = false := by rw [he0]; exact decide_eq_false hz
    clear he0 hz
    replace h := Option.bind_eq_some_iff.mp h
    obtain ⟨n, hn, h⟩ := h
    have HN := Aside0.mk hn
    clear hn
    by_cases hn0 : n < 0
    · rw [if_pos hn0] at h
      simp only [Option.some.injEq, Prod.mk.injEq] at h
      obtain ⟨rfl, rfl, rfl, rfl⟩ := h
      go_wp2_with (go_at_call 14; refine (lex_blank.calls s n _ (HGW.out.at_ HB.out) HN.out).mono ?_; rintro e w' ⟨rfl, ⟨nd, rfl⟩⟩)
      go_region
      go_wp2
      have hz : (((wr.drewN (nd + 1)).setCell ⟨w.heap.size, 0, none⟩ (.int .i64 a)).setCell ⟨w.heap.size, 1, none⟩ (.int .i64 b)).heap[w.heap.size]? = some (.cells #[.int .i64 a, .int .i64 b] 26 (0, 0)) := pos_set (W := wr.drewN (nd + 1)) HT.out _ _
      refine bodyPost_ret (v := .tuple #[.slice none 0 0, .agg #[.int .i64 a, .int .i64 b], .int .i64 3]) (results_list (rs := [.tmp 2, .cell 3 26, .tmp 4]) rfl (by simp) (.tmp (.cell w.heap.size 26 _ (0, 0) _ rfl hz Try.underlying26 rfl (by kernel_rfl) (.tmp .nil)))) rfl ⟨_, rfl, Kd.R_nil _ _ _ _ _, ?_⟩
      exact below_set (below_set (pw_below_drewN HB.out _) (Nat.le_refl _)) (Nat.le_refl _)
    rw [if_neg hn0] at h
    by_cases hn1 : 0 < n
    · rw [if_pos hn1] at h
      by_cases hn2 : n ≤ (s.size : Int)
      case neg => rw [if_neg hn2] at h; cases h
      rw [if_pos hn2] at h
      obtain ⟨m, rfl⟩ := Int.eq_ofNat_of_zero_le (show 0 ≤ n by omega)
      simp only [Int.toNat_natCast] at h
      have hm : m ≤ s.size := by omega
      have hp := posL_pos (s.data.toList.take m) a b HS.out.2.1 HS.out.2.2.1
      rw [List.length_take, data_length, Nat.min_eq_left hm] at hp
      have hxs : (s.extract m s.size).size = s.size - m := by simp
      have HX : Aside0 ((s.extract m s.size).size ≤ 65536 ∧ 1 ≤ (posL (s.data.toList.take m) a b).1 ∧ 1 ≤ (posL (s.data.toList.take m) a b).2 ∧ (posL (s.data.toList.take m) a b).1 + (s.extract m s.size).size ≤ 1000000 ∧ (posL (s.data.toList.take m) a b).2 + (s.extract m s.size).size ≤ 1000000) := ⟨by have := HS.out; omega⟩
      have H := Aside0.mk h
      have hn1' : decide (0 < (m : Int)) = true := decide_eq_true hn1
      have hn0' : decide ((m : Int) < 0) = false := decide_eq_false hn0
      clear h hxs hp
      go_wp2_with (first | (go_at_call 14; refine (lex_blank.calls s m _ (HGW.out.at_ HB.out) HN.out).mono ?_; rintro e w' ⟨rfl, ⟨nd, rfl⟩⟩) | (go_at_call 15; refine (skip_calls (w.heap.size + 1) s a b m (wr.drewN nd) HG.out hm (by have := HS.out; omega) (by have := HS.out; omega) (by have := HS.out; omega)).mono ?_; rintro e w5 ⟨rfl, hz5, hg5⟩))
      go_roundg k1
      case measure => have := HK.out; omega
      case rel => exact ⟨_, _, _, out, H, HX, ⟨hz5⟩, ⟨(hg5.block _ g0 (by simp)).trans HT.out⟩, ⟨below_grown_set (pw_below_drewN HB.out _) (by omega) hg5⟩, ⟨row_keep (Kd.R_drewN HO.out _) HG.out hg5⟩, ⟨by have := HK.out; omega⟩⟩
    rw [if_neg hn1] at h
    replace h := Option.bind_eq_some_iff.mp h
    obtain ⟨⟨t1, t2, t3, t4, t5, t6⟩, ht, h⟩ := h
    dsimp only at h
    have HTK := Aside0.mk ht
    clear ht
    have hn1' : decide (0 < n) = false := decide_eq_false hn1
    have hn0' : decide (n < 0) = false := decide_eq_false hn0
    by_cases ht6 : t6 = 0
    · rw [if_pos ht6] at h
      subst ht6
      by_cases hts : t2.size ≤ s.size
      case neg => rw [if_neg hts] at h; cases h
      rw [if_pos hts] at h
      by_cases hol : out.length < 100000
      case neg => rw [if_neg hol] at h; cases h
      rw [if_pos hol] at h
      have H := Aside0.mk h
      have hp := posL_pos (s.data.toList.take t2.size) a b HS.out.2.1 HS.out.2.2.1
      rw [List.length_take, data_length, Nat.min_eq_left hts] at hp
      have hxs : (s.extract t2.size s.size).size = s.size - t2.size := by simp
      have HX : Aside0 ((s.extract t2.size s.size).size ≤ 65536 ∧ 1 ≤ (posL (s.data.toList.take t2.size) a b).1 ∧ 1 ≤ (posL (s.data.toList.take t2.size) a b).2 ∧ (posL (s.data.toList.take t2.size) a b).1 + (s.extract t2.size s.size).size ≤ 1000000 ∧ (posL (s.data.toList.take t2.size) a b).2 + (s.extract t2.size s.size).size ≤ 1000000) := ⟨by have := HS.out; omega⟩
      clear hxs hp
      have HTS := Aside0.mk hts
      have HOL := Aside0.mk hol
      clear h hts hol
      go_wp2_with (first | (go_at_call 14; refine (lex_blank.calls s n _ (HGW.out.at_ HB.out) HN.out).mono ?_; rintro e w' ⟨rfl, ⟨nd, rfl⟩⟩) | (go_at_call 16; refine (lex_token.calls k1 s t1 t2 t3 t4 t5 0 _ HTK.out).mono ?_; rintro e w5 ⟨rfl, hb5⟩; have HG5 := Aside0.mk ((hb5.block _ g1).trans HG.out); have HT5 := Aside0.mk ((hb5.block _ g0).trans HT.out); have HB5 := Aside0.mk (below_then (pw_below_drewN HB.out _) (pw_below_drewN HB.out _).size hb5); have HO5 := Aside0.mk (Kd.R_below (Kd.R_drewN HO.out nd) hb5); clear hb5; have g15 := blk_lt HG5.out; have g05 := blk_lt HT5.out; have c05 := blk_cell HG5.out 0; have c15 := blk_cell HG5.out 1; have c25 := blk_cell HG5.out 2; have d05 := blk_cell HT5.out 0; have d15 := blk_cell HT5.out 1; have e05 := blk_frozen HT5.out 0; have e15 := blk_frozen HT5.out 1; simp only [List.getElem?_toArray, List.getElem?_cons_zero, List.getElem?_cons_succ] at c05 c15 c25 d05 d15) | (at_builtin; (refine Kd.R_append k33 (w0 := w) w.heap.size rfl (.tmp 62) (.tmp 64) 24 33 (.agg #[(.int .i64 0), (.string ⟨#[]⟩), (.int .u32 0), (.int .i64 0), (.int .i64 0)]) 48 rfl Try.underlying24 info33 rfl (by decide) (by omega) u6 out ⟨t1, t2, t3, ⟨a, b⟩⟩ [.int .i64 t1, .string t2, .int .u32 t3, .int .i64 a, .int .i64 b] (fun _ => True) (fun _ => False) rfl ?aX ?aP (fun _ hk => hk.elim) ?aF ?aO ?aB ?aS ?aL ?_); (case aX => exact congrArg (fun z => Value.slice (some ⟨z, 0, none⟩) 1 1) (show w5.heap.size + 1 = (w5.alloc _).heap.size by simp)); (case aP => exact k33_mkM _ _ _ _); (case aF => exact fun _ _ => trivial); (case aO => exact Kd.R_alloc HO5.out _); (case aB => exact below_alloc HB5.out _); (case aS => exact (below_alloc HB5.out _).size); (case aL => have := HOL.out; omega); intro v8 w8 ho8 hb8 hg8 hat8; have HG8 := Aside0.mk (blk_grown ((heap_alloc_old _ _ g15).trans HG5.out) hg8 (row_ne HO5.out HG5.out (by decide))); have HT8 := Aside0.mk (blk_grown ((heap_alloc_old _ _ g05).trans HT5.out) hg8 (row_ne HO5.out HT5.out (by decide))); have HK8 := Aside0.mk (blk_grown (heap_alloc_last w5 _) hg8 (row_ne_new HO5.out)); have HO8 := Aside0.mk ho8; have HB8 := Aside0.mk hb8; clear ho8 hb8 hg8 hat8; have g18 := blk_lt HG8.out; have c08 := blk_cell HG8.out 0; have k18 := blk_cell HK8.out 1; simp only [List.getElem?_toArray, List.getElem?_cons_zero, List.getElem?_cons_succ] at c08 k18) | (go_at_call 15; refine (skip_calls (w.heap.size + 1) s a b t2.size w8 HG8.out HTS.out (by have := HS.out; omega) (by have := HS.out; omega) (by have := HS.out; omega)).mono ?_; rintro e w9 ⟨rfl, hz9, hg9⟩))
      go_roundg k1
      case measure => have := HK.out; omega
      case rel => exact ⟨_, _, _, _, H, HX, ⟨hz9⟩, ⟨(hg9.block _ (blk_lt HT8.out) (by simp)).trans HT8.out⟩, ⟨below_grown_set HB8.out (by omega) hg9⟩, ⟨row_keep HO8.out HG8.out hg9⟩, ⟨by have := HK.out; omega⟩⟩
    · rw [if_neg ht6] at h
      simp only [Option.some.injEq, Prod.mk.injEq] at h
      obtain ⟨rfl, rfl, rfl, rfl⟩ := h
      have hb6 : (t6 == 0) = false := by simpa using ht6
      have hb7 : (t6 != 0) = true := by simpa using ht6
      clear ht6
      go_wp2_with (first | (go_at_call 14; refine (lex_blank.calls s n _ (HGW.out.at_ HB.out) HN.out).mono ?_; rintro e w' ⟨rfl, ⟨nd, rfl⟩⟩) | (go_at_call 16; refine (lex_token.calls k1 s t1 t2 t3 t4 t5 t6 _ HTK.out).mono ?_; rintro e w5 ⟨rfl, hb5⟩; have HG5 := Aside0.mk ((hb5.block _ g1).trans HG.out); have HT5 := Aside0.mk ((hb5.block _ g0).trans HT.out); have HB5 := Aside0.mk (below_then (pw_below_drewN HB.out _) (pw_below_drewN HB.out _).size hb5); clear hb5; have g15 := blk_lt HG5.out; have g05 := blk_lt HT5.out; have c05 := blk_cell HG5.out 0; have c15 := blk_cell HG5.out 1; have c25 := blk_cell HG5.out 2; have d05 := blk_cell HT5.out 0; have d15 := blk_cell HT5.out 1; have e05 := blk_frozen HT5.out 0; have e15 := blk_frozen HT5.out 1; simp only [List.getElem?_toArray, List.getElem?_cons_zero, List.getElem?_cons_succ] at c05 c15 c25 d05 d15))
      go_region
      go_wp2
      have hz : (((w5.setCell ⟨w.heap.size, 0, none⟩ (.int .i64 a)).setCell ⟨w.heap.size, 1, none⟩ (.int .i64 b)).alloc (.cells #[.int .i64 t1, .string t2, .int .u32 t3, .int .i64 t4, .int .i64 t5] 33)).drew.heap[w.heap.size]? = some (.cells #[.int .i64 a, .int .i64 b] 26 (0, 0)) := (heap_alloc_old _ _ (by simpa using g05)).trans (pos_set HT5.out _ _)
      refine bodyPost_ret (v := .tuple #[.slice none 0 0, .agg #[.int .i64 a, .int .i64 b], .int .i64 t6]) (results_list (rs := [.tmp 2, .cell 3 26, .tmp 4]) rfl (by simp) (.tmp (.cell w.heap.size 26 _ (0, 0) _ rfl hz Try.underlying26 rfl (by kernel_rfl) (.tmp .nil)))) rfl ⟨_, rfl, Kd.R_nil _ _ _ _ _, ?_⟩
      exact below_drew (below_alloc (below_set (below_set HB5.out (Nat.le_refl _)) (Nat.le_refl _)) _)
end Go.Proofs.Ytgelabhiebmadaa.P
end
