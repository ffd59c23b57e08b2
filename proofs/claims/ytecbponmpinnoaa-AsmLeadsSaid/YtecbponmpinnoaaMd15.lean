/- A claim's text, put together by a program of this session (wip/tools/shake.py): the declarations that the claim needs. -/
import Derived.Test.YtecbponmpinnoaaMd0
import Derived.Test.YtecbponmpinnoaaMd1
import Derived.Test.YtecbponmpinnoaaMd2
import Derived.Test.YtecbponmpinnoaaMd3
import Derived.Test.YtecbponmpinnoaaMd4
import Derived.Test.YtecbponmpinnoaaMd5
import Derived.Test.YtecbponmpinnoaaMd6
import Derived.Test.YtecbponmpinnoaaMd7
import Derived.Test.YtecbponmpinnoaaMd8
import Derived.Test.YtecbponmpinnoaaMd9
import Derived.Test.YtecbponmpinnoaaMd10
import Derived.Test.YtecbponmpinnoaaMd11
import Derived.Test.YtecbponmpinnoaaMd12
import Derived.Test.YtecbponmpinnoaaMd13
import Derived.Test.YtecbponmpinnoaaMd14
import Derived.Test.YtecbponmpinnoaaProg
import Derived.Below
import Derived.Deep.Draws
import Derived.Deep.AppendLies
import Derived.Maps.AppendAt
import Derived.OwnWalk
import Derived.Laws.BytesArg
import Derived.Laws.MakeOwn
import Derived.Laws.OwnMore
import Derived.Deep.OwnRows
import Derived.Tactics
import Derived.Lib.ConvBytes
import Derived.Laws.Slices
import Derived.WalkKit
import Derived.KernelRfl
import Derived.RowKit3
import Derived.Deep.LoopGhost
import Derived.Deep.QuietTactic
import Derived.BigQuiet
import Derived.WideLaws
import Derived.Deep.DeepCutAuto
import Derived.Deep.CutBlock
import Derived.Deep.RegionHeld3
import Derived.Laws.Rows
import Derived.Lib.AppendStr
import Derived.ArgAppend
import Derived.Laws.IdiomCopy
import Derived.OrdersHeld
import Derived.Laws.BitsLemmas
import Derived.RowKit
import Derived.Deep.WholeRow
import Derived.Outline
import Derived.WalkMore
import Derived.ScopeJumps
import Derived.Deep.DeepFit
import Derived.Maps.OwnOps
import Derived.Maps.Views
import Derived.Carry
import Derived.WalkArith
import Derived.Laws.StructEq
import Derived.Laws.BitsAllLaws
import Derived.IntWalk
set_option linter.unusedVariables false
set_option linter.unusedSimpArgs false
section
namespace Go.Proofs.Ytecbponmpinnoaa.InstM
open Go Go.RowKit Go.Proofs.Ytecbponmpinnoaa.P Go.Proofs.YtecbponmpinnoaaW.PrintWords Go.Proofs.YtecbponmpinnoaaW.PrintLast Go.Proofs.YtecbponmpinnoaaW.PrintMore
set_option linter.unusedVariables false
theorem forms_table : ∀ n : Fin 46, (formOf (n.val : Int) = 85 ∨ formOf (n.val : Int) = 74 → thirdM n.val = 0 ∧ seventhM n.val = 0) ∧ (formOf (n.val : Int) = 73 ∨ formOf (n.val : Int) = 83 ∨ formOf (n.val : Int) = 66 → seventhM n.val = 0) := by decide +kernel
theorem forms_in {op : Int} (h0 : 0 ≤ op) (h1 : op ≤ 45) : (formOf op = 85 ∨ formOf op = 74 → thirdM op = 0 ∧ seventhM op = 0) ∧ (formOf op = 73 ∨ formOf op = 83 ∨ formOf op = 66 → seventhM op = 0) := by
  have h := forms_table ⟨op.toNat, by omega⟩
  simpa [Int.toNat_of_nonneg h0] using h
theorem sprM_parts (f m : Int) : sprM f m = F 0 (sprM f m / 128 % 32) (sprM f m / 4096 % 8) (sprM f m / 32768 % 32) (sprM f m / 1048576 % 32) (sprM f m / 33554432) := by
  have h := sprM_range f m
  have h2 : sprM f m % 128 = 0 := by
    unfold sprM
    repeat' split
    all_goals omega
  generalize sprM f m = v at *
  unfold F
  omega
theorem encode_f (k : Nat) (hk : 2 ≤ k) (op rd rs1 rs2 imm : Int) : inst_Encode.f k op rd rs1 rs2 imm = some (encM op rd rs1 rs2 imm) := by
  obtain ⟨k, rfl⟩ : ∃ m, k = m + 2 := ⟨k - 2, by omega⟩
  unfold inst_Encode.f encM
  rw [right_f, Option.bind_some]
  by_cases h : rightB op rd rs1 rs2 imm = true
  · obtain ⟨a1, a2, a3, a4, b1, b2, b3, b4⟩ := right_all h
    obtain ⟨o1, o2⟩ := right_op h
    rw [if_pos h, if_pos h]
    have hs : inst_of.f op = some (⟨(shapeOf op).1.toArray⟩, formOf op, codeM op, thirdM op, seventhM op) := by
      unfold inst_of.f
      rw [shape_eq o1 o2]
    rw [hs]
    simp only [Option.bind_some]
    rw [show inst_number.f (k + 2) (formOf op) (imm % 4294967296) = _ from number_f (k + 1) _ _ imm rfl b4]
    simp only [Option.bind_some, Option.some.injEq, Prod.mk.injEq, and_true]
    have hc := codes_in (show 0 ≤ op by omega) o2
    have hf := forms_in (show 0 ≤ op by omega) o2
    have hv := sprM_range (formOf op) (imm % 4294967296)
    have hp := sprM_parts (formOf op) (imm % 4294967296)
    have hx := formOf_cases op
    have hd : (sprM (formOf op) (imm % 4294967296) / 128 % 32 = 0 ∨ rd = 0) ∧ (sprM (formOf op) (imm % 4294967296) / 4096 % 8 = 0 ∨ thirdM op = 0) ∧ (sprM (formOf op) (imm % 4294967296) / 32768 % 32 = 0 ∨ rs1 = 0) ∧ (sprM (formOf op) (imm % 4294967296) / 1048576 % 32 = 0 ∨ rs2 = 0) ∧ (sprM (formOf op) (imm % 4294967296) / 33554432 = 0 ∨ seventhM op = 0) := by
      clear hp hv hs
      have hm : 0 ≤ imm % 4294967296 ∧ imm % 4294967296 < 4294967296 := by omega
      have hz := fun (n : Int) (e : regB n false = true) => regB_none e
      rcases hx with e | e | e | e | e | e | e | e <;> rw [e] at b1 b2 b3 b4 hf ⊢ <;> simp [has1, has2, has3, roomB] at b1 b2 b3 b4 hf <;> simp [sprM]
      · have := hz _ b2; have := hz _ b3; omega
      · have := hz _ b2; have := hz _ b3; omega
      · have := hz _ b3; omega
      · have := hz _ b3; omega
      · have := hz _ b1; omega
      · have := hz _ b1
        have hb : ∀ a b c d : Int, 0 ≤ a → a < 2 → 0 ≤ b → b < 64 → 0 ≤ c → c < 16 → 0 ≤ d → d < 2 → (a * 2147483648 + b * 33554432 + c * 256 + d * 128) / 4096 % 8 = 0 ∧ (a * 2147483648 + b * 33554432 + c * 256 + d * 128) / 32768 % 32 = 0 ∧ (a * 2147483648 + b * 33554432 + c * 256 + d * 128) / 1048576 % 32 = 0 := by
          intro a b c d _ _ _ _ _ _ _ _
          omega
        have := hb (imm % 4294967296 / 4096 % 2) (imm % 4294967296 / 32 % 64) (imm % 4294967296 / 2 % 16) (imm % 4294967296 / 2048 % 2) (by omega) (by omega) (by omega) (by omega) (by omega) (by omega) (by omega) (by omega)
        generalize imm % 4294967296 / 4096 % 2 * 2147483648 + imm % 4294967296 / 32 % 64 * 33554432 + imm % 4294967296 / 2 % 16 * 256 + imm % 4294967296 / 2048 % 2 * 128 = v at *
        omega
    unfold wordM
    generalize sprM (formOf op) (imm % 4294967296) = v at *
    generalize codeM op = c at *
    generalize thirdM op = t at *
    generalize seventhM op = s at *
    obtain ⟨d1, d2, d3, d4, d5⟩ := hd
    have i0 : InF c 0 0 0 0 0 := by unfold InF; omega
    have i1 : InF 0 0 t 0 0 0 := by unfold InF; omega
    have i2 : InF c 0 t 0 0 0 := by unfold InF; omega
    have i3 : InF 0 0 0 0 0 s := by unfold InF; omega
    have i4 : InF 0 rd 0 0 0 0 := by unfold InF; omega
    have i5 : InF 0 0 0 rs1 0 0 := by unfold InF; omega
    have i6 : InF 0 rd 0 rs1 0 0 := by unfold InF; omega
    have i7 : InF 0 0 0 0 rs2 0 := by unfold InF; omega
    have i8 : InF c 0 t 0 0 s := by unfold InF; omega
    have i9 : InF 0 rd 0 rs1 rs2 0 := by unfold InF; omega
    have i10 : InF c rd t rs1 rs2 s := by unfold InF; omega
    have i11 : InF 0 (v / 128 % 32) (v / 4096 % 8) (v / 32768 % 32) (v / 1048576 % 32) (v / 33554432) := by unfold InF; omega
    rw [show t * 4096 % 4294967296 = F 0 0 t 0 0 0 from by unfold F; omega, show s * 33554432 % 4294967296 = F 0 0 0 0 0 s from by unfold F; omega, show rd % 4294967296 * 128 % 4294967296 = F 0 rd 0 0 0 0 from by unfold F; omega,
      show rs1 % 4294967296 * 32768 % 4294967296 = F 0 0 0 rs1 0 0 from by unfold F; omega, show rs2 % 4294967296 * 1048576 % 4294967296 = F 0 0 0 0 rs2 0 from by unfold F; omega]
    have j1 : Go.bits .or .u32 c (F 0 0 t 0 0 0) = F c 0 t 0 0 0 := by
      have := F_or i0 i1 (by omega) (by omega) (by omega) (by omega) (by omega) (by omega)
      simpa [F] using this
    have j2 := F_or i2 i3 (by omega) (by omega) (by omega) (by omega) (by omega) (by omega)
    have j3 := F_or i4 i5 (by omega) (by omega) (by omega) (by omega) (by omega) (by omega)
    have j4 := F_or i6 i7 (by omega) (by omega) (by omega) (by omega) (by omega) (by omega)
    have j5 := F_or i8 i9 (by omega) (by omega) (by omega) (by omega) (by omega) (by omega)
    have j6 := F_or i10 i11 (by omega) (by omega) (by omega) (by omega) (by omega) (by omega)
    simp only [Int.add_zero, Int.zero_add] at j2 j3 j4 j5 j6
    rw [j1, j2, j3, j4, j5, hp, j6, ← hp]
    have h6 := F_range (c := c) (r := rd + v / 128 % 32) (t := t + v / 4096 % 8) (q := rs1 + v / 32768 % 32) (p := rs2 + v / 1048576 % 32) (s := s + v / 33554432) (by unfold InF; omega)
    unfold F at *
    omega
  · rw [if_neg h, if_neg h]
def fitB (f c t s w : Int) : Bool := decide (w % 128 = c) && (decide (f = 85 ∨ f = 74) || (decide (w / 4096 % 8 = t) && (decide (f ≠ 82 ∧ f ≠ 72) || decide (w / 33554432 = s))))
def sgn (n b : Int) : Int := if n ≥ b then n - 2 * b else n
def gatM (f w : Int) : Int :=
  if f = 85 then sgn (w / 4096 % 1048576 * 4096) 2147483648
  else if f = 74 then sgn (w / 2147483648 % 2 * 1048576 + w / 2097152 % 1024 * 2 + w / 1048576 % 2 * 2048 + w / 4096 % 256 * 4096) 1048576
  else if f = 73 then sgn (w / 1048576 % 4096) 2048
  else if f = 72 then w / 1048576 % 32
  else if f = 83 then sgn (w / 128 % 32 + w / 33554432 % 128 * 32) 2048
  else if f = 66 then sgn (w / 2147483648 % 2 * 4096 + w / 33554432 % 64 * 32 + w / 256 % 16 * 2 + w / 128 % 2 * 2048) 4096
  else 0
theorem fits_f (k : Nat) (nm : ByteArray) (f c t s w : Int) (h0 : 0 ≤ w) (h1 : w < 4294967296) : inst_fits.f (k + 1) nm f c t s w = some (fitB f c t s w) := by
  unfold inst_fits.f fitB
  have e1 : Go.bits .and .u32 w 127 = w % 128 := and_mask w 7 h0 h1 (by omega)
  have e2 : inst_bits.f w 12 3 = some (w / 4096 % 8) := by simpa using bits_f w 12 3 h0 h1 (by omega) (by omega)
  rw [e1]
  by_cases c1 : w % 128 = c
  · rw [if_pos c1]
    simp only [inst_fits.j0, e2, Option.bind_some]
    by_cases c2 : f = 85
    · simp [c1, c2]
    by_cases c3 : f = 74
    · simp [c1, c3]
    by_cases c4 : w / 4096 % 8 = t
    · by_cases c5 : f = 82
      · subst c5
        by_cases c7 : w / 33554432 = s <;> simp [c1, c4, c7]
      · by_cases c6 : f = 72
        · subst c6
          by_cases c7 : w / 33554432 = s <;> simp [c1, c4, c7]
        · simp [c1, c2, c3, c4, c5, c6]
    · simp [c1, c2, c3, c4]
  · simp [c1]
theorem or_split (a b a' b' : Int) (k : Nat) (ha : 0 ≤ a ∧ a < 2 ^ k) (ha' : 0 ≤ a' ∧ a' < 2 ^ k) (hb : 0 ≤ b) (hb' : 0 ≤ b') (h : a + 2 ^ k * b < 4294967296) (h' : a' + 2 ^ k * b' < 4294967296) :
    Go.bits .or .u32 (a + 2 ^ k * b) (a' + 2 ^ k * b') = ((a.toNat ||| a'.toNat : Nat) : Int) + 2 ^ k * ((b.toNat ||| b'.toNat : Nat) : Int) := by
  obtain ⟨x, rfl⟩ := Int.eq_ofNat_of_zero_le ha.1
  obtain ⟨y, rfl⟩ := Int.eq_ofNat_of_zero_le ha'.1
  obtain ⟨z, rfl⟩ := Int.eq_ofNat_of_zero_le hb
  obtain ⟨u, rfl⟩ := Int.eq_ofNat_of_zero_le hb'
  have e1 : ((2 ^ k : Nat) : Int) = (2 : Int) ^ k := by rw [Int.natCast_pow]; rfl
  have hk : (0 : Int) ≤ 2 ^ k := by rw [← e1]; omega
  have g1 : (x : Int) + 2 ^ k * (z : Int) = ((x + 2 ^ k * z : Nat) : Int) := by rw [← e1]; push_cast; rfl
  have g2 : (y : Int) + 2 ^ k * (u : Int) = ((y + 2 ^ k * u : Nat) : Int) := by rw [← e1]; push_cast; rfl
  have hx : x < 2 ^ k := by have := ha.2; rw [← e1] at this; exact_mod_cast this
  have hy : y < 2 ^ k := by have := ha'.2; rw [← e1] at this; exact_mod_cast this
  rw [g1, g2, u32_or _ _ (by omega) (by omega) (by omega) (by omega), Int.toNat_natCast, Int.toNat_natCast, or_parts k _ _ _ _ hx hy]
  simp only [Int.toNat_natCast]
  rw [← e1]
  push_cast
  rfl
theorem or_mid (x1 x2 x3 x4 : Int) (b1 : 0 ≤ x1 ∧ x1 < 2) (b2 : 0 ≤ x2 ∧ x2 < 1024) (b3 : 0 ≤ x3 ∧ x3 < 2) (b4 : 0 ≤ x4 ∧ x4 < 256) :
    Go.bits .or .u32 (Go.bits .or .u32 (x1 * 1048576 + x2 * 2) (x3 * 2048)) (x4 * 4096) = x1 * 1048576 + x2 * 2 + x3 * 2048 + x4 * 4096 := by
  have h1 := or_split (x2 * 2) (x1 * 512) 0 x3 11 (by omega) (by omega) (by omega) (by omega) (by omega) (by omega)
  have h2 : Go.bits .or .u32 (x1 * 512) x3 = x1 * 512 + x3 := or_low _ _ 9 (by omega) (by omega) (by omega) (by omega) (by omega) (by omega)
  rw [u32_or _ _ (by omega) (by omega) (by omega) (by omega)] at h2
  rw [h2] at h1
  simp only [Int.toNat_zero, Nat.or_zero, Int.toNat_of_nonneg (show 0 ≤ x2 * 2 by omega)] at h1
  rw [show x1 * 1048576 + x2 * 2 = x2 * 2 + 2 ^ 11 * (x1 * 512) from by omega, show x3 * 2048 = 0 + 2 ^ 11 * x3 from by omega, h1]
  have h3 := or_split (x2 * 2 + x3 * 2048) (x1 * 256) 0 x4 12 (by omega) (by omega) (by omega) (by omega) (by omega) (by omega)
  have h4 : Go.bits .or .u32 (x1 * 256) x4 = x1 * 256 + x4 := or_low _ _ 8 (by omega) (by omega) (by omega) (by omega) (by omega) (by omega)
  rw [u32_or _ _ (by omega) (by omega) (by omega) (by omega)] at h4
  rw [h4] at h3
  simp only [Int.toNat_zero, Nat.or_zero, Int.toNat_of_nonneg (show 0 ≤ x2 * 2 + x3 * 2048 by omega)] at h3
  rw [show x2 * 2 + 2 ^ 11 * (x1 * 512 + x3) = x2 * 2 + x3 * 2048 + 2 ^ 12 * (x1 * 256) from by omega, show x4 * 4096 = 0 + 2 ^ 12 * x4 from by omega, h3]
  omega
theorem or_mid2 (x1 x2 x3 x4 : Int) (b1 : 0 ≤ x1 ∧ x1 < 2) (b2 : 0 ≤ x2 ∧ x2 < 64) (b3 : 0 ≤ x3 ∧ x3 < 16) (b4 : 0 ≤ x4 ∧ x4 < 2) :
    Go.bits .or .u32 (x1 * 4096 + x2 * 32 + x3 * 2) (x4 * 2048) = x1 * 4096 + x2 * 32 + x3 * 2 + x4 * 2048 := by
  have h1 := or_split (x2 * 32 + x3 * 2) (x1 * 2) 0 x4 11 (by omega) (by omega) (by omega) (by omega) (by omega) (by omega)
  have h2 : Go.bits .or .u32 (x1 * 2) x4 = x1 * 2 + x4 := or_low _ _ 1 (by omega) (by omega) (by omega) (by omega) (by omega) (by omega)
  rw [u32_or _ _ (by omega) (by omega) (by omega) (by omega)] at h2
  rw [h2] at h1
  simp only [Int.toNat_zero, Nat.or_zero, Int.toNat_of_nonneg (show 0 ≤ x2 * 32 + x3 * 2 by omega)] at h1
  rw [show x1 * 4096 + x2 * 32 + x3 * 2 = x2 * 32 + x3 * 2 + 2 ^ 11 * (x1 * 2) from by omega, show x4 * 2048 = 0 + 2 ^ 11 * x4 from by omega, h1]
  omega
theorem sign_f (n : Int) (b : Nat) (hb : 1 ≤ b) (hb2 : b ≤ 31) (h0 : 0 ≤ n) (h1 : n < 2 ^ b) : word_Sign.f n (b : Int) = some (sgn n (2 ^ (b - 1)) % 4294967296) := by
  unfold word_Sign.f
  rw [if_neg (by omega), if_neg (by omega), w64 (n := 32 - (b : Int)) (by omega), if_pos (by omega)]
  have hp := pow_pos b (by omega)
  have e : (32 - (b : Int)) = ((32 - b : Nat) : Int) := by omega
  have epow : (2 : Int) ^ (32 - b) * 2 ^ b = 4294967296 := by
    rw [← Int.pow_add, show 32 - b + b = 32 from by omega]
    rfl
  have ehalf : (2 : Int) ^ b = 2 * 2 ^ (b - 1) := by
    rw [← Int.pow_succ', show b - 1 + 1 = b from by omega]
  have hq := pow_pos (32 - b) (by omega)
  have hh := pow_pos (b - 1) (by omega)
  have e1 : shl .u32 n (32 - (b : Int)) = n * 2 ^ (32 - b) := by
    unfold shl
    rw [e, Int.toNat_natCast, show min (32 - b) IntKind.u32.bits = 32 - b from Nat.min_eq_left (show 32 - b ≤ 32 by omega), IntKind.wrap_u32']
    refine Int.emod_eq_of_lt (Int.mul_nonneg h0 (by omega)) ?_
    rw [← epow, Int.mul_comm n]
    exact Int.mul_lt_mul_of_pos_left h1 (by omega)
  have e2 : ∀ x : Int, shr .i32 x (32 - (b : Int)) = x / 2 ^ (32 - b) := by
    intro x
    unfold shr
    rw [e, Int.toNat_natCast, show min (32 - b) IntKind.i32.bits = 32 - b from Nat.min_eq_left (show 32 - b ≤ 32 by omega)]
  rw [e1, e2]
  congr 1
  unfold sgn
  have ep2 : (2 : Int) ^ (32 - b) * 2 ^ (b - 1) = 2147483648 := by
    rw [← Int.pow_add, show 32 - b + (b - 1) = 31 from by omega]
    rfl
  by_cases hn : n ≥ 2 ^ (b - 1)
  · rw [if_pos hn]
    have a1 : n * 2 ^ (32 - b) ≥ 2147483648 := by
      rw [← ep2, Int.mul_comm n]
      exact Int.mul_le_mul_of_nonneg_left hn (by omega)
    have a2 : n * 2 ^ (32 - b) < 4294967296 := by
      rw [← epow, Int.mul_comm n]
      exact Int.mul_lt_mul_of_pos_left h1 (by omega)
    have a3 : wrap32 (n * 2 ^ (32 - b)) = (n - 2 * 2 ^ (b - 1)) * 2 ^ (32 - b) := by
      rw [show (n - 2 * 2 ^ (b - 1)) * 2 ^ (32 - b) = n * 2 ^ (32 - b) - 4294967296 from by
        rw [Int.sub_mul, ← ehalf, Int.mul_comm (2 ^ b), epow]]
      unfold wrap32
      omega
    rw [a3, Int.mul_ediv_cancel _ (by omega)]
  · rw [if_neg hn]
    have a1 : n * 2 ^ (32 - b) < 2147483648 := by
      rw [← ep2, Int.mul_comm n]
      exact Int.mul_lt_mul_of_pos_left (by omega) (by omega)
    have a2 : 0 ≤ n * 2 ^ (32 - b) := Int.mul_nonneg h0 (by omega)
    have a3 : wrap32 (n * 2 ^ (32 - b)) = n * 2 ^ (32 - b) := by
      unfold wrap32
      omega
    rw [a3, Int.mul_ediv_cancel _ (by omega)]
theorem wrapSign (x : Int) (h : -2147483648 ≤ x ∧ x < 2147483648) : wrap64 (wrap32 (x % 4294967296)) = x := by
  unfold wrap32 wrap64
  omega
theorem sign21 (n : Int) (h0 : 0 ≤ n) (h1 : n < 2097152) : word_Sign.f n 21 = some (sgn n 1048576 % 4294967296) := by simpa using sign_f n 21 (by omega) (by omega) h0 (by omega)
theorem sign12 (n : Int) (h0 : 0 ≤ n) (h1 : n < 4096) : word_Sign.f n 12 = some (sgn n 2048 % 4294967296) := by simpa using sign_f n 12 (by omega) (by omega) h0 (by omega)
theorem sign13 (n : Int) (h0 : 0 ≤ n) (h1 : n < 8192) : word_Sign.f n 13 = some (sgn n 4096 % 4294967296) := by simpa using sign_f n 13 (by omega) (by omega) h0 (by omega)
theorem andNot_low (w : Int) (h0 : 0 ≤ w) (h1 : w < 4294967296) : Go.bits .andNot .u32 w 4095 = w / 4096 % 1048576 * 4096 := by
  rw [u32_andNot _ _ h0 h1 (by omega) (by omega)]
  obtain ⟨n, rfl⟩ := Int.eq_ofNat_of_zero_le h0
  rw [Int.toNat_natCast, show (4294967295 - (4095 : Int).toNat : Nat) = 4294963200 from rfl]
  have hn : n < 4294967296 := by omega
  have e4 : n &&& 4294963200 = n / 4096 * 4096 := by
    have h2 : (n &&& 4294963200) % 2 ^ 12 = 0 := by
      rw [Nat.and_mod_two_pow]
      simp
    have h3 : (n &&& 4294963200) / 2 ^ 12 = n / 4096 := by
      rw [← Nat.shiftRight_eq_div_pow, Nat.shiftRight_and_distrib, Nat.shiftRight_eq_div_pow, Nat.shiftRight_eq_div_pow, show 4294963200 / 2 ^ 12 = 2 ^ 20 - 1 from rfl, Nat.and_two_pow_sub_one_eq_mod]
      omega
    omega
  rw [e4]
  omega
theorem told_85 (w : Int) (h0 : 0 ≤ w) (h1 : w < 4294967296) : inst_told.f 85 w = some (gatM 85 w) := by
  have bt : ∀ a b : Nat, a ≤ 32 → b < 32 → inst_bits.f w (a : Int) (b : Int) = some (w / 2 ^ a % 2 ^ b) := fun a b ha hb => bits_f w a b h0 h1 ha hb
  unfold inst_told.f gatM
  simp only [if_true, reduceIte, Int.reduceEq]
  
  rw [andNot_low w h0 h1]
  congr 1
  unfold sgn wrap32 wrap64
  split <;> omega
theorem told_74 (w : Int) (h0 : 0 ≤ w) (h1 : w < 4294967296) : inst_told.f 74 w = some (gatM 74 w) := by
  have bt : ∀ a b : Nat, a ≤ 32 → b < 32 → inst_bits.f w (a : Int) (b : Int) = some (w / 2 ^ a % 2 ^ b) := fun a b ha hb => bits_f w a b h0 h1 ha hb
  unfold inst_told.f gatM
  simp only [if_true, reduceIte, Int.reduceEq]
  rw [show inst_bits.f w 31 1 = some (w / 2147483648 % 2) from by simpa using bt 31 1 (by omega) (by omega), show inst_bits.f w 21 10 = some (w / 2097152 % 1024) from by simpa using bt 21 10 (by omega) (by omega), show inst_bits.f w 20 1 = some (w / 1048576 % 2) from by simpa using bt 20 1 (by omega) (by omega), show inst_bits.f w 12 8 = some (w / 4096 % 256) from by simpa using bt 12 8 (by omega) (by omega)]
  rw [Option.bind_some, Option.bind_some, Option.bind_some, Option.bind_some]
  have b1 : 0 ≤ w / 2147483648 % 2 ∧ w / 2147483648 % 2 < 2 := by omega
  have b2 : 0 ≤ w / 2097152 % 1024 ∧ w / 2097152 % 1024 < 1024 := by omega
  have b3 : 0 ≤ w / 1048576 % 2 ∧ w / 1048576 % 2 < 2 := by omega
  have b4 : 0 ≤ w / 4096 % 256 ∧ w / 4096 % 256 < 256 := by omega
  generalize w / 2147483648 % 2 = x1 at *
  generalize w / 2097152 % 1024 = x2 at *
  generalize w / 1048576 % 2 = x3 at *
  generalize w / 4096 % 256 = x4 at *
  have e : Go.bits .or .u32 (Go.bits .or .u32 (Go.bits .or .u32 (x1 * 1048576 % 4294967296) (x2 * 2 % 4294967296)) (x3 * 2048 % 4294967296)) (x4 * 4096 % 4294967296) = x1 * 1048576 + x2 * 2 + x3 * 2048 + x4 * 4096 := by
    rw [Int.emod_eq_of_lt (a := x1 * 1048576) (by omega) (by omega), Int.emod_eq_of_lt (a := x2 * 2) (by omega) (by omega), Int.emod_eq_of_lt (a := x3 * 2048) (by omega) (by omega), Int.emod_eq_of_lt (a := x4 * 4096) (by omega) (by omega)]
    rw [or_low (x1 * 1048576) (x2 * 2) 20 (by omega) (by omega) (by omega) (by omega) (by omega) (by omega)]
    rw [or_mid x1 x2 x3 x4 b1 b2 b3 b4]
  rw [e, sign21 _ (by omega) (by omega)]
  rw [Option.bind_some]
  rw [wrapSign _ (by unfold sgn; split <;> omega)]
theorem told_73 (w : Int) (h0 : 0 ≤ w) (h1 : w < 4294967296) : inst_told.f 73 w = some (gatM 73 w) := by
  have bt : ∀ a b : Nat, a ≤ 32 → b < 32 → inst_bits.f w (a : Int) (b : Int) = some (w / 2 ^ a % 2 ^ b) := fun a b ha hb => bits_f w a b h0 h1 ha hb
  unfold inst_told.f gatM
  simp only [if_true, reduceIte, Int.reduceEq]
  
  congr 1
  unfold sgn wrap32 wrap64
  split <;> omega
theorem told_72 (w : Int) (h0 : 0 ≤ w) (h1 : w < 4294967296) : inst_told.f 72 w = some (gatM 72 w) := by
  have bt : ∀ a b : Nat, a ≤ 32 → b < 32 → inst_bits.f w (a : Int) (b : Int) = some (w / 2 ^ a % 2 ^ b) := fun a b ha hb => bits_f w a b h0 h1 ha hb
  unfold inst_told.f gatM
  simp only [if_true, reduceIte, Int.reduceEq]
  rw [show inst_bits.f w 20 5 = some (w / 1048576 % 32) from by simpa using bt 20 5 (by omega) (by omega)]
  rw [Option.bind_some]
  rw [w64 (by omega)]
theorem told_83 (w : Int) (h0 : 0 ≤ w) (h1 : w < 4294967296) : inst_told.f 83 w = some (gatM 83 w) := by
  have bt : ∀ a b : Nat, a ≤ 32 → b < 32 → inst_bits.f w (a : Int) (b : Int) = some (w / 2 ^ a % 2 ^ b) := fun a b ha hb => bits_f w a b h0 h1 ha hb
  unfold inst_told.f gatM
  simp only [if_true, reduceIte, Int.reduceEq]
  rw [show inst_bits.f w 25 7 = some (w / 33554432 % 128) from by simpa using bt 25 7 (by omega) (by omega), show inst_bits.f w 7 5 = some (w / 128 % 32) from by simpa using bt 7 5 (by omega) (by omega)]
  rw [Option.bind_some, Option.bind_some]
  have b1 : 0 ≤ w / 33554432 % 128 ∧ w / 33554432 % 128 < 128 := by omega
  have b2 : 0 ≤ w / 128 % 32 ∧ w / 128 % 32 < 32 := by omega
  generalize w / 33554432 % 128 = x1 at *
  generalize w / 128 % 32 = x2 at *
  rw [Int.emod_eq_of_lt (a := x1 * 32) (by omega) (by omega), or_low _ _ 5 (by omega) (by omega) (by omega) (by omega) (by omega) (by omega), sign12 _ (by omega) (by omega)]
  rw [Option.bind_some]
  rw [wrapSign _ (by unfold sgn; split <;> omega), Int.add_comm]
theorem told_66 (w : Int) (h0 : 0 ≤ w) (h1 : w < 4294967296) : inst_told.f 66 w = some (gatM 66 w) := by
  have bt : ∀ a b : Nat, a ≤ 32 → b < 32 → inst_bits.f w (a : Int) (b : Int) = some (w / 2 ^ a % 2 ^ b) := fun a b ha hb => bits_f w a b h0 h1 ha hb
  unfold inst_told.f gatM
  simp only [if_true, reduceIte, Int.reduceEq]
  rw [show inst_bits.f w 31 1 = some (w / 2147483648 % 2) from by simpa using bt 31 1 (by omega) (by omega), show inst_bits.f w 25 6 = some (w / 33554432 % 64) from by simpa using bt 25 6 (by omega) (by omega), show inst_bits.f w 8 4 = some (w / 256 % 16) from by simpa using bt 8 4 (by omega) (by omega), show inst_bits.f w 7 1 = some (w / 128 % 2) from by simpa using bt 7 1 (by omega) (by omega)]
  rw [Option.bind_some, Option.bind_some, Option.bind_some, Option.bind_some]
  have b1 : 0 ≤ w / 2147483648 % 2 ∧ w / 2147483648 % 2 < 2 := by omega
  have b2 : 0 ≤ w / 33554432 % 64 ∧ w / 33554432 % 64 < 64 := by omega
  have b3 : 0 ≤ w / 256 % 16 ∧ w / 256 % 16 < 16 := by omega
  have b4 : 0 ≤ w / 128 % 2 ∧ w / 128 % 2 < 2 := by omega
  generalize w / 2147483648 % 2 = x1 at *
  generalize w / 33554432 % 64 = x2 at *
  generalize w / 256 % 16 = x3 at *
  generalize w / 128 % 2 = x4 at *
  have e : Go.bits .or .u32 (Go.bits .or .u32 (Go.bits .or .u32 (x1 * 4096 % 4294967296) (x2 * 32 % 4294967296)) (x3 * 2 % 4294967296)) (x4 * 2048 % 4294967296) = x1 * 4096 + x2 * 32 + x3 * 2 + x4 * 2048 := by
    rw [Int.emod_eq_of_lt (a := x1 * 4096) (by omega) (by omega), Int.emod_eq_of_lt (a := x2 * 32) (by omega) (by omega), Int.emod_eq_of_lt (a := x3 * 2) (by omega) (by omega), Int.emod_eq_of_lt (a := x4 * 2048) (by omega) (by omega)]
    rw [or_low (x1 * 4096) (x2 * 32) 12 (by omega) (by omega) (by omega) (by omega) (by omega) (by omega), or_low (x1 * 4096 + x2 * 32) (x3 * 2) 5 (by omega) (by omega) (by omega) (by omega) (by omega) (by omega)]
    rw [or_mid2 x1 x2 x3 x4 b1 b2 b3 b4]
  rw [e, sign13 _ (by omega) (by omega)]
  rw [Option.bind_some]
  rw [wrapSign _ (by unfold sgn; split <;> omega)]
theorem told_f (f w : Int) (h0 : 0 ≤ w) (h1 : w < 4294967296) : inst_told.f f w = some (gatM f w) := by
  by_cases c0 : f = 85
  · rw [c0]; exact told_85 w h0 h1
  by_cases c1 : f = 74
  · rw [c1]; exact told_74 w h0 h1
  by_cases c2 : f = 73
  · rw [c2]; exact told_73 w h0 h1
  by_cases c3 : f = 72
  · rw [c3]; exact told_72 w h0 h1
  by_cases c4 : f = 83
  · rw [c4]; exact told_83 w h0 h1
  by_cases c5 : f = 66
  · rw [c5]; exact told_66 w h0 h1
  unfold inst_told.f gatM
  rw [if_neg c0, if_neg c1, if_neg c2, if_neg c3, if_neg c4, if_neg c5, if_neg c0, if_neg c1, if_neg c2, if_neg c3, if_neg c4, if_neg c5]
end Go.Proofs.Ytecbponmpinnoaa.InstM
end
section
namespace Go.Proofs.Ytecbponmpinnoaa.InstM
open Go Go.RowKit Go.Proofs.Ytecbponmpinnoaa.P Go.Proofs.YtecbponmpinnoaaW.PrintWords Go.Proofs.YtecbponmpinnoaaW.PrintLast Go.Proofs.YtecbponmpinnoaaW.PrintMore
set_option linter.unusedVariables false
def fitOp (op w : Int) : Bool := fitB (formOf op) (codeM op) (thirdM op) (seventhM op) w
def rdM (f w : Int) : Int := if has1 f = true then w / 128 % 32 else 0
def rs1M (f w : Int) : Int := if has2 f = true then w / 32768 % 32 else 0
def rs2M (f w : Int) : Int := if has3 f = true then w / 1048576 % 32 else 0
def instOf (op w : Int) : Int × Int × Int × Int × Int × Int := (op, rdM (formOf op) w, rs1M (formOf op) w, rs2M (formOf op) w, gatM (formOf op) w, 0)
def decFrom : Nat → Int → Int × Int × Int × Int × Int × Int
  | 0, _ => (0, 0, 0, 0, 0, 3)
  | d + 1, w => if fitOp (45 - (d : Int)) w = true then instOf (45 - (d : Int)) w else decFrom d w
def decM (w : Int) : Int × Int × Int × Int × Int × Int := decFrom 45 w
theorem formOf_ne {op : Int} (h0 : 1 ≤ op) (h1 : op ≤ 45) : formOf op ≠ 0 := by
  unfold formOf
  rw [if_neg (by omega), if_neg (by omega)]
  repeat' split
  all_goals omega
theorem found_f (k : Nat) (hk : 2 ≤ k) (w op : Int) (h0 : 1 ≤ op) (h1 : op ≤ 45) (hw : 0 ≤ w) (hw2 : w < 4294967296) : inst_Decode.found k w op (shapeOf op) = some (instOf op w) := by
  obtain ⟨k, rfl⟩ : ∃ m, k = m + 2 := ⟨k - 2, by omega⟩
  obtain ⟨b, hb⟩ := needs_f k (formOf op) (formOf_ne h0 h1) ((formOf_cases op).resolve_left (formOf_ne h0 h1))
  unfold inst_Decode.found instOf
  rw [shape_eq h0 h1]
  dsimp only
  rw [told_f _ _ hw hw2, Option.bind_some, hb, Option.bind_some]
  dsimp only
  rw [show inst_bits.f w 7 5 = some (w / 128 % 32) from by simpa using bits_f w 7 5 hw hw2 (by omega) (by omega), show inst_bits.f w 15 5 = some (w / 32768 % 32) from by simpa using bits_f w 15 5 hw hw2 (by omega) (by omega), show inst_bits.f w 20 5 = some (w / 1048576 % 32) from by simpa using bits_f w 20 5 hw hw2 (by omega) (by omega)]
  rw [Option.bind_some, Option.bind_some, Option.bind_some, w64 (n := w / 128 % 32) (by omega), w64 (n := w / 32768 % 32) (by omega), w64 (n := w / 1048576 % 32) (by omega)]
  unfold rdM rs1M rs2M
  have g : ∀ (b : Bool) (x : Int), (if b = true then some x else some 0) = some (if b = true then x else 0) := fun b x => by cases b <;> rfl
  rw [g, Option.bind_some, g, Option.bind_some, g, Option.bind_some]
theorem decode_l (w : Int) (hw : 0 ≤ w) (hw2 : w < 4294967296) : ∀ (d k : Nat), d ≤ 45 → d + 5 ≤ k → inst_Decode.l0 k w (46 - (d : Int)) = some (decFrom d w) := by
  intro d
  induction d with
  | zero =>
    intro k _ hk
    obtain ⟨k, rfl⟩ : ∃ m, k = m + 1 := ⟨k - 1, by omega⟩
    simp only [inst_Decode.l0, decFrom]
    rw [if_neg (by omega)]
  | succ d ih =>
    intro k hd hk
    obtain ⟨k, rfl⟩ : ∃ m, k = m + 1 := ⟨k - 1, by omega⟩
    have e : (46 - ((d + 1 : Nat) : Int)) = 45 - (d : Int) := by omega
    have hs := shape_eq (op := 45 - (d : Int)) (by omega) (by omega)
    simp only [inst_Decode.l0, decFrom]
    rw [e, if_pos (by omega)]
    obtain ⟨k, rfl⟩ : ∃ m, k = m + 1 := ⟨k - 1, by omega⟩
    rw [fits_f k _ _ _ _ _ w hw hw2, Option.bind_some, found_f (k + 1) (by omega) w _ (by omega) (by omega) hw hw2]
    have ef : fitB (shapeOf (45 - (d : Int))).2.1 (shapeOf (45 - (d : Int))).2.2.1 (shapeOf (45 - (d : Int))).2.2.2.1 (shapeOf (45 - (d : Int))).2.2.2.2 w = fitOp (45 - (d : Int)) w := by
      rw [hs]
      rfl
    rw [ef]
    by_cases h : fitOp (45 - (d : Int)) w = true
    · rw [if_pos h, if_pos h]
    · rw [if_neg h, if_neg h]
      have := ih (k + 1) (by omega) (by omega)
      rwa [show 45 - (d : Int) + 1 = 46 - (d : Int) from by omega]
theorem decode_f (k : Nat) (hk : 50 ≤ k) (w : Int) (hw : 0 ≤ w) (hw2 : w < 4294967296) : inst_Decode.f k w = some (decM w) := decode_l w hw hw2 45 k (by omega) (by omega)
theorem apart_table : ∀ a b : Fin 46, 0 < a.val → 0 < b.val → a ≠ b → codeM (a.val : Int) ≠ codeM (b.val : Int) ∨ ((formOf (a.val : Int) ≠ 85 ∧ formOf (a.val : Int) ≠ 74 ∧ formOf (b.val : Int) ≠ 85 ∧ formOf (b.val : Int) ≠ 74) ∧ (thirdM a.val ≠ thirdM b.val ∨ ((formOf (a.val : Int) = 82 ∨ formOf (a.val : Int) = 72) ∧ (formOf (b.val : Int) = 82 ∨ formOf (b.val : Int) = 72) ∧ seventhM a.val ≠ seventhM b.val))) := by decide +kernel
theorem fit_one {a b : Int} (ha : 1 ≤ a ∧ a ≤ 45) (hb : 1 ≤ b ∧ b ≤ 45) {w : Int} (h : fitOp a w = true) (h' : fitOp b w = true) : a = b := by
  by_cases e : a = b
  · exact e
  have t := apart_table ⟨a.toNat, by omega⟩ ⟨b.toNat, by omega⟩ (by simp; omega) (by simp; omega) (by simp; omega)
  simp only [Int.toNat_of_nonneg (show 0 ≤ a by omega), Int.toNat_of_nonneg (show 0 ≤ b by omega)] at t
  unfold fitOp fitB at h h'
  simp only [Bool.and_eq_true, Bool.or_eq_true, decide_eq_true_eq] at h h'
  omega
theorem decFrom_fit (w op : Int) (h0 : 1 ≤ op ∧ op ≤ 45) (h : fitOp op w = true) : ∀ d : Nat, d ≤ 45 → 45 - (d : Int) < op → decFrom d w = instOf op w := by
  intro d
  induction d with
  | zero => intro _ h1; omega
  | succ d ih =>
    intro hd h1
    simp only [decFrom]
    by_cases e : fitOp (45 - (d : Int)) w = true
    · rw [if_pos e, fit_one (by omega) h0 e h]
    · rw [if_neg e]
      refine ih (by omega) ?_
      have : 45 - (d : Int) ≠ op := fun x => e (x ▸ h)
      omega
theorem decM_fit {w op : Int} (h0 : 1 ≤ op ∧ op ≤ 45) (h : fitOp op w = true) : decM w = instOf op w := decFrom_fit w op h0 h 45 (by omega) (by omega)
theorem wordM_range (op rd rs1 rs2 imm : Int) : 0 ≤ wordM op rd rs1 rs2 imm ∧ wordM op rd rs1 rs2 imm < 4294967296 := by unfold wordM; omega
theorem ex {V lo hi m n q : Int} (h : V = lo + m * (hi + n * q)) (h0 : 0 ≤ lo) (h1 : lo < m) (h2 : 0 ≤ hi) (h3 : hi < n) : V / m % n = hi := by
  rw [h, Int.add_mul_ediv_left _ _ (by omega), Int.ediv_eq_zero_of_lt h0 h1, Int.zero_add, Int.add_mul_emod_self_left, Int.emod_eq_of_lt h2 h3]
theorem gat_85 (w : Int) : gatM 85 w = sgn (w / 4096 % 1048576 * 4096) 2147483648 := by
  unfold gatM
  rw [if_pos rfl]
theorem gat_74 (w : Int) : gatM 74 w = sgn (w / 2147483648 % 2 * 1048576 + w / 2097152 % 1024 * 2 + w / 1048576 % 2 * 2048 + w / 4096 % 256 * 4096) 1048576 := by
  unfold gatM
  rw [if_neg (by omega), if_pos rfl]
theorem gat_73 (w : Int) : gatM 73 w = sgn (w / 1048576 % 4096) 2048 := by
  unfold gatM
  rw [if_neg (by omega), if_neg (by omega), if_pos rfl]
theorem gat_72 (w : Int) : gatM 72 w = w / 1048576 % 32 := by
  unfold gatM
  rw [if_neg (by omega), if_neg (by omega), if_neg (by omega), if_pos rfl]
theorem gat_83 (w : Int) : gatM 83 w = sgn (w / 128 % 32 + w / 33554432 % 128 * 32) 2048 := by
  unfold gatM
  rw [if_neg (by omega), if_neg (by omega), if_neg (by omega), if_neg (by omega), if_pos rfl]
theorem gat_66 (w : Int) : gatM 66 w = sgn (w / 2147483648 % 2 * 4096 + w / 33554432 % 64 * 32 + w / 256 % 16 * 2 + w / 128 % 2 * 2048) 4096 := by
  unfold gatM
  rw [if_neg (by omega), if_neg (by omega), if_neg (by omega), if_neg (by omega), if_neg (by omega), if_pos rfl]
theorem gat_82 (w : Int) : gatM 82 w = 0 := by
  unfold gatM
  rw [if_neg (by omega), if_neg (by omega), if_neg (by omega), if_neg (by omega), if_neg (by omega), if_neg (by omega)]
theorem back_J (c rd imm : Int) (hc : 0 ≤ c ∧ c < 128) (hr : 0 ≤ rd ∧ rd ≤ 31) (hi : -1048576 ≤ imm ∧ imm ≤ 1048574 ∧ imm % 2 = 0) :
    ∃ V, (c + rd * 128 + sprM 74 (imm % 4294967296)) % 4294967296 = V ∧ V % 128 = c ∧ V / 128 % 32 = rd ∧ gatM 74 V = imm := by
  have hm : imm = (imm % 4294967296 / 2 % 1024) * 2 + (imm % 4294967296 / 2048 % 2) * 2048 + (imm % 4294967296 / 4096 % 256) * 4096 - (imm % 4294967296 / 1048576 % 2) * 1048576 := by omega
  have b1 : 0 ≤ imm % 4294967296 / 1048576 % 2 ∧ imm % 4294967296 / 1048576 % 2 < 2 := by omega
  have b2 : 0 ≤ imm % 4294967296 / 2 % 1024 ∧ imm % 4294967296 / 2 % 1024 < 1024 := by omega
  have b3 : 0 ≤ imm % 4294967296 / 2048 % 2 ∧ imm % 4294967296 / 2048 % 2 < 2 := by omega
  have b4 : 0 ≤ imm % 4294967296 / 4096 % 256 ∧ imm % 4294967296 / 4096 % 256 < 256 := by omega
  unfold sprM
  rw [if_neg (by omega), if_pos rfl]
  generalize imm % 4294967296 / 1048576 % 2 = x1 at *
  generalize imm % 4294967296 / 2 % 1024 = x2 at *
  generalize imm % 4294967296 / 2048 % 2 = x3 at *
  generalize imm % 4294967296 / 4096 % 256 = x4 at *
  refine ⟨c + rd * 128 + (x1 * 2147483648 + x2 * 2097152 + x3 * 1048576 + x4 * 4096), Int.emod_eq_of_lt (by omega) (by omega), ?_⟩
  have g1 := ex (V := c + rd * 128 + (x1 * 2147483648 + x2 * 2097152 + x3 * 1048576 + x4 * 4096)) (lo := c + rd * 128 + (x2 * 2097152 + x3 * 1048576 + x4 * 4096)) (hi := x1) (m := 2147483648) (n := 2) (q := 0) (by omega) (by omega) (by omega) (by omega) (by omega)
  have g2 := ex (V := c + rd * 128 + (x1 * 2147483648 + x2 * 2097152 + x3 * 1048576 + x4 * 4096)) (lo := c + rd * 128 + (x3 * 1048576 + x4 * 4096)) (hi := x2) (m := 2097152) (n := 1024) (q := x1) (by omega) (by omega) (by omega) (by omega) (by omega)
  have g3 := ex (V := c + rd * 128 + (x1 * 2147483648 + x2 * 2097152 + x3 * 1048576 + x4 * 4096)) (lo := c + rd * 128 + (x4 * 4096)) (hi := x3) (m := 1048576) (n := 2) (q := x2 + 1024 * x1) (by omega) (by omega) (by omega) (by omega) (by omega)
  have g4 := ex (V := c + rd * 128 + (x1 * 2147483648 + x2 * 2097152 + x3 * 1048576 + x4 * 4096)) (lo := c + rd * 128) (hi := x4) (m := 4096) (n := 256) (q := x3 + 2 * x2 + 2048 * x1) (by omega) (by omega) (by omega) (by omega) (by omega)
  have g5 := ex (V := c + rd * 128 + (x1 * 2147483648 + x2 * 2097152 + x3 * 1048576 + x4 * 4096)) (lo := c) (hi := rd) (m := 128) (n := 32) (q := x4 + 256 * x3 + 512 * x2 + 524288 * x1) (by omega) (by omega) (by omega) (by omega) (by omega)
  rw [gat_74, g1, g2, g3, g4, g5]
  refine ⟨by omega, rfl, ?_⟩
  rw [hm]
  unfold sgn
  clear hm hi g1 g2 g3 g4 g5
  split <;> omega
theorem back_I (c rd t rs1 imm : Int) (hc : 0 ≤ c ∧ c < 128) (ht : 0 ≤ t ∧ t < 8) (hr : 0 ≤ rd ∧ rd ≤ 31) (hs : 0 ≤ rs1 ∧ rs1 ≤ 31) (hi : -2048 ≤ imm ∧ imm ≤ 2047) :
    ∃ V, (c + rd * 128 + t * 4096 + rs1 * 32768 + sprM 73 (imm % 4294967296)) % 4294967296 = V ∧ V % 128 = c ∧ V / 4096 % 8 = t ∧ V / 128 % 32 = rd ∧ V / 32768 % 32 = rs1 ∧ gatM 73 V = imm := by
  unfold sprM
  rw [if_neg (by omega), if_neg (by omega), if_pos rfl]
  have hx : 0 ≤ imm % 4096 ∧ imm % 4096 < 4096 := by omega
  have hi : sgn (imm % 4096) 2048 = imm := by unfold sgn; split <;> omega
  rw [show imm % 4294967296 % 4096 = imm % 4096 from by omega]
  generalize imm % 4096 = x at *
  refine ⟨c + rd * 128 + t * 4096 + rs1 * 32768 + x * 1048576, Int.emod_eq_of_lt (by omega) (by omega), ?_⟩
  have g1 := ex (V := c + rd * 128 + t * 4096 + rs1 * 32768 + x * 1048576) (lo := c + rd * 128) (hi := t) (m := 4096) (n := 8) (q := rs1 + 32 * x) (by omega) (by omega) (by omega) (by omega) (by omega)
  have g2 := ex (V := c + rd * 128 + t * 4096 + rs1 * 32768 + x * 1048576) (lo := c) (hi := rd) (m := 128) (n := 32) (q := t + 8 * rs1 + 256 * x) (by omega) (by omega) (by omega) (by omega) (by omega)
  have g3 := ex (V := c + rd * 128 + t * 4096 + rs1 * 32768 + x * 1048576) (lo := c + rd * 128 + t * 4096) (hi := rs1) (m := 32768) (n := 32) (q := x) (by omega) (by omega) (by omega) (by omega) (by omega)
  have g4 := ex (V := c + rd * 128 + t * 4096 + rs1 * 32768 + x * 1048576) (lo := c + rd * 128 + t * 4096 + rs1 * 32768) (hi := x) (m := 1048576) (n := 4096) (q := 0) (by omega) (by omega) (by omega) (by omega) (by omega)
  rw [gat_73, g1, g2, g3, g4, hi]
  exact ⟨by omega, rfl, rfl, rfl, rfl⟩
theorem back_H (c rd t rs1 s imm : Int) (hc : 0 ≤ c ∧ c < 128) (ht : 0 ≤ t ∧ t < 8) (hs' : 0 ≤ s ∧ s < 128) (hr : 0 ≤ rd ∧ rd ≤ 31) (hs : 0 ≤ rs1 ∧ rs1 ≤ 31) (hi : 0 ≤ imm ∧ imm ≤ 31) :
    ∃ V, (c + rd * 128 + t * 4096 + rs1 * 32768 + s * 33554432 + sprM 72 (imm % 4294967296)) % 4294967296 = V ∧ V % 128 = c ∧ V / 4096 % 8 = t ∧ V / 33554432 = s ∧ V / 128 % 32 = rd ∧ V / 32768 % 32 = rs1 ∧ gatM 72 V = imm := by
  unfold sprM
  rw [if_neg (by omega), if_neg (by omega), if_neg (by omega), if_pos rfl]
  rw [show imm % 4294967296 % 32 = imm from by omega]
  refine ⟨c + rd * 128 + t * 4096 + rs1 * 32768 + s * 33554432 + imm * 1048576, Int.emod_eq_of_lt (by omega) (by omega), ?_⟩
  have g1 := ex (V := c + rd * 128 + t * 4096 + rs1 * 32768 + s * 33554432 + imm * 1048576) (lo := c + rd * 128) (hi := t) (m := 4096) (n := 8) (q := rs1 + 32 * imm + 1024 * s) (by omega) (by omega) (by omega) (by omega) (by omega)
  have g2 := ex (V := c + rd * 128 + t * 4096 + rs1 * 32768 + s * 33554432 + imm * 1048576) (lo := c) (hi := rd) (m := 128) (n := 32) (q := t + 8 * rs1 + 256 * imm + 8192 * s) (by omega) (by omega) (by omega) (by omega) (by omega)
  have g3 := ex (V := c + rd * 128 + t * 4096 + rs1 * 32768 + s * 33554432 + imm * 1048576) (lo := c + rd * 128 + t * 4096) (hi := rs1) (m := 32768) (n := 32) (q := imm + 32 * s) (by omega) (by omega) (by omega) (by omega) (by omega)
  have g4 := ex (V := c + rd * 128 + t * 4096 + rs1 * 32768 + s * 33554432 + imm * 1048576) (lo := c + rd * 128 + t * 4096 + rs1 * 32768) (hi := imm) (m := 1048576) (n := 32) (q := s) (by omega) (by omega) (by omega) (by omega) (by omega)
  rw [gat_72, g1, g2, g3, g4]
  exact ⟨by omega, rfl, by omega, rfl, rfl, rfl⟩
theorem back_S (c t rs1 rs2 imm : Int) (hc : 0 ≤ c ∧ c < 128) (ht : 0 ≤ t ∧ t < 8) (hr : 0 ≤ rs1 ∧ rs1 ≤ 31) (hs : 0 ≤ rs2 ∧ rs2 ≤ 31) (hi : -2048 ≤ imm ∧ imm ≤ 2047) :
    ∃ V, (c + t * 4096 + rs1 * 32768 + rs2 * 1048576 + sprM 83 (imm % 4294967296)) % 4294967296 = V ∧ V % 128 = c ∧ V / 4096 % 8 = t ∧ V / 32768 % 32 = rs1 ∧ V / 1048576 % 32 = rs2 ∧ gatM 83 V = imm := by
  unfold sprM
  rw [if_neg (by omega), if_neg (by omega), if_neg (by omega), if_neg (by omega), if_pos rfl]
  have hx : 0 ≤ imm % 32 ∧ imm % 32 < 32 := by omega
  have hy : 0 ≤ imm % 4294967296 / 32 % 128 ∧ imm % 4294967296 / 32 % 128 < 128 := by omega
  have hi : sgn (imm % 32 + imm % 4294967296 / 32 % 128 * 32) 2048 = imm := by unfold sgn; split <;> omega
  rw [show imm % 4294967296 % 32 = imm % 32 from by omega]
  generalize imm % 4294967296 / 32 % 128 = y at *
  generalize imm % 32 = x at *
  refine ⟨c + t * 4096 + rs1 * 32768 + rs2 * 1048576 + (x * 128 + y * 33554432), Int.emod_eq_of_lt (by omega) (by omega), ?_⟩
  have g1 := ex (V := c + t * 4096 + rs1 * 32768 + rs2 * 1048576 + (x * 128 + y * 33554432)) (lo := c + x * 128) (hi := t) (m := 4096) (n := 8) (q := rs1 + 32 * rs2 + 1024 * y) (by omega) (by omega) (by omega) (by omega) (by omega)
  have g2 := ex (V := c + t * 4096 + rs1 * 32768 + rs2 * 1048576 + (x * 128 + y * 33554432)) (lo := c) (hi := x) (m := 128) (n := 32) (q := t + 8 * rs1 + 256 * rs2 + 8192 * y) (by omega) (by omega) (by omega) (by omega) (by omega)
  have g3 := ex (V := c + t * 4096 + rs1 * 32768 + rs2 * 1048576 + (x * 128 + y * 33554432)) (lo := c + x * 128 + t * 4096) (hi := rs1) (m := 32768) (n := 32) (q := rs2 + 32 * y) (by omega) (by omega) (by omega) (by omega) (by omega)
  have g4 := ex (V := c + t * 4096 + rs1 * 32768 + rs2 * 1048576 + (x * 128 + y * 33554432)) (lo := c + x * 128 + t * 4096 + rs1 * 32768) (hi := rs2) (m := 1048576) (n := 32) (q := y) (by omega) (by omega) (by omega) (by omega) (by omega)
  have g5 := ex (V := c + t * 4096 + rs1 * 32768 + rs2 * 1048576 + (x * 128 + y * 33554432)) (lo := c + x * 128 + t * 4096 + rs1 * 32768 + rs2 * 1048576) (hi := y) (m := 33554432) (n := 128) (q := 0) (by omega) (by omega) (by omega) (by omega) (by omega)
  rw [gat_83, g1, g2, g3, g4, g5, hi]
  exact ⟨by omega, rfl, rfl, rfl, rfl⟩
theorem back_B (c t rs1 rs2 imm : Int) (hc : 0 ≤ c ∧ c < 128) (ht : 0 ≤ t ∧ t < 8) (hr : 0 ≤ rs1 ∧ rs1 ≤ 31) (hs : 0 ≤ rs2 ∧ rs2 ≤ 31) (hi : -4096 ≤ imm ∧ imm ≤ 4094 ∧ imm % 2 = 0) :
    ∃ V, (c + t * 4096 + rs1 * 32768 + rs2 * 1048576 + sprM 66 (imm % 4294967296)) % 4294967296 = V ∧ V % 128 = c ∧ V / 4096 % 8 = t ∧ V / 32768 % 32 = rs1 ∧ V / 1048576 % 32 = rs2 ∧ gatM 66 V = imm := by
  have hm : imm = (imm % 4294967296 / 2 % 16) * 2 + (imm % 4294967296 / 32 % 64) * 32 + (imm % 4294967296 / 2048 % 2) * 2048 - (imm % 4294967296 / 4096 % 2) * 4096 := by omega
  have b1 : 0 ≤ imm % 4294967296 / 4096 % 2 ∧ imm % 4294967296 / 4096 % 2 < 2 := by omega
  have b2 : 0 ≤ imm % 4294967296 / 32 % 64 ∧ imm % 4294967296 / 32 % 64 < 64 := by omega
  have b3 : 0 ≤ imm % 4294967296 / 2 % 16 ∧ imm % 4294967296 / 2 % 16 < 16 := by omega
  have b4 : 0 ≤ imm % 4294967296 / 2048 % 2 ∧ imm % 4294967296 / 2048 % 2 < 2 := by omega
  unfold sprM
  rw [if_neg (by omega), if_neg (by omega), if_neg (by omega), if_neg (by omega), if_neg (by omega), if_pos rfl]
  generalize imm % 4294967296 / 4096 % 2 = x1 at *
  generalize imm % 4294967296 / 32 % 64 = x2 at *
  generalize imm % 4294967296 / 2 % 16 = x3 at *
  generalize imm % 4294967296 / 2048 % 2 = x4 at *
  refine ⟨c + t * 4096 + rs1 * 32768 + rs2 * 1048576 + (x1 * 2147483648 + x2 * 33554432 + x3 * 256 + x4 * 128), Int.emod_eq_of_lt (by omega) (by omega), ?_⟩
  have g1 := ex (V := c + t * 4096 + rs1 * 32768 + rs2 * 1048576 + (x1 * 2147483648 + x2 * 33554432 + x3 * 256 + x4 * 128)) (lo := c + t * 4096 + rs1 * 32768 + rs2 * 1048576 + (x2 * 33554432 + x3 * 256 + x4 * 128)) (hi := x1) (m := 2147483648) (n := 2) (q := 0) (by omega) (by omega) (by omega) (by omega) (by omega)
  have g2 := ex (V := c + t * 4096 + rs1 * 32768 + rs2 * 1048576 + (x1 * 2147483648 + x2 * 33554432 + x3 * 256 + x4 * 128)) (lo := c + t * 4096 + rs1 * 32768 + rs2 * 1048576 + (x3 * 256 + x4 * 128)) (hi := x2) (m := 33554432) (n := 64) (q := x1) (by omega) (by omega) (by omega) (by omega) (by omega)
  have g3 := ex (V := c + t * 4096 + rs1 * 32768 + rs2 * 1048576 + (x1 * 2147483648 + x2 * 33554432 + x3 * 256 + x4 * 128)) (lo := c + x4 * 128) (hi := x3) (m := 256) (n := 16) (q := t + 8 * rs1 + 256 * rs2 + 8192 * x2 + 524288 * x1) (by omega) (by omega) (by omega) (by omega) (by omega)
  have g4 := ex (V := c + t * 4096 + rs1 * 32768 + rs2 * 1048576 + (x1 * 2147483648 + x2 * 33554432 + x3 * 256 + x4 * 128)) (lo := c) (hi := x4) (m := 128) (n := 2) (q := x3 + 16 * t + 128 * rs1 + 4096 * rs2 + 131072 * x2 + 8388608 * x1) (by omega) (by omega) (by omega) (by omega) (by omega)
  have g5 := ex (V := c + t * 4096 + rs1 * 32768 + rs2 * 1048576 + (x1 * 2147483648 + x2 * 33554432 + x3 * 256 + x4 * 128)) (lo := c + x3 * 256 + x4 * 128) (hi := t) (m := 4096) (n := 8) (q := rs1 + 32 * rs2 + 1024 * x2 + 65536 * x1) (by omega) (by omega) (by omega) (by omega) (by omega)
  have g6 := ex (V := c + t * 4096 + rs1 * 32768 + rs2 * 1048576 + (x1 * 2147483648 + x2 * 33554432 + x3 * 256 + x4 * 128)) (lo := c + x3 * 256 + x4 * 128 + t * 4096) (hi := rs1) (m := 32768) (n := 32) (q := rs2 + 32 * x2 + 2048 * x1) (by omega) (by omega) (by omega) (by omega) (by omega)
  have g7 := ex (V := c + t * 4096 + rs1 * 32768 + rs2 * 1048576 + (x1 * 2147483648 + x2 * 33554432 + x3 * 256 + x4 * 128)) (lo := c + x3 * 256 + x4 * 128 + t * 4096 + rs1 * 32768) (hi := rs2) (m := 1048576) (n := 32) (q := x2 + 64 * x1) (by omega) (by omega) (by omega) (by omega) (by omega)
  rw [gat_66, g1, g2, g3, g4, g5, g6, g7]
  refine ⟨by omega, rfl, rfl, rfl, ?_⟩
  rw [hm]
  unfold sgn
  clear hm hi g1 g2 g3 g4 g5 g6 g7
  split <;> omega
theorem back_U (c rd imm : Int) (hc : 0 ≤ c ∧ c < 128) (hr : 0 ≤ rd ∧ rd ≤ 31) (hi : -2147483648 ≤ imm ∧ imm ≤ 2147479552 ∧ imm % 4096 = 0) :
    ∃ V, (c + rd * 128 + sprM 85 (imm % 4294967296)) % 4294967296 = V ∧ V % 128 = c ∧ V / 128 % 32 = rd ∧ gatM 85 V = imm := by
  unfold sprM
  rw [if_pos rfl]
  have hx : 0 ≤ imm % 4294967296 / 4096 % 1048576 ∧ imm % 4294967296 / 4096 % 1048576 < 1048576 := by omega
  have hi : sgn (imm % 4294967296 / 4096 % 1048576 * 4096) 2147483648 = imm := by unfold sgn; split <;> omega
  generalize imm % 4294967296 / 4096 % 1048576 = x at *
  refine ⟨c + rd * 128 + x * 4096, Int.emod_eq_of_lt (by omega) (by omega), ?_⟩
  have g1 := ex (V := c + rd * 128 + x * 4096) (lo := c) (hi := rd) (m := 128) (n := 32) (q := x) (by omega) (by omega) (by omega) (by omega) (by omega)
  have g2 := ex (V := c + rd * 128 + x * 4096) (lo := c + rd * 128) (hi := x) (m := 4096) (n := 1048576) (q := 0) (by omega) (by omega) (by omega) (by omega) (by omega)
  rw [gat_85, g1, g2, hi]
  exact ⟨by omega, rfl, rfl⟩
theorem back_R (c rd t rs1 rs2 s imm : Int) (hc : 0 ≤ c ∧ c < 128) (ht : 0 ≤ t ∧ t < 8) (hs' : 0 ≤ s ∧ s < 128) (hr : 0 ≤ rd ∧ rd ≤ 31) (hs : 0 ≤ rs1 ∧ rs1 ≤ 31) (hq : 0 ≤ rs2 ∧ rs2 ≤ 31) (hi : imm = 0) :
    ∃ V, (c + rd * 128 + t * 4096 + rs1 * 32768 + rs2 * 1048576 + s * 33554432 + sprM 82 (imm % 4294967296)) % 4294967296 = V ∧ V % 128 = c ∧ V / 4096 % 8 = t ∧ V / 33554432 = s ∧ V / 128 % 32 = rd ∧ V / 32768 % 32 = rs1 ∧ V / 1048576 % 32 = rs2 ∧ gatM 82 V = imm := by
  unfold sprM
  rw [if_neg (by omega), if_neg (by omega), if_neg (by omega), if_neg (by omega), if_neg (by omega), if_neg (by omega)]
  refine ⟨c + rd * 128 + t * 4096 + rs1 * 32768 + rs2 * 1048576 + s * 33554432 + 0, Int.emod_eq_of_lt (by omega) (by omega), ?_⟩
  have g1 := ex (V := c + rd * 128 + t * 4096 + rs1 * 32768 + rs2 * 1048576 + s * 33554432 + 0) (lo := c + rd * 128) (hi := t) (m := 4096) (n := 8) (q := rs1 + 32 * rs2 + 1024 * s) (by omega) (by omega) (by omega) (by omega) (by omega)
  have g2 := ex (V := c + rd * 128 + t * 4096 + rs1 * 32768 + rs2 * 1048576 + s * 33554432 + 0) (lo := c) (hi := rd) (m := 128) (n := 32) (q := t + 8 * rs1 + 256 * rs2 + 8192 * s) (by omega) (by omega) (by omega) (by omega) (by omega)
  have g3 := ex (V := c + rd * 128 + t * 4096 + rs1 * 32768 + rs2 * 1048576 + s * 33554432 + 0) (lo := c + rd * 128 + t * 4096) (hi := rs1) (m := 32768) (n := 32) (q := rs2 + 32 * s) (by omega) (by omega) (by omega) (by omega) (by omega)
  have g4 := ex (V := c + rd * 128 + t * 4096 + rs1 * 32768 + rs2 * 1048576 + s * 33554432 + 0) (lo := c + rd * 128 + t * 4096 + rs1 * 32768) (hi := rs2) (m := 1048576) (n := 32) (q := s) (by omega) (by omega) (by omega) (by omega) (by omega)
  rw [gat_82, g1, g2, g3, g4]
  exact ⟨by omega, rfl, by omega, rfl, rfl, rfl, hi.symm⟩
theorem dec_enc {op rd rs1 rs2 imm : Int} (h : rightB op rd rs1 rs2 imm = true) : decM (wordM op rd rs1 rs2 imm) = (op, rd, rs1, rs2, imm, 0) := by
  obtain ⟨a1, a2, a3, a4, b1, b2, b3, b4⟩ := right_all h
  have o := right_op h
  have hc := codes_in (show 0 ≤ op by omega) o.2
  have hf := forms_in (show 0 ≤ op by omega) o.2
  have hn := formOf_ne o.1 o.2
  have hx := (formOf_cases op).resolve_left hn
  have hw := wordM_range op rd rs1 rs2 imm
  have key : fitOp op (wordM op rd rs1 rs2 imm) = true ∧ rdM (formOf op) (wordM op rd rs1 rs2 imm) = rd ∧ rs1M (formOf op) (wordM op rd rs1 rs2 imm) = rs1 ∧ rs2M (formOf op) (wordM op rd rs1 rs2 imm) = rs2 ∧ gatM (formOf op) (wordM op rd rs1 rs2 imm) = imm := by
    unfold wordM fitOp fitB rdM rs1M rs2M
    generalize codeM op = c at *
    generalize thirdM op = t at *
    generalize seventhM op = s at *
    generalize formOf op = f at *
    clear hw h
    have hz := fun (n : Int) (e : regB n false = true) => regB_none e
    rcases hx with rfl | rfl | rfl | rfl | rfl | rfl | rfl <;> simp [has1, has2, has3, roomB] at hf b1 b2 b3 b4 ⊢
    · obtain rfl := hz _ b2
      obtain rfl := hz _ b3
      obtain ⟨rfl, rfl⟩ := hf
      obtain ⟨V, e, e1, e2, e3⟩ := back_U c rd imm (by omega) a1 (by omega)
      simp [e, e2, e3]
      omega
    · obtain rfl := hz _ b2
      obtain rfl := hz _ b3
      obtain ⟨rfl, rfl⟩ := hf
      obtain ⟨V, e, e1, e2, e3⟩ := back_J c rd imm (by omega) a1 (by omega)
      simp [e, e2, e3]
      omega
    · obtain rfl := hz _ b3
      subst hf
      obtain ⟨V, e, e1, e2, e3, e4, e5⟩ := back_I c rd t rs1 imm (by omega) (by omega) a1 a2 (by omega)
      simp [e, e2, e3, e4, e5]
      omega
    · obtain rfl := hz _ b3
      obtain ⟨V, e, e1, e2, e3, e4, e5, e6⟩ := back_H c rd t rs1 s imm (by omega) (by omega) (by omega) a1 a2 (by omega)
      simp [e, e2, e3, e4, e5, e6]
      omega
    · obtain rfl := hz _ b1
      subst hf
      obtain ⟨V, e, e1, e2, e3, e4, e5⟩ := back_S c t rs1 rs2 imm (by omega) (by omega) a2 a3 (by omega)
      simp [e, e2, e3, e4, e5]
      omega
    · obtain rfl := hz _ b1
      subst hf
      obtain ⟨V, e, e1, e2, e3, e4, e5⟩ := back_B c t rs1 rs2 imm (by omega) (by omega) a2 a3 (by omega)
      simp [e, e2, e3, e4, e5]
      omega
    · obtain ⟨V, e, e1, e2, e3, e4, e5, e6, e7⟩ := back_R c rd t rs1 rs2 s imm (by omega) (by omega) (by omega) a1 a2 a3 b4
      simp [e, e2, e3, e4, e5, e6, e7]
      omega
  rw [decM_fit o key.1]
  unfold instOf
  rw [key.2.1, key.2.2.1, key.2.2.2.1, key.2.2.2.2]
end Go.Proofs.Ytecbponmpinnoaa.InstM
end
section
namespace Go.Proofs.Ytecbponmpinnoaa.Pure
open Go Go.RowKit Go.Proofs.Ytecbponmpinnoaa.P Go.Proofs.Ytecbponmpinnoaa.InstM Go.Proofs.YtecbponmpinnoaaW.PrintWords Go.Proofs.YtecbponmpinnoaaW.PrintLast Go.Proofs.YtecbponmpinnoaaW.PrintMore
set_option linter.unusedVariables false
theorem awake60 : rushlightlaw05_awake.f 60 = some true := by kernel_rfl
theorem awake_ge (k : Nat) (hk : 60 ≤ k) : rushlightlaw05_awake.f k = some true := by
  obtain ⟨d, rfl⟩ := Nat.le.dest hk
  clear hk
  induction d with
  | zero => exact awake60
  | succ d ih => exact rushlightlaw05_awake.mono (60 + d) _ ih
def low12 (n : Int) : Int := sgn (n % 4096) 2048
theorem sign_wide (n : Int) (h0 : 0 ≤ n) (h1 : n < 4294967296) : word_Sign.f n 12 = some (low12 n % 4294967296) := by
  rw [low12, ← sign12 (n % 4096) (by omega) (by omega)]
  unfold word_Sign.f
  rw [w64 (n := 32 - 12) (by decide), if_neg (by decide), if_neg (by decide), if_pos (by decide), if_neg (by decide), if_neg (by decide), if_pos (by decide)]
  have e : shl .u32 n (32 - 12) = shl .u32 (n % 4096) (32 - 12) := by
    unfold shl
    rw [show min (32 - 12 : Int).toNat IntKind.u32.bits = 20 from by decide, IntKind.wrap_u32', IntKind.wrap_u32']
    omega
  rw [e]
theorem low12_range (n : Int) : -2048 ≤ low12 n ∧ low12 n ≤ 2047 := by
  unfold low12 sgn
  split <;> omega
theorem low12_mod (n : Int) : (n - low12 n) % 4096 = 0 := by
  unfold low12 sgn
  split <;> omega
def hi32 (n : Int) : Int := wrap32 (n - low12 n)
theorem hi32_ok (n : Int) (h0 : 0 ≤ n) (h1 : n < 4294967296) : -2147483648 ≤ hi32 n ∧ hi32 n ≤ 2147479552 ∧ hi32 n % 4096 = 0 ∧ (hi32 n + low12 n) % 4294967296 = n := by
  have h := low12_mod n
  have h2 := low12_range n
  unfold hi32 wrap32
  generalize low12 n = x at *
  refine ⟨by omega, by omega, by omega, by omega⟩
def constsM (rd n : Int) : List S39 :=
  if hi32 n = 0 then [⟨19, rd, 0, 0, low12 n⟩] else if low12 n = 0 then [⟨1, rd, 0, 0, hi32 n⟩] else [⟨1, rd, 0, 0, hi32 n⟩, ⟨19, rd, rd, 0, low12 n⟩]
theorem consts_f (rd n : Int) (h0 : 0 ≤ n) (h1 : n < 4294967296) : asm_consts.f rd n = some (constsM rd n) := by
  have h := low12_mod n
  have h2 := low12_range n
  unfold asm_consts.f word_Parts.f
  rw [sign_wide n h0 h1, Option.bind_some, Option.bind_some]
  have e1 : wrap64 (wrap32 (low12 n % 4294967296)) = low12 n := wrapSign _ (by omega)
  have e2 : wrap64 (wrap32 ((n - low12 n % 4294967296) % 4294967296)) = hi32 n := by
    unfold hi32 wrap32 wrap64
    omega
  have e3 : ((n - low12 n % 4294967296) % 4294967296 = 0) = (hi32 n = 0) := by
    unfold hi32 wrap32
    apply propext
    omega
  have e4 : (low12 n % 4294967296 = 0) = (low12 n = 0) := by
    apply propext
    omega
  dsimp only
  unfold constsM
  simp only [e1, e2, e3, e4]
  split
  · rfl
  · split <;> rfl
theorem right_hi (rd n : Int) (hr : 0 ≤ rd ∧ rd ≤ 31) (h0 : 0 ≤ n) (h1 : n < 4294967296) : rightB 1 rd 0 0 (hi32 n) = true := by
  obtain ⟨a, b, c, -⟩ := hi32_ok n h0 h1
  have e : formOf 1 = 85 := by decide
  unfold rightB
  rw [e]
  simp [regB, roomB, has1, has2, has3, a, b, c, hr.1, hr.2]
theorem right_low (rd r n : Int) (hr : 0 ≤ rd ∧ rd ≤ 31) (hr2 : 0 ≤ r ∧ r ≤ 31) : rightB 19 rd r 0 (low12 n) = true := by
  obtain ⟨a, b⟩ := low12_range n
  have e : formOf 19 = 73 := by decide
  unfold rightB
  rw [e]
  simp [regB, roomB, has1, has2, has3, a, b, hr.1, hr.2, hr2.1, hr2.2]
def wordS (i : S39) : Int := wordM i.f0 i.f1 i.f2 i.f3 i.f4
def rightS (i : S39) : Bool := rightB i.f0 i.f1 i.f2 i.f3 i.f4
theorem constsM_right (rd n : Int) (hr : 0 ≤ rd ∧ rd ≤ 31) (h0 : 0 ≤ n) (h1 : n < 4294967296) : ∀ i ∈ constsM rd n, rightS i = true := by
  intro i hi
  unfold constsM at hi
  split at hi
  · simp only [List.mem_singleton] at hi
    subst hi
    exact right_low rd 0 n hr (by omega)
  · split at hi
    · simp only [List.mem_singleton] at hi
      subst hi
      exact right_hi rd n hr h0 h1
    · simp only [List.mem_cons, List.not_mem_nil, or_false] at hi
      rcases hi with rfl | rfl
      · exact right_hi rd n hr h0 h1
      · exact right_low rd rd n hr hr
theorem l2_f (own : List S39) (hr : ∀ i ∈ own, rightS i = true) : ∀ (d k j : Nat) (out : List Int), j + d = own.length → d + 3 ≤ k → out.length + d < 1000000000 → asm_Assemble.l2 k own out j = some (out ++ (own.drop j).map wordS)
  | 0, k, j, out, h, hk, ho => by
    obtain ⟨k, rfl⟩ : ∃ k', k = k' + 1 := ⟨k - 1, by omega⟩
    unfold asm_Assemble.l2
    rw [if_neg (by omega), List.drop_eq_nil_of_le (by omega)]
    simp
  | d + 1, k, j, out, h, hk, ho => by
    obtain ⟨k, rfl⟩ : ∃ k', k = k' + 1 := ⟨k - 1, by omega⟩
    have hj : j < own.length := by omega
    unfold asm_Assemble.l2
    rw [if_pos hj, if_pos (by omega), encode_f k (by omega), Option.bind_some]
    have e : rd_T39 own (j : Int) = own[j] := by
      unfold rd_T39
      rw [Int.toNat_natCast, List.getD_eq_getElem?_getD, List.getElem?_eq_getElem hj]
      rfl
    have hr1 : rightB own[j].f0 own[j].f1 own[j].f2 own[j].f3 own[j].f4 = true := hr own[j] (List.getElem_mem hj)
    rw [e]
    have e2 : (encM own[j].f0 own[j].f1 own[j].f2 own[j].f3 own[j].f4).1 = wordS own[j] := by
      unfold encM
      rw [if_pos hr1]
      rfl
    rw [e2, l2_f own hr d k (j + 1) _ (by omega) (by omega) (by simp; omega), List.drop_eq_getElem_cons hj, List.map_cons, List.append_assoc, List.singleton_append]
theorem decode_w (k : Nat) (hk : 50 ≤ k) (i : S39) (h : rightS i = true) : inst_Decode.f k (wordS i) = some (i.f0, i.f1, i.f2, i.f3, i.f4, 0) := by
  have := wordM_range i.f0 i.f1 i.f2 i.f3 i.f4
  unfold wordS
  rw [decode_f k hk _ this.1 this.2]
  exact congrArg some (dec_enc h)
end Go.Proofs.Ytecbponmpinnoaa.Pure
end
