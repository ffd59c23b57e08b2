/- A claim's text, put together by a program of this session (wip/tools/shake.py): the declarations that the claim needs. -/
import Derived.Test.YtecbponmpinnoaaMb0
import Derived.Test.YtecbponmpinnoaaMb1
import Derived.Test.YtecbponmpinnoaaMb2
import Derived.Test.YtecbponmpinnoaaMb3
import Derived.Test.YtecbponmpinnoaaMb4
import Derived.Test.YtecbponmpinnoaaMb5
import Derived.Test.YtecbponmpinnoaaMb6
import Derived.Test.YtecbponmpinnoaaMb7
import Derived.Test.YtecbponmpinnoaaMb8
import Derived.Test.YtecbponmpinnoaaMb9
import Derived.Test.YtecbponmpinnoaaMb10
import Derived.Test.YtecbponmpinnoaaMb11
import Derived.Test.YtecbponmpinnoaaProg
import Derived.Below
import Derived.Deep.Draws
import Derived.Deep.AppendLies
import Derived.Maps.AppendAt
import Derived.OwnWalk
import Derived.Laws.BytesArg
import Derived.Laws.MakeOwn
import Derived.Laws.OwnMore
import Derived.Deep.OwnRows
import Derived.Tactics
import Derived.Lib.ConvBytes
import Derived.Laws.Slices
import Derived.WalkKit
import Derived.KernelRfl
import Derived.RowKit3
import Derived.Deep.LoopGhost
import Derived.Deep.QuietTactic
import Derived.BigQuiet
import Derived.WideLaws
import Derived.Deep.DeepCutAuto
import Derived.Deep.CutBlock
import Derived.Deep.RegionHeld3
import Derived.Laws.Rows
import Derived.Lib.AppendStr
import Derived.ArgAppend
import Derived.Laws.IdiomCopy
import Derived.OrdersHeld
import Derived.Laws.BitsLemmas
import Derived.RowKit
import Derived.Deep.WholeRow
import Derived.Outline
import Derived.WalkMore
import Derived.ScopeJumps
import Derived.Deep.DeepFit
import Derived.Maps.OwnOps
import Derived.Maps.Views
import Derived.Carry
import Derived.WalkArith
import Derived.Laws.StructEq
import Derived.Laws.BitsAllLaws
import Derived.IntWalk
set_option linter.unusedVariables false
set_option linter.unusedSimpArgs false
section
namespace Go.Proofs.Ytecbponmpinnoaa.InstM
open Go Go.RowKit Go.Proofs.Ytecbponmpinnoaa.P Go.Proofs.YtecbponmpinnoaaW.PrintWords Go.Proofs.YtecbponmpinnoaaW.PrintLast Go.Proofs.YtecbponmpinnoaaW.PrintMore
set_option linter.unusedVariables false
theorem or_parts (k a b a' b':Nat) (ha:a < 2 ^ k) (ha':a' < 2 ^ k):(a + 2 ^ k * b) ||| (a' + 2 ^ k * b') = (a ||| a') + 2 ^ k * (b ||| b'):=by
 have h1:((a + 2 ^ k * b) ||| (a' + 2 ^ k * b')) % 2 ^ k = a ||| a':=by
  rw [Nat.or_mod_two_pow,Nat.add_mul_mod_self_left,Nat.add_mul_mod_self_left,Nat.mod_eq_of_lt ha,Nat.mod_eq_of_lt ha']
 have h2:((a + 2 ^ k * b) ||| (a' + 2 ^ k * b')) / 2 ^ k = b ||| b':=by
  rw [← Nat.shiftRight_eq_div_pow,Nat.shiftRight_or_distrib,Nat.shiftRight_eq_div_pow,Nat.shiftRight_eq_div_pow,Nat.add_mul_div_left _ _ (Nat.two_pow_pos k),Nat.add_mul_div_left _ _ (Nat.two_pow_pos k),Nat.div_eq_of_lt ha,Nat.div_eq_of_lt ha',Nat.zero_add,Nat.zero_add]
 have h3:=Nat.mod_add_div ((a + 2 ^ k * b) ||| (a' + 2 ^ k * b')) (2 ^ k)
 rw [h1,h2] at h3
 exact h3.symm
def F (c r t q p s:Int):Int:=c + 128 * r + 4096 * t + 32768 * q + 1048576 * p + 33554432 * s
def InF (c r t q p s:Int):Prop:=0≤c∧c < 128∧0≤r∧r < 32∧0≤t∧t < 8∧0≤q∧q < 32∧0≤p∧p < 32∧0≤s∧s < 128
theorem F_range {c r t q p s:Int} (h:InF c r t q p s):0≤F c r t q p s∧F c r t q p s < 4294967296:=by
 unfold InF at h
 unfold F
 omega
theorem F_or {c r t q p s c' r' t' q' p' s':Int} (h:InF c r t q p s) (h':InF c' r' t' q' p' s')
  (hc:c = 0∨c' = 0) (hr:r = 0∨r' = 0) (ht:t = 0∨t' = 0) (hq:q = 0∨q' = 0) (hp:p = 0∨p' = 0) (hs:s = 0∨s' = 0) :
  Go.bits .or .u32 (F c r t q p s) (F c' r' t' q' p' s') = F (c + c') (r + r') (t + t') (q + q') (p + p') (s + s'):=by
 have e1:=F_range h
 have e2:=F_range h'
 rw [u32_or _ _ e1.1 e1.2 e2.1 e2.2]
 unfold InF at h h'
 obtain ⟨c,rfl⟩:=Int.eq_ofNat_of_zero_le h.1
 obtain ⟨r,rfl⟩:=Int.eq_ofNat_of_zero_le h.2.2.1
 obtain ⟨t,rfl⟩:=Int.eq_ofNat_of_zero_le h.2.2.2.2.1
 obtain ⟨q,rfl⟩:=Int.eq_ofNat_of_zero_le h.2.2.2.2.2.2.1
 obtain ⟨p,rfl⟩:=Int.eq_ofNat_of_zero_le h.2.2.2.2.2.2.2.2.1
 obtain ⟨s,rfl⟩:=Int.eq_ofNat_of_zero_le h.2.2.2.2.2.2.2.2.2.2.1
 obtain ⟨c',rfl⟩:=Int.eq_ofNat_of_zero_le h'.1
 obtain ⟨r',rfl⟩:=Int.eq_ofNat_of_zero_le h'.2.2.1
 obtain ⟨t',rfl⟩:=Int.eq_ofNat_of_zero_le h'.2.2.2.2.1
 obtain ⟨q',rfl⟩:=Int.eq_ofNat_of_zero_le h'.2.2.2.2.2.2.1
 obtain ⟨p',rfl⟩:=Int.eq_ofNat_of_zero_le h'.2.2.2.2.2.2.2.2.1
 obtain ⟨s',rfl⟩:=Int.eq_ofNat_of_zero_le h'.2.2.2.2.2.2.2.2.2.2.1
 have z:∀ a b:Nat,((a:Int) = 0∨(b:Int) = 0)→a ||| b = a + b:=by
  intro a b hab
  rcases hab with e|e
  ·obtain rfl:a = 0:=by omega
   simp
  ·obtain rfl:b = 0:=by omega
   simp
 have g:∀ c r t q p s:Nat,(F c r t q p s).toNat = c + 2 ^ 7 * (r + 2 ^ 5 * (t + 2 ^ 3 * (q + 2 ^ 5 * (p + 2 ^ 5 * s)))):=by
  intro c r t q p s
  unfold F
  omega
 rw [g,g,or_parts 7 _ _ _ _ (by omega) (by omega),or_parts 5 _ _ _ _ (by omega) (by omega),or_parts 3 _ _ _ _ (by omega) (by omega),or_parts 5 _ _ _ _ (by omega) (by omega),or_parts 5 _ _ _ _ (by omega) (by omega),z _ _ hc,z _ _ hr,z _ _ ht,z _ _ hq,z _ _ hp,z _ _ hs]
 unfold F
 omega
theorem and_mask (a:Int) (b:Nat) (h0:0≤a) (h1:a < 4294967296) (hb:b < 32):Go.bits .and .u32 a (2 ^ b - 1) = a % 2 ^ b:=by
 have hp:(2:Int) ^ b≤2 ^ 31:=by
  have:=Nat.pow_le_pow_right (n:=2) (by omega) (show b≤31 by omega)
  exact_mod_cast this
 have hq:(1:Int)≤2 ^ b:=by
  have:=Nat.two_pow_pos b
  exact_mod_cast this
 rw [u32_and _ _ h0 h1 (by omega) (by omega)]
 obtain ⟨n,rfl⟩:=Int.eq_ofNat_of_zero_le h0
 have e:((2:Int) ^ b - 1).toNat = 2 ^ b - 1:=by
  have:((2 ^ b:Nat):Int) = (2:Int) ^ b:=by rw [Int.natCast_pow];rfl
  omega
 rw [e,Int.toNat_natCast,Nat.and_two_pow_sub_one_eq_mod,Int.natCast_emod,Int.natCast_pow]
 rfl
theorem bits_f (n:Int) (a b:Nat) (h0:0≤n) (h1:n < 4294967296) (ha:a≤32) (hb:b < 32):inst_bits.f n (a:Int) (b:Int) = some (n / 2 ^ a % 2 ^ b):=by
 unfold inst_bits.f
 rw [if_pos (by omega),if_pos (by omega)]
 have hp:(2:Int) ^ b≤2 ^ 31:=by
  have:=Nat.pow_le_pow_right (n:=2) (by omega) (show b≤31 by omega)
  exact_mod_cast this
 have hq:(1:Int)≤2 ^ b:=by
  have:=Nat.two_pow_pos b
  exact_mod_cast this
 have e1:shr .u32 n (a:Int) = n / 2 ^ a:=by
  unfold shr
  rw [Int.toNat_natCast,show min a IntKind.u32.bits = a from Nat.min_eq_left ha]
 have e2:shl .u32 1 (b:Int) = 2 ^ b:=by
  unfold shl
  rw [Int.toNat_natCast,show min b IntKind.u32.bits = b from Nat.min_eq_left (show b≤32 by omega),IntKind.wrap_u32',Int.one_mul]
  omega
 have ha':(1:Int)≤2 ^ a:=by
  have:=Nat.two_pow_pos a
  exact_mod_cast this
 have hle:n / 2 ^ a≤n:=Int.ediv_le_self _ h0
 have hge:0≤n / 2 ^ a:=Int.ediv_nonneg h0 (by omega)
 rw [e1,e2,show (2 ^ b - 1:Int) % 4294967296 = 2 ^ b - 1 from by omega,and_mask _ _ hge (by omega) hb]
theorem w64 {n:Int} (h:-9223372036854775808≤n∧n≤9223372036854775807):wrap64 n = n:=IntWalk.wrap64_in n h
def formOf (op:Int):Int:=if op < 1 then 0 else if op > 45 then 0 else if op≤2 then 85 else if op = 3 then 74 else if 5≤op∧op≤10 then 66 else if 16≤op∧op≤18 then 83 else if 25≤op∧op≤27 then 72 else if 28≤op then 82 else 73
theorem of_pos {op:Int} (h0:0≤op) (h1:op < 46):shapeOf op = shapes.getD op.toNat noShape:=if_pos ⟨h0,h1⟩
def codeM (op:Int):Int:=if op = 1 then 55 else if op = 2 then 23 else if op = 3 then 111 else if op = 4 then 103 else if op≤10 then 99 else if op≤15 then 3 else if op≤18 then 35 else if op≤27 then 19 else 51
def thirds:List Int:=[0,0,0,0,0,0,1,4,5,6,7,0,1,2,4,5,0,1,2,0,2,3,4,6,7,1,5,5,0,0,1,2,3,4,5,5,6,7,0,1,2,3,4,5,6,7]
def thirdM (op:Int):Int:=thirds.getD op.toNat 0
def seventhM (op:Int):Int:=if op = 27∨op = 29∨op = 35 then 32 else if op ≥ 38 then 1 else 0
theorem shape_table:∀ n:Fin 46,0 < n.val→(shapes.getD n.val noShape).2 = (formOf (n.val:Int),codeM n.val,thirdM n.val,seventhM n.val):=by decide +kernel
theorem shape_eq {op:Int} (h0:1≤op) (h1:op≤45):(shapeOf op).2 = (formOf op,codeM op,thirdM op,seventhM op):=by
 rw [of_pos (by omega) (by omega)]
 have h:=shape_table ⟨op.toNat,by omega⟩ (by simp;omega)
 simpa [Int.toNat_of_nonneg (show 0≤op by omega)] using h
theorem form_f (op:Int):inst_Form.f op = some (formOf op):=by
 unfold inst_Form.f inst_of.f
 rw [Option.bind_some]
 by_cases h:1≤op∧op≤45
 ·rw [shape_eq h.1 h.2]
 ·have e:(shapeOf op).2.1 = 0:=by
   by_cases h0:op = 0
   ·subst h0
    rfl
   ·rw [show shapeOf op = noShape from if_neg (by omega)]
    rfl
  have e2:formOf op = 0:=by
   unfold formOf
   by_cases h1:op < 1
   ·rw [if_pos h1]
   ·rw [if_neg h1,if_pos (by omega)]
  rw [e,e2]
theorem ref_form_table:∀ n:Fin 46,rushlightref02_Form.f 4 (n.val:Int) = some (formOf (n.val:Int)):=by decide +kernel
theorem ref_form_f (k:Nat) (op:Int):rushlightref02_Form.f (k + 4) op = some (formOf op):=by
 by_cases h:0≤op∧op < 46
 ·refine at_rounds (rushlightref02_Form.mono op) (Nat.le_add_left 4 k) ?_
  have e:=ref_form_table ⟨op.toNat,by omega⟩
  simpa [Int.toNat_of_nonneg h.1] using e
 ·by_cases h1:op < 1
  ·have e:formOf op = 0:=if_pos h1
   rw [e]
   simp [rushlightref02_Form.f,rushlightref02_Form.j0,h1]
  ·have e:formOf op = 0:=(if_neg h1).trans (if_pos (by omega))
   have h2:op > 45:=by omega
   rw [e]
   simp [rushlightref02_Form.f,rushlightref02_Form.j0,h1,h2]
def has1 (f:Int):Bool:=f != 83 && f != 66
def has2 (f:Int):Bool:=f != 85 && f != 74
def has3 (f:Int):Bool:=f == 83 || f == 66 || f == 82
def regB (n:Int) (may:Bool):Bool:=if may then decide (0≤n∧n≤31) else decide (n = 0)
def roomB (f n:Int):Bool :=
 if f = 85 then decide (-2147483648≤n∧n≤2147479552∧n % 4096 = 0) else if f = 74 then decide (-1048576≤n∧n≤1048574∧n % 2 = 0)
 else if f = 73∨f = 83 then decide (-2048≤n∧n≤2047) else if f = 72 then decide (0≤n∧n≤31)
 else if f = 66 then decide (-4096≤n∧n≤4094∧n % 2 = 0) else decide (n = 0)
def rightB (op rd rs1 rs2 imm:Int):Bool:=formOf op != 0 && regB rd (has1 (formOf op)) && regB rs1 (has2 (formOf op)) && regB rs2 (has3 (formOf op)) && roomB (formOf op) imm
theorem formOf_cases (op:Int):formOf op = 0∨formOf op = 85∨formOf op = 74∨formOf op = 73∨formOf op = 72∨formOf op = 83∨formOf op = 66∨formOf op = 82:=by
 unfold formOf
 repeat' split
 all_goals simp
theorem register_f (n:Int) (b:Bool):inst_register.f n b = some (regB n b):=by
 unfold inst_register.f regB
 cases b
 ·by_cases h:n = 0 <;> simp [h]
 ·by_cases h:n = 0
  ·subst h;rfl
  ·by_cases h2:n > 0
   ·rw [if_neg h,if_pos rfl,if_pos h2,if_pos rfl]
    congr 1
    rw [decide_eq_decide]
    omega
   ·rw [if_neg h,if_pos rfl,if_neg h2,if_pos rfl]
    congr 1
    exact (decide_eq_false (by omega)).symm
theorem ref_reg_f (n:Int) (b:Bool):rushlightref02_reg.f n b = some (regB n b):=by
 unfold rushlightref02_reg.f regB
 cases b
 ·simp
  by_cases h:n = 0 <;> simp [h]
 ·by_cases h:n ≥ 0
  ·simp [h] <;> omega
  ·simp [h] <;> omega
theorem ref_has_f1 (f:Int):rushlightref02_has.f f 1 = some (has1 f):=by
 unfold rushlightref02_has.f has1
 by_cases h:f = 83 <;> simp [h]
theorem ref_has_f2 (f:Int):rushlightref02_has.f f 2 = some (has2 f):=by
 unfold rushlightref02_has.f has2
 by_cases h:f = 85 <;> simp [h]
theorem ref_has_f3 (f:Int):rushlightref02_has.f f 3 = some (has3 f):=by
 unfold rushlightref02_has.f has3
 by_cases h:f = 83
 ·simp [h]
 ·by_cases h2:f = 66 <;> simp [h,h2]
theorem needs_f (k:Nat) (f:Int) (hf:f≠0) (hc:f = 85∨f = 74∨f = 73∨f = 72∨f = 83∨f = 66∨f = 82):∃ b,inst_needs.f (k + 2) f = some (has1 f,has2 f,has3 f,b):=by
 rcases hc with rfl|rfl|rfl|rfl|rfl|rfl|rfl <;> exact ⟨_,by simp [inst_needs.f,inst_needs.j0,inst_needs.j1,has1,has2,has3];rfl⟩
theorem tmod_zero (n:Int) (m:Int):((Int.tmod n m) == 0) = decide (n % m = 0):=by
 rw [Bool.eq_iff_iff]
 simp only [beq_iff_eq,decide_eq_true_eq]
 rw [← Int.dvd_iff_tmod_eq_zero,Int.dvd_iff_emod_eq_zero]
theorem reaches_f (k:Nat) (f n:Int):inst_reaches.f (k + 1) f n = some (roomB f n):=by
 unfold inst_reaches.f roomB
 simp only [inst_reaches.j0,tmod_zero]
 by_cases h1:f = 85
 ·subst h1
  simp only [if_true]
  by_cases a:n ≥ -2147483648
  ·by_cases b:n < 2147483648
   ·simp [a,b] <;> omega
   ·simp [a,b] <;> omega
  ·simp [a] <;> omega
 by_cases h2:f = 74
 ·subst h2
  simp only [if_true,if_neg h1]
  by_cases a:n ≥ -1048576
  ·by_cases b:n < 1048576
   ·simp [a,b] <;> omega
   ·simp [a,b] <;> omega
  ·simp [a] <;> omega
 by_cases h3:f = 73
 ·subst h3
  simp
  by_cases a:n ≥ -2048
  ·simp [a] <;> omega
  ·simp [a] <;> omega
 by_cases h4:f = 83
 ·subst h4
  simp
  by_cases a:n ≥ -2048
  ·simp [a] <;> omega
  ·simp [a] <;> omega
 by_cases h5:f = 72
 ·subst h5
  simp
  by_cases a:n ≥ 0
  ·simp [a] <;> omega
  ·simp [a] <;> omega
 by_cases h6:f = 66
 ·subst h6
  simp
  by_cases a:n ≥ -4096
  ·by_cases b:n < 4096
   ·simp [a,b] <;> omega
   ·simp [a,b] <;> omega
  ·simp [a] <;> omega
 simp [h1,h2,h3,h4,h5,h6]
 by_cases a:n = 0 <;> simp [a]
theorem ref_room_f (k:Nat) (f n:Int):rushlightref02_room.f (k + 1) f n = some (roomB f n):=by
 unfold rushlightref02_room.f roomB
 simp only [rushlightref02_room.j0,tmod_zero]
 by_cases h1:f = 85
 ·subst h1
  simp only [if_true]
  by_cases a:n ≥ -2147483648
  ·by_cases b:n≤2147479552
   ·simp [a,b]
   ·simp [a,b]
  ·simp [a] <;> omega
 by_cases h2:f = 74
 ·subst h2
  simp only [if_true,if_neg h1]
  by_cases a:n ≥ -1048576
  ·by_cases b:n≤1048574
   ·simp [a,b]
   ·simp [a,b]
  ·simp [a] <;> omega
 by_cases h3:f = 73
 ·subst h3
  simp
  by_cases a:n ≥ -2048
  ·simp [a]
  ·simp [a] <;> omega
 by_cases h4:f = 83
 ·subst h4
  simp
  by_cases a:n ≥ -2048
  ·simp [a]
  ·simp [a] <;> omega
 by_cases h5:f = 72
 ·subst h5
  simp
  by_cases a:n ≥ 0
  ·simp [a]
  ·simp [a] <;> omega
 by_cases h6:f = 66
 ·subst h6
  simp
  by_cases a:n ≥ -4096
  ·by_cases b:n≤4094
   ·simp [a,b]
   ·simp [a,b]
  ·simp [a] <;> omega
 simp [h1,h2,h3,h4,h5,h6]
 by_cases a:n = 0 <;> simp [a]
theorem right_f (k:Nat) (op rd rs1 rs2 imm:Int):inst_Right.f (k + 2) op rd rs1 rs2 imm = some (rightB op rd rs1 rs2 imm):=by
 unfold inst_Right.f rightB
 rw [form_f,Option.bind_some]
 by_cases h:formOf op = 0
 ·rw [if_pos h]
  simp [h]
 rw [if_neg h]
 obtain ⟨b,hb⟩:=needs_f k (formOf op) h ((formOf_cases op).resolve_left h)
 rw [hb]
 simp only [Option.bind_some,register_f,reaches_f]
 generalize regB rd (has1 (formOf op)) = x
 generalize regB rs1 (has2 (formOf op)) = y
 generalize regB rs2 (has3 (formOf op)) = z
 cases x <;> cases y <;> cases z <;> simp [h]
theorem ref_right_f (k:Nat) (op rd rs1 rs2 imm:Int):rushlightref02_Right.f (k + 4) op rd rs1 rs2 imm = some (rightB op rd rs1 rs2 imm):=by
 unfold rushlightref02_Right.f rightB
 rw [ref_form_f,Option.bind_some]
 by_cases h:formOf op = 0
 ·rw [if_pos h]
  simp [h]
 rw [if_neg h]
 simp only [ref_has_f1,ref_has_f2,ref_has_f3,Option.bind_some,ref_reg_f,ref_room_f]
 generalize regB rd (has1 (formOf op)) = x
 generalize regB rs1 (has2 (formOf op)) = y
 generalize regB rs2 (has3 (formOf op)) = z
 cases x <;> cases y <;> cases z <;> simp [h]
end Go.Proofs.Ytecbponmpinnoaa.InstM
end
section
namespace Go.Proofs.Ytecbponmpinnoaa.InstM
open Go Go.RowKit Go.Proofs.Ytecbponmpinnoaa.P Go.Proofs.YtecbponmpinnoaaW.PrintWords Go.Proofs.YtecbponmpinnoaaW.PrintLast Go.Proofs.YtecbponmpinnoaaW.PrintMore
set_option linter.unusedVariables false
theorem two_l (n:Nat) (hn:n≤40):∀ (d i k:Nat),i + d = n→d < k→rushlightref02_two.l0 k (n:Int) ((2:Int) ^ i) (i:Int) = some ((2:Int) ^ n):=by
 intro d
 induction d with
 | zero =>
  intro i k h hk
  obtain ⟨k,rfl⟩:∃ m,k = m + 1:=⟨k - 1,by omega⟩
  obtain rfl:i = n:=by omega
  simp only [rushlightref02_two.l0]
  rw [if_neg (by omega)]
 | succ d ih =>
  intro i k h hk
  obtain ⟨k,rfl⟩:∃ m,k = m + 1:=⟨k - 1,by omega⟩
  simp only [rushlightref02_two.l0]
  rw [if_pos (by omega)]
  have hp:(2:Int) ^ i≤2 ^ 40:=by
   have:=Nat.pow_le_pow_right (n:=2) (by omega) (show i≤40 by omega)
   have e1:((2 ^ i:Nat):Int) = (2:Int) ^ i:=by rw [Int.natCast_pow];rfl
   have e2:((2 ^ 40:Nat):Int) = (2:Int) ^ 40:=by rw [Int.natCast_pow];rfl
   omega
  have hq:(0:Int)≤2 ^ i:=Int.pow_nonneg (by omega)
  rw [w64 (n:=2 * 2 ^ i) (by omega),w64 (n:=(i:Int) + 1) (by omega)]
  have:=ih (i + 1) k (by omega) (by omega)
  rw [Int.pow_succ,Int.mul_comm] at this
  exact this
theorem two_f (n k:Nat) (hn:n≤40) (hk:n < k):rushlightref02_two.f k (n:Int) = some ((2:Int) ^ n):=two_l n hn n 0 k (by omega) hk
theorem pow_pos (a:Nat) (ha:a≤40):(1:Int)≤2 ^ a∧(2:Int) ^ a≤1099511627776:=by
 have h1:=Nat.two_pow_pos a
 have h2:=Nat.pow_le_pow_right (n:=2) (by omega) ha
 have e1:((2 ^ a:Nat):Int) = (2:Int) ^ a:=by rw [Int.natCast_pow];rfl
 have e2:(2 ^ 40:Nat) = 1099511627776:=rfl
 omega
theorem move_f (k:Nat) (hk:41≤k) (n:Int) (a b c:Nat) (h0:-2147483648≤n) (h1:n < 4294967296) (ha:a≤b) (hb:b≤31) (hc:c≤31) :
  rushlightref02_move.f k n (a:Int) (b:Int) (c:Int) = some (n % 4294967296 / 2 ^ a % 2 ^ (b - a + 1) * 2 ^ c):=by
 have pa:=pow_pos a (by omega)
 have pb:=pow_pos (b - a + 1) (by omega)
 have pc:=pow_pos c (by omega)
 have pb2:(2:Int) ^ (b - a + 1)≤4294967296:=by
  have h2:=Nat.pow_le_pow_right (n:=2) (by omega) (show b - a + 1≤32 by omega)
  have e1:((2 ^ (b - a + 1):Nat):Int) = (2:Int) ^ (b - a + 1):=by rw [Int.natCast_pow];rfl
  have e2:(2 ^ 32:Nat) = 4294967296:=rfl
  omega
 have pc2:(2:Int) ^ c≤2147483648:=by
  have h2:=Nat.pow_le_pow_right (n:=2) (by omega) (show c≤31 by omega)
  have e1:((2 ^ c:Nat):Int) = (2:Int) ^ c:=by rw [Int.natCast_pow];rfl
  have e2:(2 ^ 31:Nat) = 2147483648:=rfl
  omega
 have key:∀ m:Int,0≤m→m < 4294967296→wrap64 ((Int.tmod (wrap64 (Int.tdiv m (2 ^ a))) (2 ^ (b - a + 1))) * 2 ^ c) = m / 2 ^ a % 2 ^ (b - a + 1) * 2 ^ c:=by
  intro m hm hm2
  have hd:0≤m / 2 ^ a:=Int.ediv_nonneg hm (by omega)
  have hd2:m / 2 ^ a≤m:=Int.ediv_le_self _ hm
  rw [Int.tdiv_eq_ediv_of_nonneg hm,w64 (n:=m / 2 ^ a) (by omega),Int.tmod_eq_emod_of_nonneg hd]
  have hm0:=Int.emod_nonneg (m / 2 ^ a) (show (2:Int) ^ (b - a + 1)≠0 by omega)
  have hm1:=Int.emod_lt_of_pos (m / 2 ^ a) (show (0:Int) < 2 ^ (b - a + 1) by omega)
  refine w64 ⟨?_,?_⟩
  ·have:=Int.mul_nonneg hm0 (show (0:Int)≤2 ^ c by omega)
   omega
  ·have:m / 2 ^ a % 2 ^ (b - a + 1) * 2 ^ c≤4294967295 * 2147483648:=Int.mul_le_mul (by omega) pc2 (by omega) (by omega)
   omega
 have e1:wrap64 ((wrap64 ((b:Int) - (a:Int))) + 1) = ((b - a + 1:Nat):Int):=by
  rw [w64 (n:=(b:Int) - (a:Int)) (by omega),w64 (by omega)]
  omega
 unfold rushlightref02_move.f
 rw [e1,two_f a k (by omega) (by omega),two_f (b - a + 1) k (by omega) (by omega),two_f c k (by omega) (by omega)]
 simp only [Option.bind_some]
 by_cases hn:n < 0
 ·rw [if_pos hn,if_neg (by omega),if_neg (by omega),w64 (n:=n + 4294967296) (by omega),key _ (by omega) (by omega),show n + 4294967296 = n % 4294967296 from by omega]
 ·rw [if_neg hn,if_neg (by omega),if_neg (by omega),key _ (by omega) (by omega),show n % 4294967296 = n from by omega]
def sprM (f m:Int):Int :=
 if f = 85 then m / 4096 % 1048576 * 4096
 else if f = 74 then m / 1048576 % 2 * 2147483648 + m / 2 % 1024 * 2097152 + m / 2048 % 2 * 1048576 + m / 4096 % 256 * 4096
 else if f = 73 then m % 4096 * 1048576
 else if f = 72 then m % 32 * 1048576
 else if f = 83 then m % 32 * 128 + m / 32 % 128 * 33554432
 else if f = 66 then m / 4096 % 2 * 2147483648 + m / 32 % 64 * 33554432 + m / 2 % 16 * 256 + m / 2048 % 2 * 128
 else 0
theorem sprM_range (f m:Int):0≤sprM f m∧sprM f m < 4294967296:=by
 unfold sprM
 repeat' split
 all_goals omega
theorem w64_4 (a b c d:Int) (ha:0≤a∧a < 4294967296) (hb:0≤b∧b < 4294967296) (hc:0≤c∧c < 4294967296) (hd:0≤d∧d < 4294967296):wrap64 (wrap64 (wrap64 (a + b) + c) + d) = a + b + c + d:=by
 rw [w64 (n:=a + b) (by omega),w64 (n:=a + b + c) (by omega),w64 (by omega)]
theorem ref_spread_f (k:Nat) (hk:41≤k) (f n:Int) (h0:-2147483648≤n) (h1:n < 4294967296):rushlightref02_Spread.f k f n = some (sprM f (n % 4294967296)):=by
 have mv:=fun a b c ha hb hc=>move_f k hk n a b c h0 h1 ha hb hc
 have hm0:0≤n % 4294967296∧n % 4294967296 < 4294967296:=by omega
 generalize n % 4294967296 = m at *
 unfold rushlightref02_Spread.f sprM
 by_cases c0:f = 85
 ·have m12_31_12:rushlightref02_move.f k n 12 31 12 = some (m / 4096 % 1048576 * 4096):=by simpa using mv 12 31 12 (by omega) (by omega) (by omega)
  rw [if_pos c0,if_pos c0,m12_31_12]
  rfl
 rw [if_neg c0,if_neg c0]
 by_cases c1:f = 74
 ·have m20_20_31:rushlightref02_move.f k n 20 20 31 = some (m / 1048576 % 2 * 2147483648):=by simpa using mv 20 20 31 (by omega) (by omega) (by omega)
  have m1_10_21:rushlightref02_move.f k n 1 10 21 = some (m / 2 % 1024 * 2097152):=by simpa using mv 1 10 21 (by omega) (by omega) (by omega)
  have m11_11_20:rushlightref02_move.f k n 11 11 20 = some (m / 2048 % 2 * 1048576):=by simpa using mv 11 11 20 (by omega) (by omega) (by omega)
  have m12_19_12:rushlightref02_move.f k n 12 19 12 = some (m / 4096 % 256 * 4096):=by simpa using mv 12 19 12 (by omega) (by omega) (by omega)
  rw [if_pos c1,if_pos c1,m20_20_31,m1_10_21,m11_11_20,m12_19_12]
  simp only [Option.bind_some]
  rw [w64_4 _ _ _ _ (by omega) (by omega) (by omega) (by omega)]
 rw [if_neg c1,if_neg c1]
 by_cases c2:f = 73
 ·have m0_11_20:rushlightref02_move.f k n 0 11 20 = some (m % 4096 * 1048576):=by simpa using mv 0 11 20 (by omega) (by omega) (by omega)
  rw [if_pos c2,if_pos c2,m0_11_20]
  rfl
 rw [if_neg c2,if_neg c2]
 by_cases c3:f = 72
 ·have m0_4_20:rushlightref02_move.f k n 0 4 20 = some (m % 32 * 1048576):=by simpa using mv 0 4 20 (by omega) (by omega) (by omega)
  rw [if_pos c3,if_pos c3,m0_4_20]
  rfl
 rw [if_neg c3,if_neg c3]
 by_cases c4:f = 83
 ·have m0_4_7:rushlightref02_move.f k n 0 4 7 = some (m % 32 * 128):=by simpa using mv 0 4 7 (by omega) (by omega) (by omega)
  have m5_11_25:rushlightref02_move.f k n 5 11 25 = some (m / 32 % 128 * 33554432):=by simpa using mv 5 11 25 (by omega) (by omega) (by omega)
  rw [if_pos c4,if_pos c4,m0_4_7,m5_11_25]
  simp only [Option.bind_some]
  rw [w64 (by omega)]
 rw [if_neg c4,if_neg c4]
 by_cases c5:f = 66
 ·have m12_12_31:rushlightref02_move.f k n 12 12 31 = some (m / 4096 % 2 * 2147483648):=by simpa using mv 12 12 31 (by omega) (by omega) (by omega)
  have m5_10_25:rushlightref02_move.f k n 5 10 25 = some (m / 32 % 64 * 33554432):=by simpa using mv 5 10 25 (by omega) (by omega) (by omega)
  have m1_4_8:rushlightref02_move.f k n 1 4 8 = some (m / 2 % 16 * 256):=by simpa using mv 1 4 8 (by omega) (by omega) (by omega)
  have m11_11_7:rushlightref02_move.f k n 11 11 7 = some (m / 2048 % 2 * 128):=by simpa using mv 11 11 7 (by omega) (by omega) (by omega)
  rw [if_pos c5,if_pos c5,m12_12_31,m5_10_25,m1_4_8,m11_11_7]
  simp only [Option.bind_some]
  rw [w64_4 _ _ _ _ (by omega) (by omega) (by omega) (by omega)]
 rw [if_neg c5,if_neg c5]
def wordM (op rd rs1 rs2 imm:Int):Int:=(codeM op + rd * 128 + thirdM op * 4096 + rs1 * 32768 + rs2 * 1048576 + seventhM op * 33554432 + sprM (formOf op) (imm % 4294967296)) % 4294967296
theorem codes_range:∀ n:Fin 46,0≤codeM (n.val:Int)∧codeM (n.val:Int) < 128∧0≤thirdM (n.val:Int)∧thirdM (n.val:Int) < 8∧0≤seventhM (n.val:Int)∧seventhM (n.val:Int) < 128:=by decide +kernel
theorem codes_in {op:Int} (h0:0≤op) (h1:op≤45):0≤codeM op∧codeM op < 128∧0≤thirdM op∧thirdM op < 8∧0≤seventhM op∧seventhM op < 128:=by
 have h:=codes_range ⟨op.toNat,by omega⟩
 simpa [Int.toNat_of_nonneg h0] using h
theorem ref_code_f (op:Int):rushlightref02_Code.f op = some (codeM op):=by
 unfold rushlightref02_Code.f codeM
 repeat' split
 all_goals rfl
theorem ref_third_f {op:Int} (h0:0≤op) (h1:op≤45):rushlightref02_Third.f op = some (thirdM op):=by
 unfold rushlightref02_Third.f thirdM
 simp only [Option.bind_some]
 rw [if_pos h0,if_pos (by simp;omega)]
 rfl
theorem ref_seventh_table:∀ n:Fin 46,rushlightref02_Seventh.f 1 (n.val:Int) = some (seventhM (n.val:Int)):=by decide +kernel
theorem ref_seventh_f (k:Nat) {op:Int} (h0:0≤op) (h1:op≤45):rushlightref02_Seventh.f (k + 1) op = some (seventhM op):=by
 refine at_rounds (rushlightref02_Seventh.mono op) (Nat.le_add_left 1 k) ?_
 have e:=ref_seventh_table ⟨op.toNat,by omega⟩
 simpa [Int.toNat_of_nonneg h0] using e
theorem right_op {op rd rs1 rs2 imm:Int} (h:rightB op rd rs1 rs2 imm = true):1≤op∧op≤45:=by
 unfold rightB at h
 by_cases h1:op < 1
 ·rw [show formOf op = 0 from if_pos h1] at h
  simp at h
 ·by_cases h2:op > 45
  ·rw [show formOf op = 0 from (if_neg h1).trans (if_pos h2)] at h
   simp at h
  ·omega
theorem regB_range {n:Int} {b:Bool} (h:regB n b = true):0≤n∧n≤31:=by
 unfold regB at h
 cases b <;> simp at h <;> omega
theorem regB_none {n:Int} (h:regB n false = true):n = 0:=by simpa [regB] using h
theorem roomB_range {f n:Int} (h:roomB f n = true):-2147483648≤n∧n≤2147483647:=by
 unfold roomB at h
 repeat' split at h
 all_goals simp at h
 all_goals omega
theorem right_all {op rd rs1 rs2 imm:Int} (h:rightB op rd rs1 rs2 imm = true):(0≤rd∧rd≤31)∧(0≤rs1∧rs1≤31)∧(0≤rs2∧rs2≤31)∧(-2147483648≤imm∧imm≤2147483647)∧regB rd (has1 (formOf op)) = true∧regB rs1 (has2 (formOf op)) = true∧regB rs2 (has3 (formOf op)) = true∧roomB (formOf op) imm = true:=by
 unfold rightB at h
 simp only [Bool.and_eq_true] at h
 exact ⟨regB_range h.1.1.1.2,regB_range h.1.1.2,regB_range h.1.2,roomB_range h.2,h.1.1.1.2,h.1.1.2,h.1.2,h.2⟩
theorem ref_word_f (k:Nat) (hk:45≤k) {op rd rs1 rs2 imm:Int} (h0:0≤op∧op≤45) (h1:0≤rd∧rd≤31) (h2:0≤rs1∧rs1≤31) (h3:0≤rs2∧rs2≤31) (h4:-2147483648≤imm∧imm < 4294967296) :
  rushlightref02_Word.f k op rd rs1 rs2 imm = some (wordM op rd rs1 rs2 imm):=by
 obtain ⟨k,rfl⟩:∃ m,k = m + 4:=⟨k - 4,by omega⟩
 have hc:=codes_in h0.1 h0.2
 have hs:=sprM_range (formOf op) (imm % 4294967296)
 unfold rushlightref02_Word.f wordM
 rw [ref_form_f,ref_code_f,ref_third_f h0.1 h0.2,show rushlightref02_Seventh.f (k + 4) op = _ from ref_seventh_f (k + 3) h0.1 h0.2,
  show rushlightref02_two.f (k + 4) 7 = some 128 from two_f 7 (k + 4) (by omega) (by omega),show rushlightref02_two.f (k + 4) 12 = some 4096 from two_f 12 (k + 4) (by omega) (by omega),show rushlightref02_two.f (k + 4) 15 = some 32768 from two_f 15 (k + 4) (by omega) (by omega),show rushlightref02_two.f (k + 4) 20 = some 1048576 from two_f 20 (k + 4) (by omega) (by omega),show rushlightref02_two.f (k + 4) 25 = some 33554432 from two_f 25 (k + 4) (by omega) (by omega)]
 simp only [Option.bind_some]
 rw [ref_spread_f (k + 4) (by omega) _ _ h4.1 h4.2]
 simp only [Option.bind_some]
 generalize codeM op = c at *
 generalize thirdM op = t at *
 generalize seventhM op = s at *
 generalize sprM (formOf op) (imm % 4294967296) = z at *
 rw [w64 (n:=rd * 128) (by omega),w64 (n:=t * 4096) (by omega),w64 (n:=rs1 * 32768) (by omega),w64 (n:=rs2 * 1048576) (by omega),w64 (n:=s * 33554432) (by omega),
  w64 (n:=c + rd * 128) (by omega),w64 (n:=c + rd * 128 + t * 4096) (by omega),w64 (n:=c + rd * 128 + t * 4096 + rs1 * 32768) (by omega),w64 (n:=c + rd * 128 + t * 4096 + rs1 * 32768 + rs2 * 1048576) (by omega),w64 (n:=c + rd * 128 + t * 4096 + rs1 * 32768 + rs2 * 1048576 + s * 33554432) (by omega),w64 (by omega)]
def encM (op rd rs1 rs2 imm:Int):Int × Int:=if rightB op rd rs1 rs2 imm = true then (wordM op rd rs1 rs2 imm,0) else (0,1)
theorem or_low (a b:Int) (k:Nat) (ha:0≤a) (ha2:a < 4294967296) (hb:0≤b) (hb2:b < 2 ^ k) (hb3:b < 4294967296) (hm:a % 2 ^ k = 0):Go.bits .or .u32 a b = a + b:=by
 rw [u32_or a b ha ha2 hb hb3]
 obtain ⟨x,rfl⟩:=Int.eq_ofNat_of_zero_le ha
 obtain ⟨y,rfl⟩:=Int.eq_ofNat_of_zero_le hb
 have e1:((2 ^ k:Nat):Int) = (2:Int) ^ k:=by rw [Int.natCast_pow];rfl
 have hm':x % 2 ^ k = 0:=by
  rw [← e1] at hm
  exact_mod_cast hm
 have hy:y < 2 ^ k:=by
  rw [← e1] at hb2
  exact_mod_cast hb2
 have hx:=Nat.mod_add_div x (2 ^ k)
 rw [hm',Nat.zero_add] at hx
 rw [Int.toNat_natCast,Int.toNat_natCast]
 have e:=or_parts k 0 (x / 2 ^ k) y 0 (Nat.two_pow_pos k) hy
 rw [Nat.zero_add,Nat.mul_zero,Nat.add_zero,Nat.zero_or,Nat.or_zero,hx] at e
 rw [e]
 omega
theorem number_f (k:Nat) (f n imm:Int) (hn:n = imm % 4294967296) (hr:roomB f imm = true):inst_number.f (k + 1) f n = some (sprM f n):=by
 have hn0:0≤n∧n < 4294967296:=by omega
 unfold inst_number.f sprM
 simp only [inst_number.j0]
 have bt:∀ a b:Nat,a≤32→b < 32→inst_bits.f n (a:Int) (b:Int) = some (n / 2 ^ a % 2 ^ b):=fun a b ha hb=>bits_f n a b hn0.1 hn0.2 ha hb
 by_cases c0:f = 85
 ·subst c0
  simp [roomB] at hr
  rw [if_pos rfl,if_pos rfl]
  congr 1
  omega
 by_cases c1:f = 74
 ·subst c1
  rw [if_neg (by omega),if_pos rfl,if_neg (by omega),if_pos rfl]
  rw [show inst_bits.f n 20 1 = some (n / 1048576 % 2) from by simpa using bt 20 1 (by omega) (by omega),show inst_bits.f n 1 10 = some (n / 2 % 1024) from by simpa using bt 1 10 (by omega) (by omega),show inst_bits.f n 11 1 = some (n / 2048 % 2) from by simpa using bt 11 1 (by omega) (by omega),show inst_bits.f n 12 8 = some (n / 4096 % 256) from by simpa using bt 12 8 (by omega) (by omega)]
  simp only [Option.bind_some]
  rw [Int.emod_eq_of_lt (a:=n / 1048576 % 2 * 2147483648) (by omega) (by omega),Int.emod_eq_of_lt (a:=n / 2 % 1024 * 2097152) (by omega) (by omega),Int.emod_eq_of_lt (a:=n / 2048 % 2 * 1048576) (by omega) (by omega),Int.emod_eq_of_lt (a:=n / 4096 % 256 * 4096) (by omega) (by omega)]
  rw [or_low (n / 1048576 % 2 * 2147483648) (n / 2 % 1024 * 2097152) 31 (by omega) (by omega) (by omega) (by omega) (by omega) (by omega),or_low (n / 1048576 % 2 * 2147483648 + n / 2 % 1024 * 2097152) (n / 2048 % 2 * 1048576) 21 (by omega) (by omega) (by omega) (by omega) (by omega) (by omega),or_low _ _ 20 (by omega) (by omega) (by omega) (by omega) (by omega) (by omega)]
 by_cases c2:f = 73
 ·subst c2
  simp
  omega
 by_cases c3:f = 72
 ·subst c3
  simp [roomB] at hr
  simp
  omega
 by_cases c4:f = 83
 ·subst c4
  simp
  rw [show inst_bits.f n 5 7 = some (n / 32 % 128) from by simpa using bt 5 7 (by omega) (by omega),show inst_bits.f n 0 5 = some (n % 32) from by simpa using bt 0 5 (by omega) (by omega)]
  simp only [Option.bind_some]
  rw [Int.emod_eq_of_lt (a:=n / 32 % 128 * 33554432) (by omega) (by omega),Int.emod_eq_of_lt (a:=n % 32 * 128) (by omega) (by omega),or_low _ _ 25 (by omega) (by omega) (by omega) (by omega) (by omega) (by omega)]
  congr 1
  omega
 by_cases c5:f = 66
 ·subst c5
  simp
  rw [show inst_bits.f n 12 1 = some (n / 4096 % 2) from by simpa using bt 12 1 (by omega) (by omega),show inst_bits.f n 5 6 = some (n / 32 % 64) from by simpa using bt 5 6 (by omega) (by omega),show inst_bits.f n 1 4 = some (n / 2 % 16) from by simpa using bt 1 4 (by omega) (by omega),show inst_bits.f n 11 1 = some (n / 2048 % 2) from by simpa using bt 11 1 (by omega) (by omega)]
  simp only [Option.bind_some]
  rw [Int.emod_eq_of_lt (a:=n / 4096 % 2 * 2147483648) (by omega) (by omega),Int.emod_eq_of_lt (a:=n / 32 % 64 * 33554432) (by omega) (by omega),Int.emod_eq_of_lt (a:=n / 2 % 16 * 256) (by omega) (by omega),Int.emod_eq_of_lt (a:=n / 2048 % 2 * 128) (by omega) (by omega)]
  rw [or_low (n / 4096 % 2 * 2147483648) (n / 32 % 64 * 33554432) 31 (by omega) (by omega) (by omega) (by omega) (by omega) (by omega),or_low (n / 4096 % 2 * 2147483648 + n / 32 % 64 * 33554432) (n / 2 % 16 * 256) 25 (by omega) (by omega) (by omega) (by omega) (by omega) (by omega),or_low _ _ 8 (by omega) (by omega) (by omega) (by omega) (by omega) (by omega)]
 simp [c0,c1,c2,c3,c4,c5]
end Go.Proofs.Ytecbponmpinnoaa.InstM
end
