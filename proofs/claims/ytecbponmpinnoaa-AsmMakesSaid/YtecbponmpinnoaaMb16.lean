/- A claim's text, put together by a program of this session (wip/tools/shake.py): the declarations that the claim needs. -/
import Derived.Test.YtecbponmpinnoaaMb0
import Derived.Test.YtecbponmpinnoaaMb1
import Derived.Test.YtecbponmpinnoaaMb2
import Derived.Test.YtecbponmpinnoaaMb3
import Derived.Test.YtecbponmpinnoaaMb4
import Derived.Test.YtecbponmpinnoaaMb5
import Derived.Test.YtecbponmpinnoaaMb6
import Derived.Test.YtecbponmpinnoaaMb7
import Derived.Test.YtecbponmpinnoaaMb8
import Derived.Test.YtecbponmpinnoaaMb9
import Derived.Test.YtecbponmpinnoaaMb10
import Derived.Test.YtecbponmpinnoaaMb11
import Derived.Test.YtecbponmpinnoaaMb12
import Derived.Test.YtecbponmpinnoaaMb13
import Derived.Test.YtecbponmpinnoaaMb14
import Derived.Test.YtecbponmpinnoaaMb15
import Derived.Test.YtecbponmpinnoaaProg
import Derived.Below
import Derived.Deep.Draws
import Derived.Deep.AppendLies
import Derived.Maps.AppendAt
import Derived.OwnWalk
import Derived.Laws.BytesArg
import Derived.Laws.MakeOwn
import Derived.Laws.OwnMore
import Derived.Deep.OwnRows
import Derived.Tactics
import Derived.Lib.ConvBytes
import Derived.Laws.Slices
import Derived.WalkKit
import Derived.KernelRfl
import Derived.RowKit3
import Derived.Deep.LoopGhost
import Derived.Deep.QuietTactic
import Derived.BigQuiet
import Derived.WideLaws
import Derived.Deep.DeepCutAuto
import Derived.Deep.CutBlock
import Derived.Deep.RegionHeld3
import Derived.Laws.Rows
import Derived.Lib.AppendStr
import Derived.ArgAppend
import Derived.Laws.IdiomCopy
import Derived.OrdersHeld
import Derived.Laws.BitsLemmas
import Derived.RowKit
import Derived.Deep.WholeRow
import Derived.Outline
import Derived.WalkMore
import Derived.ScopeJumps
import Derived.Deep.DeepFit
import Derived.Maps.OwnOps
import Derived.Maps.Views
import Derived.Carry
import Derived.WalkArith
import Derived.Laws.StructEq
import Derived.Laws.BitsAllLaws
import Derived.IntWalk
set_option linter.unusedVariables false
set_option linter.unusedSimpArgs false
section
namespace Go.Proofs.Ytecbponmpinnoaa.InstM
open Go Go.RowKit Go.Proofs.Ytecbponmpinnoaa.P Go.Proofs.YtecbponmpinnoaaW.PrintWords Go.Proofs.YtecbponmpinnoaaW.PrintLast Go.Proofs.YtecbponmpinnoaaW.PrintMore
set_option linter.unusedVariables false
theorem forms_table:∀ n:Fin 46,(formOf (n.val:Int) = 85∨formOf (n.val:Int) = 74→thirdM n.val = 0∧seventhM n.val = 0)∧(formOf (n.val:Int) = 73∨formOf (n.val:Int) = 83∨formOf (n.val:Int) = 66→seventhM n.val = 0):=by decide +kernel
theorem forms_in {op:Int} (h0:0≤op) (h1:op≤45):(formOf op = 85∨formOf op = 74→thirdM op = 0∧seventhM op = 0)∧(formOf op = 73∨formOf op = 83∨formOf op = 66→seventhM op = 0):=by
 have h:=forms_table ⟨op.toNat,by omega⟩
 simpa [Int.toNat_of_nonneg h0] using h
theorem sprM_parts (f m:Int):sprM f m = F 0 (sprM f m / 128 % 32) (sprM f m / 4096 % 8) (sprM f m / 32768 % 32) (sprM f m / 1048576 % 32) (sprM f m / 33554432):=by
 have h:=sprM_range f m
 have h2:sprM f m % 128 = 0:=by
  unfold sprM
  repeat' split
  all_goals omega
 generalize sprM f m = v at *
 unfold F
 omega
theorem encode_f (k:Nat) (hk:2≤k) (op rd rs1 rs2 imm:Int):inst_Encode.f k op rd rs1 rs2 imm = some (encM op rd rs1 rs2 imm):=by
 obtain ⟨k,rfl⟩:∃ m,k = m + 2:=⟨k - 2,by omega⟩
 unfold inst_Encode.f encM
 rw [right_f,Option.bind_some]
 by_cases h:rightB op rd rs1 rs2 imm = true
 ·obtain ⟨a1,a2,a3,a4,b1,b2,b3,b4⟩:=right_all h
  obtain ⟨o1,o2⟩:=right_op h
  rw [if_pos h,if_pos h]
  have hs:inst_of.f op = some (⟨(shapeOf op).1.toArray⟩,formOf op,codeM op,thirdM op,seventhM op):=by
   unfold inst_of.f
   rw [shape_eq o1 o2]
  rw [hs]
  simp only [Option.bind_some]
  rw [show inst_number.f (k + 2) (formOf op) (imm % 4294967296) = _ from number_f (k + 1) _ _ imm rfl b4]
  simp only [Option.bind_some,Option.some.injEq,Prod.mk.injEq,and_true]
  have hc:=codes_in (show 0≤op by omega) o2
  have hf:=forms_in (show 0≤op by omega) o2
  have hv:=sprM_range (formOf op) (imm % 4294967296)
  have hp:=sprM_parts (formOf op) (imm % 4294967296)
  have hx:=formOf_cases op
  have hd:(sprM (formOf op) (imm % 4294967296) / 128 % 32 = 0∨rd = 0)∧(sprM (formOf op) (imm % 4294967296) / 4096 % 8 = 0∨thirdM op = 0)∧(sprM (formOf op) (imm % 4294967296) / 32768 % 32 = 0∨rs1 = 0)∧(sprM (formOf op) (imm % 4294967296) / 1048576 % 32 = 0∨rs2 = 0)∧(sprM (formOf op) (imm % 4294967296) / 33554432 = 0∨seventhM op = 0):=by
   clear hp hv hs
   have hm:0≤imm % 4294967296∧imm % 4294967296 < 4294967296:=by omega
   have hz:=fun (n:Int) (e:regB n false = true)=>regB_none e
   rcases hx with e|e|e|e|e|e|e|e <;> rw [e] at b1 b2 b3 b4 hf ⊢ <;> simp [has1,has2,has3,roomB] at b1 b2 b3 b4 hf <;> simp [sprM]
   ·have:=hz _ b2;have:=hz _ b3;omega
   ·have:=hz _ b2;have:=hz _ b3;omega
   ·have:=hz _ b3;omega
   ·have:=hz _ b3;omega
   ·have:=hz _ b1;omega
   ·have:=hz _ b1
    have hb:∀ a b c d:Int,0≤a→a < 2→0≤b→b < 64→0≤c→c < 16→0≤d→d < 2→(a * 2147483648 + b * 33554432 + c * 256 + d * 128) / 4096 % 8 = 0∧(a * 2147483648 + b * 33554432 + c * 256 + d * 128) / 32768 % 32 = 0∧(a * 2147483648 + b * 33554432 + c * 256 + d * 128) / 1048576 % 32 = 0:=by
     intro a b c d _ _ _ _ _ _ _ _
     omega
    have:=hb (imm % 4294967296 / 4096 % 2) (imm % 4294967296 / 32 % 64) (imm % 4294967296 / 2 % 16) (imm % 4294967296 / 2048 % 2) (by omega) (by omega) (by omega) (by omega) (by omega) (by omega) (by omega) (by omega)
    generalize imm % 4294967296 / 4096 % 2 * 2147483648 + imm % 4294967296 / 32 % 64 * 33554432 + imm % 4294967296 / 2 % 16 * 256 + imm % 4294967296 / 2048 % 2 * 128 = v at *
    omega
  unfold wordM
  generalize sprM (formOf op) (imm % 4294967296) = v at *
  generalize codeM op = c at *
  generalize thirdM op = t at *
  generalize seventhM op = s at *
  obtain ⟨d1,d2,d3,d4,d5⟩:=hd
  have i0:InF c 0 0 0 0 0:=by unfold InF;omega
  have i1:InF 0 0 t 0 0 0:=by unfold InF;omega
  have i2:InF c 0 t 0 0 0:=by unfold InF;omega
  have i3:InF 0 0 0 0 0 s:=by unfold InF;omega
  have i4:InF 0 rd 0 0 0 0:=by unfold InF;omega
  have i5:InF 0 0 0 rs1 0 0:=by unfold InF;omega
  have i6:InF 0 rd 0 rs1 0 0:=by unfold InF;omega
  have i7:InF 0 0 0 0 rs2 0:=by unfold InF;omega
  have i8:InF c 0 t 0 0 s:=by unfold InF;omega
  have i9:InF 0 rd 0 rs1 rs2 0:=by unfold InF;omega
  have i10:InF c rd t rs1 rs2 s:=by unfold InF;omega
  have i11:InF 0 (v / 128 % 32) (v / 4096 % 8) (v / 32768 % 32) (v / 1048576 % 32) (v / 33554432):=by unfold InF;omega
  rw [show t * 4096 % 4294967296 = F 0 0 t 0 0 0 from by unfold F;omega,show s * 33554432 % 4294967296 = F 0 0 0 0 0 s from by unfold F;omega,show rd % 4294967296 * 128 % 4294967296 = F 0 rd 0 0 0 0 from by unfold F;omega,
   show rs1 % 4294967296 * 32768 % 4294967296 = F 0 0 0 rs1 0 0 from by unfold F;omega,show rs2 % 4294967296 * 1048576 % 4294967296 = F 0 0 0 0 rs2 0 from by unfold F;omega]
  have j1:Go.bits .or .u32 c (F 0 0 t 0 0 0) = F c 0 t 0 0 0:=by
   have:=F_or i0 i1 (by omega) (by omega) (by omega) (by omega) (by omega) (by omega)
   simpa [F] using this
  have j2:=F_or i2 i3 (by omega) (by omega) (by omega) (by omega) (by omega) (by omega)
  have j3:=F_or i4 i5 (by omega) (by omega) (by omega) (by omega) (by omega) (by omega)
  have j4:=F_or i6 i7 (by omega) (by omega) (by omega) (by omega) (by omega) (by omega)
  have j5:=F_or i8 i9 (by omega) (by omega) (by omega) (by omega) (by omega) (by omega)
  have j6:=F_or i10 i11 (by omega) (by omega) (by omega) (by omega) (by omega) (by omega)
  simp only [Int.add_zero,Int.zero_add] at j2 j3 j4 j5 j6
  rw [j1,j2,j3,j4,j5,hp,j6,← hp]
  have h6:=F_range (c:=c) (r:=rd + v / 128 % 32) (t:=t + v / 4096 % 8) (q:=rs1 + v / 32768 % 32) (p:=rs2 + v / 1048576 % 32) (s:=s + v / 33554432) (by unfold InF;omega)
  unfold F at *
  omega
 ·rw [if_neg h,if_neg h]
def sgn (n b:Int):Int:=if n ≥ b then n - 2 * b else n
theorem sign_f (n:Int) (b:Nat) (hb:1≤b) (hb2:b≤31) (h0:0≤n) (h1:n < 2 ^ b):word_Sign.f n (b:Int) = some (sgn n (2 ^ (b - 1)) % 4294967296):=by
 unfold word_Sign.f
 rw [if_neg (by omega),if_neg (by omega),w64 (n:=32 - (b:Int)) (by omega),if_pos (by omega)]
 have hp:=pow_pos b (by omega)
 have e:(32 - (b:Int)) = ((32 - b:Nat):Int):=by omega
 have epow:(2:Int) ^ (32 - b) * 2 ^ b = 4294967296:=by
  rw [← Int.pow_add,show 32 - b + b = 32 from by omega]
  rfl
 have ehalf:(2:Int) ^ b = 2 * 2 ^ (b - 1):=by
  rw [← Int.pow_succ',show b - 1 + 1 = b from by omega]
 have hq:=pow_pos (32 - b) (by omega)
 have hh:=pow_pos (b - 1) (by omega)
 have e1:shl .u32 n (32 - (b:Int)) = n * 2 ^ (32 - b):=by
  unfold shl
  rw [e,Int.toNat_natCast,show min (32 - b) IntKind.u32.bits = 32 - b from Nat.min_eq_left (show 32 - b≤32 by omega),IntKind.wrap_u32']
  refine Int.emod_eq_of_lt (Int.mul_nonneg h0 (by omega)) ?_
  rw [← epow,Int.mul_comm n]
  exact Int.mul_lt_mul_of_pos_left h1 (by omega)
 have e2:∀ x:Int,shr .i32 x (32 - (b:Int)) = x / 2 ^ (32 - b):=by
  intro x
  unfold shr
  rw [e,Int.toNat_natCast,show min (32 - b) IntKind.i32.bits = 32 - b from Nat.min_eq_left (show 32 - b≤32 by omega)]
 rw [e1,e2]
 congr 1
 unfold sgn
 have ep2:(2:Int) ^ (32 - b) * 2 ^ (b - 1) = 2147483648:=by
  rw [← Int.pow_add,show 32 - b + (b - 1) = 31 from by omega]
  rfl
 by_cases hn:n ≥ 2 ^ (b - 1)
 ·rw [if_pos hn]
  have a1:n * 2 ^ (32 - b) ≥ 2147483648:=by
   rw [← ep2,Int.mul_comm n]
   exact Int.mul_le_mul_of_nonneg_left hn (by omega)
  have a2:n * 2 ^ (32 - b) < 4294967296:=by
   rw [← epow,Int.mul_comm n]
   exact Int.mul_lt_mul_of_pos_left h1 (by omega)
  have a3:wrap32 (n * 2 ^ (32 - b)) = (n - 2 * 2 ^ (b - 1)) * 2 ^ (32 - b):=by
   rw [show (n - 2 * 2 ^ (b - 1)) * 2 ^ (32 - b) = n * 2 ^ (32 - b) - 4294967296 from by
    rw [Int.sub_mul,← ehalf,Int.mul_comm (2 ^ b),epow]]
   unfold wrap32
   omega
  rw [a3,Int.mul_ediv_cancel _ (by omega)]
 ·rw [if_neg hn]
  have a1:n * 2 ^ (32 - b) < 2147483648:=by
   rw [← ep2,Int.mul_comm n]
   exact Int.mul_lt_mul_of_pos_left (by omega) (by omega)
  have a2:0≤n * 2 ^ (32 - b):=Int.mul_nonneg h0 (by omega)
  have a3:wrap32 (n * 2 ^ (32 - b)) = n * 2 ^ (32 - b):=by
   unfold wrap32
   omega
  rw [a3,Int.mul_ediv_cancel _ (by omega)]
theorem wrapSign (x:Int) (h:-2147483648≤x∧x < 2147483648):wrap64 (wrap32 (x % 4294967296)) = x:=by
 unfold wrap32 wrap64
 omega
theorem sign12 (n:Int) (h0:0≤n) (h1:n < 4096):word_Sign.f n 12 = some (sgn n 2048 % 4294967296):=by simpa using sign_f n 12 (by omega) (by omega) h0 (by omega)
end Go.Proofs.Ytecbponmpinnoaa.InstM
end
section
namespace Go.Proofs.Ytecbponmpinnoaa.Pure
open Go Go.RowKit Go.Proofs.Ytecbponmpinnoaa.P Go.Proofs.Ytecbponmpinnoaa.InstM Go.Proofs.YtecbponmpinnoaaW.PrintWords Go.Proofs.YtecbponmpinnoaaW.PrintLast Go.Proofs.YtecbponmpinnoaaW.PrintMore
set_option linter.unusedVariables false
theorem awake60:rushlightlaw05_awake.f 60 = some true:=by kernel_rfl
theorem awake_ge (k:Nat) (hk:60≤k):rushlightlaw05_awake.f k = some true:=by
 obtain ⟨d,rfl⟩:=Nat.le.dest hk
 clear hk
 induction d with
 | zero=>exact awake60
 | succ d ih=>exact rushlightlaw05_awake.mono (60 + d) _ ih
def low12 (n:Int):Int:=sgn (n % 4096) 2048
theorem sign_wide (n:Int) (h0:0≤n) (h1:n < 4294967296):word_Sign.f n 12 = some (low12 n % 4294967296):=by
 rw [low12,← sign12 (n % 4096) (by omega) (by omega)]
 unfold word_Sign.f
 rw [w64 (n:=32 - 12) (by decide),if_neg (by decide),if_neg (by decide),if_pos (by decide),if_neg (by decide),if_neg (by decide),if_pos (by decide)]
 have e:shl .u32 n (32 - 12) = shl .u32 (n % 4096) (32 - 12):=by
  unfold shl
  rw [show min (32 - 12:Int).toNat IntKind.u32.bits = 20 from by decide,IntKind.wrap_u32',IntKind.wrap_u32']
  omega
 rw [e]
theorem low12_range (n:Int):-2048≤low12 n∧low12 n≤2047:=by
 unfold low12 sgn
 split <;> omega
theorem low12_mod (n:Int):(n - low12 n) % 4096 = 0:=by
 unfold low12 sgn
 split <;> omega
def hi32 (n:Int):Int:=wrap32 (n - low12 n)
theorem hi32_ok (n:Int) (h0:0≤n) (h1:n < 4294967296):-2147483648≤hi32 n∧hi32 n≤2147479552∧hi32 n % 4096 = 0∧(hi32 n + low12 n) % 4294967296 = n:=by
 have h:=low12_mod n
 have h2:=low12_range n
 unfold hi32 wrap32
 generalize low12 n = x at *
 refine ⟨by omega,by omega,by omega,by omega⟩
def constsM (rd n:Int):List S39 :=
 if hi32 n = 0 then [⟨19,rd,0,0,low12 n⟩] else if low12 n = 0 then [⟨1,rd,0,0,hi32 n⟩] else [⟨1,rd,0,0,hi32 n⟩,⟨19,rd,rd,0,low12 n⟩]
theorem consts_f (rd n:Int) (h0:0≤n) (h1:n < 4294967296):asm_consts.f rd n = some (constsM rd n):=by
 have h:=low12_mod n
 have h2:=low12_range n
 unfold asm_consts.f word_Parts.f
 rw [sign_wide n h0 h1,Option.bind_some,Option.bind_some]
 have e1:wrap64 (wrap32 (low12 n % 4294967296)) = low12 n:=wrapSign _ (by omega)
 have e2:wrap64 (wrap32 ((n - low12 n % 4294967296) % 4294967296)) = hi32 n:=by
  unfold hi32 wrap32 wrap64
  omega
 have e3:((n - low12 n % 4294967296) % 4294967296 = 0) = (hi32 n = 0):=by
  unfold hi32 wrap32
  apply propext
  omega
 have e4:(low12 n % 4294967296 = 0) = (low12 n = 0):=by
  apply propext
  omega
 dsimp only
 unfold constsM
 simp only [e1,e2,e3,e4]
 split
 ·rfl
 ·split <;> rfl
theorem right_hi (rd n:Int) (hr:0≤rd∧rd≤31) (h0:0≤n) (h1:n < 4294967296):rightB 1 rd 0 0 (hi32 n) = true:=by
 obtain ⟨a,b,c,-⟩:=hi32_ok n h0 h1
 have e:formOf 1 = 85:=by decide
 unfold rightB
 rw [e]
 simp [regB,roomB,has1,has2,has3,a,b,c,hr.1,hr.2]
theorem right_low (rd r n:Int) (hr:0≤rd∧rd≤31) (hr2:0≤r∧r≤31):rightB 19 rd r 0 (low12 n) = true:=by
 obtain ⟨a,b⟩:=low12_range n
 have e:formOf 19 = 73:=by decide
 unfold rightB
 rw [e]
 simp [regB,roomB,has1,has2,has3,a,b,hr.1,hr.2,hr2.1,hr2.2]
def wordS (i:S39):Int:=wordM i.f0 i.f1 i.f2 i.f3 i.f4
def rightS (i:S39):Bool:=rightB i.f0 i.f1 i.f2 i.f3 i.f4
theorem constsM_right (rd n:Int) (hr:0≤rd∧rd≤31) (h0:0≤n) (h1:n < 4294967296):∀ i ∈ constsM rd n,rightS i = true:=by
 intro i hi
 unfold constsM at hi
 split at hi
 ·simp only [List.mem_singleton] at hi
  subst hi
  exact right_low rd 0 n hr (by omega)
 ·split at hi
  ·simp only [List.mem_singleton] at hi
   subst hi
   exact right_hi rd n hr h0 h1
  ·simp only [List.mem_cons,List.not_mem_nil,or_false] at hi
   rcases hi with rfl|rfl
   ·exact right_hi rd n hr h0 h1
   ·exact right_low rd rd n hr hr
theorem l2_f (own:List S39) (hr:∀ i ∈ own,rightS i = true):∀ (d k j:Nat) (out:List Int),j + d = own.length→d + 3≤k→out.length + d < 1000000000→asm_Assemble.l2 k own out j = some (out ++ (own.drop j).map wordS)
 | 0,k,j,out,h,hk,ho=>by
  obtain ⟨k,rfl⟩:∃ k',k = k' + 1:=⟨k - 1,by omega⟩
  unfold asm_Assemble.l2
  rw [if_neg (by omega),List.drop_eq_nil_of_le (by omega)]
  simp
 | d + 1,k,j,out,h,hk,ho=>by
  obtain ⟨k,rfl⟩:∃ k',k = k' + 1:=⟨k - 1,by omega⟩
  have hj:j < own.length:=by omega
  unfold asm_Assemble.l2
  rw [if_pos hj,if_pos (by omega),encode_f k (by omega),Option.bind_some]
  have e:rd_T39 own (j:Int) = own[j]:=by
   unfold rd_T39
   rw [Int.toNat_natCast,List.getD_eq_getElem?_getD,List.getElem?_eq_getElem hj]
   rfl
  have hr1:rightB own[j].f0 own[j].f1 own[j].f2 own[j].f3 own[j].f4 = true:=hr own[j] (List.getElem_mem hj)
  rw [e]
  have e2:(encM own[j].f0 own[j].f1 own[j].f2 own[j].f3 own[j].f4).1 = wordS own[j]:=by
   unfold encM
   rw [if_pos hr1]
   rfl
  rw [e2,l2_f own hr d k (j + 1) _ (by omega) (by omega) (by simp;omega),List.drop_eq_getElem_cons hj,List.map_cons,List.append_assoc,List.singleton_append]
end Go.Proofs.Ytecbponmpinnoaa.Pure
end
