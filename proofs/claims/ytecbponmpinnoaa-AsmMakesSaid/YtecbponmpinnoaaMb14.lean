/- A claim's text, put together by a program of this session (wip/tools/shake.py): the declarations that the claim needs. -/
import Derived.Test.YtecbponmpinnoaaMb0
import Derived.Test.YtecbponmpinnoaaMb1
import Derived.Test.YtecbponmpinnoaaMb2
import Derived.Test.YtecbponmpinnoaaMb3
import Derived.Test.YtecbponmpinnoaaMb4
import Derived.Test.YtecbponmpinnoaaMb5
import Derived.Test.YtecbponmpinnoaaMb6
import Derived.Test.YtecbponmpinnoaaMb7
import Derived.Test.YtecbponmpinnoaaMb8
import Derived.Test.YtecbponmpinnoaaMb9
import Derived.Test.YtecbponmpinnoaaMb10
import Derived.Test.YtecbponmpinnoaaMb11
import Derived.Test.YtecbponmpinnoaaMb12
import Derived.Test.YtecbponmpinnoaaMb13
import Derived.Test.YtecbponmpinnoaaProg
import Derived.Below
import Derived.Deep.Draws
import Derived.Deep.AppendLies
import Derived.Maps.AppendAt
import Derived.OwnWalk
import Derived.Laws.BytesArg
import Derived.Laws.MakeOwn
import Derived.Laws.OwnMore
import Derived.Deep.OwnRows
import Derived.Tactics
import Derived.Lib.ConvBytes
import Derived.Laws.Slices
import Derived.WalkKit
import Derived.KernelRfl
import Derived.RowKit3
import Derived.Deep.LoopGhost
import Derived.Deep.QuietTactic
import Derived.BigQuiet
import Derived.WideLaws
import Derived.Deep.DeepCutAuto
import Derived.Deep.CutBlock
import Derived.Deep.RegionHeld3
import Derived.Laws.Rows
import Derived.Lib.AppendStr
import Derived.ArgAppend
import Derived.Laws.IdiomCopy
import Derived.OrdersHeld
import Derived.Laws.BitsLemmas
import Derived.RowKit
import Derived.Deep.WholeRow
import Derived.Outline
import Derived.WalkMore
import Derived.ScopeJumps
import Derived.Deep.DeepFit
import Derived.Maps.OwnOps
import Derived.Maps.Views
import Derived.Carry
import Derived.WalkArith
import Derived.Laws.StructEq
import Derived.Laws.BitsAllLaws
import Derived.IntWalk
set_option linter.unusedVariables false
set_option linter.unusedSimpArgs false
section
namespace Go.Proofs.Ytecbponmpinnoaa.Pure
open Go Go.RowKit Go.Proofs.Ytecbponmpinnoaa.P Go.Proofs.Ytecbponmpinnoaa.InstM Go.Proofs.YtecbponmpinnoaaW.PrintWords Go.Proofs.YtecbponmpinnoaaW.PrintLast Go.Proofs.YtecbponmpinnoaaW.PrintMore
set_option linter.unusedVariables false
def contM (a:Int):Int:=if 5≤a∧a≤10 then (if a % 2 = 1 then a + 1 else a - 1) else 0
theorem contrary_f (k:Nat) (a:Int):asm_Contrary.f (k + 1) a = some (contM a):=by
 unfold asm_Contrary.f
 simp only [asm_Contrary.j0]
 unfold contM
 by_cases h5:a = 5
 ·subst h5;decide +kernel
 by_cases h7:a = 7
 ·subst h7;decide +kernel
 by_cases h9:a = 9
 ·subst h9;decide +kernel
 by_cases h6:a = 6
 ·subst h6;decide +kernel
 by_cases h8:a = 8
 ·subst h8;decide +kernel
 by_cases h10:a = 10
 ·subst h10;decide +kernel
 rw [if_neg h5,if_neg h7,if_neg (by simpa using h9),if_neg h6,if_neg h8,if_neg h10,if_neg (by omega)]
theorem branch_f (a:Int):rushlightref05_branch.f a = some (decide (5≤a∧a≤10)):=by
 unfold rushlightref05_branch.f
 by_cases h:a ≥ 5
 ·rw [if_pos h]
  congr 1
  rw [decide_eq_decide]
  omega
 ·rw [if_neg h,decide_eq_false (by omega)]
theorem ref_contrary_f (a:Int):rushlightref05_Contrary.f a = some (contM a):=by
 unfold rushlightref05_Contrary.f contM
 rw [branch_f,Option.bind_some]
 by_cases h:5≤a∧a≤10
 ·rw [decide_eq_true h,if_pos rfl,if_pos h]
  have e:Int.tmod a 2 = a % 2:=Int.tmod_eq_emod_of_nonneg (by omega)
  rw [e,w64 (by omega),w64 (by omega)]
  split <;> rfl
 ·rw [decide_eq_false h,if_neg (by decide),if_neg h]
theorem contM_ne (a:Int):(contM a = 0) = ¬ (5≤a∧a≤10):=by
 unfold contM
 apply propext
 split
 ·split <;> constructor <;> intro h <;> omega
 ·constructor <;> intro h <;> simp_all
def rightI (f0 op rd rs1 rs2 imm lab:Int):Bool :=
 if f0 = 1 then rightB op rd rs1 rs2 imm && decide (lab = 0)
 else if f0 = 5 then decide (lab = 0∧op = 0∧rs1 = 0∧rs2 = 0∧0≤rd∧rd≤31∧-2147483648≤imm∧imm≤4294967295)
 else if lab < 0∨lab > 4095 then false
 else if f0 = 2 then decide (op = 0∧rd = 0∧rs1 = 0∧rs2 = 0∧imm = 0)
 else if f0 = 3 then decide (5≤op∧op≤10) && rightB op rd rs1 rs2 imm && decide (imm = 0)
 else decide (f0 = 4∧op = 3) && rightB op rd rs1 rs2 imm && decide (imm = 0)
theorem ref_rightI (k:Nat) (f0 op rd rs1 rs2 imm lab:Int):rushlightref05_Right.f (k + 6) f0 op rd rs1 rs2 imm lab = some (rightI f0 op rd rs1 rs2 imm lab):=by
 unfold rushlightref05_Right.f rightI
 by_cases h1:f0 = 1
 ·rw [if_pos h1,if_pos h1,ref_right_f (k + 2),Option.bind_some]
  cases rightB op rd rs1 rs2 imm <;> simp
  by_cases hl:lab = 0 <;> simp [hl]
 rw [if_neg h1,if_neg h1]
 by_cases h5:f0 = 5
 ·rw [if_pos h5,if_pos h5]
  by_cases c1:lab = 0
  ·rw [if_pos c1]
   by_cases c2:op = 0
   ·rw [if_pos c2]
    by_cases c3:rs1 = 0
    ·rw [if_pos c3]
     by_cases c4:rs2 = 0
     ·rw [if_pos c4]
      by_cases c5:rd ≥ 0
      ·rw [if_pos c5]
       by_cases c6:rd≤31
       ·rw [if_pos c6]
        by_cases c7:imm ≥ -2147483648
        ·rw [if_pos c7]
         congr 1
         rw [decide_eq_decide]
         omega
        ·rw [if_neg c7,decide_eq_false (by omega)]
       ·rw [if_neg c6,decide_eq_false (by omega)]
      ·rw [if_neg c5,decide_eq_false (by omega)]
     ·rw [if_neg c4,decide_eq_false (by omega)]
    ·rw [if_neg c3,decide_eq_false (by omega)]
   ·rw [if_neg c2,decide_eq_false (by omega)]
  ·rw [if_neg c1,decide_eq_false (by omega)]
 rw [if_neg h5,if_neg h5]
 by_cases hl:lab < 0
 ·rw [if_pos hl,if_pos (Or.inl hl),rushlightref05_Right.j0,if_pos rfl]
 rw [if_neg hl]
 by_cases hm:lab > 4095
 ·rw [if_pos (Or.inr hm),decide_eq_true hm,rushlightref05_Right.j0,if_pos rfl]
 rw [if_neg (by omega),decide_eq_false hm,rushlightref05_Right.j0,if_neg (by decide)]
 by_cases h2:f0 = 2
 ·rw [if_pos h2,if_pos h2]
  congr 1
  by_cases c1:op = 0 <;> by_cases c2:rd = 0 <;> by_cases c3:rs1 = 0 <;> by_cases c4:rs2 = 0 <;> by_cases c5:imm = 0 <;> simp [c1,c2,c3,c4,c5]
 rw [if_neg h2,if_neg h2]
 by_cases h3:f0 = 3
 ·rw [if_pos h3,if_pos h3,branch_f,Option.bind_some]
  cases decide (5≤op∧op≤10)
  ·simp
  ·rw [if_pos rfl,ref_right_f (k + 1),Option.bind_some]
   cases rightB op rd rs1 rs2 imm <;> simp
   by_cases hl:imm = 0 <;> simp [hl]
 rw [if_neg h3,if_neg h3]
 by_cases h4:f0 = 4
 ·rw [if_pos h4]
  by_cases hop:op = 3
  ·rw [if_pos hop,ref_right_f (k + 1),Option.bind_some,decide_eq_true ⟨h4,hop⟩]
   cases rightB op rd rs1 rs2 imm <;> simp
   by_cases hl:imm = 0 <;> simp [hl]
  ·rw [if_neg hop]
   simp [hop]
 ·rw [if_neg h4]
  simp [h4]
theorem asm_rightI (k:Nat) (f0 op rd rs1 rs2 imm lab:Int):asm_Right.f (k + 6) f0 op rd rs1 rs2 imm lab = some (rightI f0 op rd rs1 rs2 imm lab):=by
 have hj:asm_Right.f (k + 6) f0 op rd rs1 rs2 imm lab = asm_Right.j0 (k + 6) (decide (0≤lab∧lab≤4095)) f0 op rd rs1 rs2 imm lab:=by
  unfold asm_Right.f
  by_cases hl:lab ≥ 0
  ·rw [if_pos hl]
   congr 1
   rw [decide_eq_decide]
   omega
  ·rw [if_neg hl,decide_eq_false (by omega)]
 rw [hj,asm_Right.j0]
 unfold rightI
 by_cases h1:f0 = 1
 ·rw [if_pos h1,if_pos h1,right_f (k + 3),Option.bind_some]
  cases rightB op rd rs1 rs2 imm <;> simp
  by_cases hl:lab = 0 <;> simp [hl]
 rw [if_neg h1,if_neg h1]
 by_cases h2:f0 = 2
 ·rw [if_pos h2,if_neg (show ¬ f0 = 5 by omega),if_pos h2]
  by_cases hl:lab < 0∨lab > 4095
  ·rw [if_pos hl,decide_eq_false (by omega)]
   split <;> rfl
  ·rw [if_neg hl,decide_eq_true (by omega)]
   by_cases c1:op = 0 <;> by_cases c2:rd = 0 <;> by_cases c3:rs1 = 0 <;> by_cases c4:rs2 = 0 <;> by_cases c5:imm = 0 <;> simp [c1,c2,c3,c4,c5]
 rw [if_neg h2,if_neg h2]
 by_cases h3:f0 = 3
 ·rw [if_pos h3,if_neg (show ¬ f0 = 5 by omega),if_pos h3,right_f (k + 3),Option.bind_some,contrary_f (k + 4),Option.bind_some]
  by_cases hl:lab < 0∨lab > 4095
  ·rw [if_pos hl,decide_eq_false (by omega)]
   split
   ·split
    ·rfl
    ·split <;> rfl
   ·rfl
  ·rw [if_neg hl,decide_eq_true (by omega)]
   cases rightB op rd rs1 rs2 imm
   ·simp
   ·rw [if_pos rfl]
    by_cases hb:5≤op∧op≤10
    ·rw [if_neg (by rw [contM_ne];simpa using hb),decide_eq_true hb]
     by_cases hi:imm = 0 <;> simp [hi]
    ·rw [if_pos (by rw [contM_ne];exact hb),decide_eq_false hb]
     rfl
 rw [if_neg h3,if_neg h3]
 by_cases h4:f0 = 4
 ·rw [if_pos h4,if_neg (show ¬ f0 = 5 by omega),right_f (k + 3),Option.bind_some]
  by_cases hl:lab < 0∨lab > 4095
  ·rw [if_pos hl,decide_eq_false (by omega)]
   split
   ·split
    ·split <;> rfl
    ·rfl
   ·rfl
  ·rw [if_neg hl,decide_eq_true (by omega)]
   cases rightB op rd rs1 rs2 imm
   ·simp
   ·rw [if_pos rfl]
    by_cases hop:op = 3
    ·rw [if_pos hop,decide_eq_true ⟨h4,hop⟩]
     by_cases hi:imm = 0 <;> simp [hi]
    ·rw [if_neg hop,decide_eq_false (by omega)]
     rfl
 rw [if_neg h4]
 by_cases h5:f0 = 5
 ·rw [if_pos h5,if_pos h5]
  by_cases c5:rd ≥ 0
  ·rw [if_pos c5]
   by_cases c6:rd < 32
   ·rw [if_pos c6]
    by_cases c2:op = 0∧rs1 = 0∧rs2 = 0
    ·rw [if_pos (by simp [c2])]
     by_cases c7:imm ≥ -2147483648
     ·rw [if_pos c7]
      by_cases c8:imm < 4294967296
      ·rw [if_pos c8]
       by_cases hl:lab = 0
       ·rw [decide_eq_true (by omega)]
        simp [hl]
       ·rw [decide_eq_false (by omega)]
        simp [hl]
      ·rw [if_neg c8,decide_eq_false (by omega)]
     ·rw [if_neg c7,decide_eq_false (by omega)]
    ·rw [if_neg (by simpa using c2),decide_eq_false (by omega)]
   ·rw [if_neg c6,decide_eq_false (by omega)]
  ·rw [if_neg c5,decide_eq_false (by omega)]
 ·rw [if_neg h5,if_neg h5]
  split
  ·rfl
  ·simp [h4]
def refI (x:S41):S48:=⟨x.f0,⟨x.f1.f0,x.f1.f1,x.f1.f2,x.f1.f3,x.f1.f4⟩,x.f2⟩
theorem ref_l0 (xs:List S41) (hn:xs.length < 1000000):∀ (d k j:Nat) (out:List S48),j + d = xs.length→d < k→out.length + d < 2000000→rushlightlaw05_Ref.l0 k xs out (j:Int) = some (out ++ (xs.drop j).map refI)
 | 0,k,j,out,h,hk,ho=>by
  obtain ⟨k,rfl⟩:∃ k',k = k' + 1:=⟨k - 1,by omega⟩
  rw [rushlightlaw05_Ref.l0,if_neg (by omega),List.drop_eq_nil_of_le (by omega)]
  simp
 | d + 1,k,j,out,h,hk,ho=>by
  obtain ⟨k,rfl⟩:∃ k',k = k' + 1:=⟨k - 1,by omega⟩
  have hj:j < xs.length:=by omega
  rw [rushlightlaw05_Ref.l0,if_pos (by omega),if_pos (by omega),if_pos (by omega)]
  have e:rd_T41 xs (j:Int) = xs[j]:=by
   unfold rd_T41
   rw [Int.toNat_natCast,List.getD_eq_getElem?_getD,List.getElem?_eq_getElem hj]
   rfl
  rw [e,w64 (by omega),show ((j:Int) + 1) = ((j + 1:Nat):Int) from by omega]
  rw [ref_l0 xs hn d k (j + 1) _ (by omega) (by omega) (by simp;omega),List.drop_eq_getElem_cons hj,List.map_cons,List.append_assoc]
  rfl
theorem ref_f (xs:List S41) (hn:xs.length < 1000000) (k:Nat) (hk:xs.length < k):rushlightlaw05_Ref.f k xs = some (xs.map refI):=by
 unfold rushlightlaw05_Ref.f
 have:=ref_l0 xs hn xs.length k 0 [] (by omega) hk (by simp;omega)
 simpa using this
end Go.Proofs.Ytecbponmpinnoaa.Pure
end
