/- A claim's text, put together by a program of this session (wip/tools/shake.py): the declarations that the claim needs. -/
import Derived.Test.YtecbponmpinnoaaMb0
import Derived.Test.YtecbponmpinnoaaMb1
import Derived.Test.YtecbponmpinnoaaMb2
import Derived.Test.YtecbponmpinnoaaMb3
import Derived.Test.YtecbponmpinnoaaMb4
import Derived.Test.YtecbponmpinnoaaMb5
import Derived.Test.YtecbponmpinnoaaMb6
import Derived.Test.YtecbponmpinnoaaMb7
import Derived.Test.YtecbponmpinnoaaMb8
import Derived.Test.YtecbponmpinnoaaMb9
import Derived.Test.YtecbponmpinnoaaMb10
import Derived.Test.YtecbponmpinnoaaMb11
import Derived.Test.YtecbponmpinnoaaMb12
import Derived.Test.YtecbponmpinnoaaMb13
import Derived.Test.YtecbponmpinnoaaMb14
import Derived.Test.YtecbponmpinnoaaMb15
import Derived.Test.YtecbponmpinnoaaMb16
import Derived.Test.YtecbponmpinnoaaMb17
import Derived.Test.YtecbponmpinnoaaProg
import Derived.Below
import Derived.Deep.Draws
import Derived.Deep.AppendLies
import Derived.Maps.AppendAt
import Derived.OwnWalk
import Derived.Laws.BytesArg
import Derived.Laws.MakeOwn
import Derived.Laws.OwnMore
import Derived.Deep.OwnRows
import Derived.Tactics
import Derived.Lib.ConvBytes
import Derived.Laws.Slices
import Derived.WalkKit
import Derived.KernelRfl
import Derived.RowKit3
import Derived.Deep.LoopGhost
import Derived.Deep.QuietTactic
import Derived.BigQuiet
import Derived.WideLaws
import Derived.Deep.DeepCutAuto
import Derived.Deep.CutBlock
import Derived.Deep.RegionHeld3
import Derived.Laws.Rows
import Derived.Lib.AppendStr
import Derived.ArgAppend
import Derived.Laws.IdiomCopy
import Derived.OrdersHeld
import Derived.Laws.BitsLemmas
import Derived.RowKit
import Derived.Deep.WholeRow
import Derived.Outline
import Derived.WalkMore
import Derived.ScopeJumps
import Derived.Deep.DeepFit
import Derived.Maps.OwnOps
import Derived.Maps.Views
import Derived.Carry
import Derived.WalkArith
import Derived.Laws.StructEq
import Derived.Laws.BitsAllLaws
import Derived.IntWalk
namespace Go
theorem zmb18_0 {p:Prop} (h:p:=by rw [List.length_map];omega):p:=h
theorem zmb18_1 {p:Prop} (h:p:=by rw [addrs_len];omega):p:=h
end Go
set_option linter.unusedVariables false
set_option linter.unusedSimpArgs false
section
namespace Go.Proofs.Ytecbponmpinnoaa.Pure
open Go Go.RowKit Go.Proofs.Ytecbponmpinnoaa.P Go.Proofs.Ytecbponmpinnoaa.InstM Go.Proofs.YtecbponmpinnoaaW.PrintWords Go.Proofs.YtecbponmpinnoaaW.PrintLast Go.Proofs.YtecbponmpinnoaaW.PrintMore
set_option linter.unusedVariables false
theorem cut_any (s:Int) (h:-9223372036854775808≤s∧s≤9223372036854775807):rushlightref01_Cut.f s = some (s % 4294967296):=by
 unfold rushlightref01_Cut.f
 have h1:=Int.tmod_lt_of_pos s (show (0:Int) < 4294967296 by decide)
 have h2:-4294967296 < Int.tmod s 4294967296:=by
  have:=Int.tmod_lt_of_pos (-s) (show (0:Int) < 4294967296 by decide)
  rw [Int.neg_tmod] at this
  omega
 have h3:(s - Int.tmod s 4294967296) % 4294967296 = 0:=by
  have:=Int.mul_tdiv_add_tmod s 4294967296
  omega
 generalize Int.tmod s 4294967296 = t at *
 split
 ·congr 1
  rw [w64 (by omega)]
  omega
 ·congr 1
  omega
theorem sign_l (n:Int) (h0:0≤n) (h1:n < 4294967296) (k:Nat):rushlightref01_Sign.f (k + 20) n 12 = some (low12 n % 4294967296):=by
 unfold rushlightref01_Sign.f
 rw [if_neg (by decide),rushlightref01_Sign.j0,if_neg (by decide)]
 have step:∀ (m:Nat) (a b:Int),b < 12→0≤b→0≤a∧a≤8192→rushlightref01_Sign.l0 (m + 1) n 12 a b = rushlightref01_Sign.l0 m n 12 (2 * a) (b + 1):=by
  intro m a b hb hb0 ha
  rw [rushlightref01_Sign.l0,if_pos hb,w64 (by omega),w64 (by omega)]
 rw [step (k + 18) 1 0 (by decide) (by decide) (by decide),step (k + 17) _ _ (by decide) (by decide) (by decide),step (k + 16) _ _ (by decide) (by decide) (by decide),step (k + 15) _ _ (by decide) (by decide) (by decide),
  step (k + 14) _ _ (by decide) (by decide) (by decide),step (k + 13) _ _ (by decide) (by decide) (by decide),step (k + 12) _ _ (by decide) (by decide) (by decide),step (k + 11) _ _ (by decide) (by decide) (by decide),
  step (k + 10) _ _ (by decide) (by decide) (by decide),step (k + 9) _ _ (by decide) (by decide) (by decide),step (k + 8) _ _ (by decide) (by decide) (by decide),step (k + 7) _ _ (by decide) (by decide) (by decide)]
 rw [rushlightref01_Sign.l0,if_neg (by decide),if_neg (by decide),w64 (n:=n) (by omega)]
 rw [show (2 * (2 * (2 * (2 * (2 * (2 * (2 * (2 * (2 * (2 * (2 * (2 * 1))))))))))):Int) = 4096 from by decide,show Int.tdiv 4096 2 = 2048 from by decide,w64 (n:=2048) (by omega),Int.tmod_eq_emod_of_nonneg h0]
 have hs:low12 n = if n % 4096 ≥ 2048 then n % 4096 - 4096 else n % 4096:=by
  unfold low12 sgn
  split <;> omega
 split
 ·rename_i h
  rw [w64 (by omega),cut_any _ (by omega),hs,if_pos h]
  rfl
 ·rename_i h
  rw [cut_any _ (by omega),hs,if_neg h]
  rfl
theorem signed_f (n:Int) (h0:0≤n) (h1:n < 4294967296):rushlightref01_Signed.f n = some (if n ≥ 2147483648 then n - 4294967296 else n):=by
 unfold rushlightref01_Signed.f
 rw [w64 (n:=n) (by omega)]
 split
 ·rw [w64 (by omega)]
 ·rfl
def toI (i:S39):S46:=⟨i.f0,i.f1,i.f2,i.f3,i.f4⟩
theorem number_ref (k:Nat) (rd z:Int) (hz:-9223372036854775808≤z∧z≤9223372036854775807):rushlightref05_Number.f (k + 30) rd z = some ((constsM rd (z % 4294967296)).map toI):=by
 unfold rushlightref05_Number.f
 have n0:0≤z % 4294967296:=by omega
 have n1:z % 4294967296 < 4294967296:=by omega
 rw [cut_any z hz,Option.bind_some,signed_f _ n0 n1,Option.bind_some]
 generalize hn:z % 4294967296 = n at *
 have hl:=low12_range n
 have hm:=low12_mod n
 have hh:=hi32_ok n n0 n1
 have hw:∀ w:Int,w = (if n ≥ 2147483648 then n - 4294967296 else n)→(if w ≥ -2048 then rushlightref05_Number.j0 (k + 30) rd z w (decide (w≤2047)) else rushlightref05_Number.j0 (k + 30) rd z w false) = some ((constsM rd n).map toI):=by
  intro w hw
  have hw2:w = n∨w = n - 4294967296:=by
   rw [hw]
   split
   ·exact Or.inr rfl
   ·exact Or.inl rfl
  have hw3:-2147483648≤w∧w≤2147483647:=by
   rw [hw]
   split <;> omega
  have hhi:hi32 n = w - low12 n∨(hi32 n = w - low12 n - 4294967296∧w - low12 n ≥ 2147483648):=by
   unfold hi32 wrap32
   rcases hw2 with h|h <;> omega
  have big:¬ (-2048≤w∧w≤2047)→rushlightref05_Number.j0 (k + 30) rd z w false = some ((constsM rd n).map toI):=by
   intro hb
   rw [rushlightref05_Number.j0,if_neg (by decide),cut_any z hz,Option.bind_some,hn,sign_l n n0 n1 (k + 9),Option.bind_some,signed_f _ (by omega) (by omega),Option.bind_some]
   have e1:(if low12 n % 4294967296 ≥ 2147483648 then low12 n % 4294967296 - 4294967296 else low12 n % 4294967296) = low12 n:=by
    split <;> omega
   rw [e1,w64 (by omega),cut_any _ (by omega),Option.bind_some,signed_f _ (by omega) (by omega),Option.bind_some]
   have e2:(if (w - low12 n) % 4294967296 ≥ 2147483648 then (w - low12 n) % 4294967296 - 4294967296 else (w - low12 n) % 4294967296) = hi32 n:=by
    split <;> rcases hhi with h|h <;> omega
   rw [e2]
   have hz2:¬ hi32 n = 0:=by
    intro h0
    apply hb
    rcases hhi with h|h <;> omega
   unfold constsM
   rw [if_neg hz2]
   split <;> rfl
  by_cases ha:w ≥ -2048
  ·rw [if_pos ha]
   by_cases hb:w≤2047
   ·rw [decide_eq_true hb,rushlightref05_Number.j0,if_pos rfl]
    have:low12 n = w:=by
     unfold low12 sgn
     rcases hw2 with h|h <;> split <;> omega
    have h2:hi32 n = 0:=by
     rcases hhi with h|h <;> omega
    unfold constsM
    rw [if_pos h2,this]
    rfl
   ·rw [decide_eq_false hb]
    exact big (by omega)
  ·rw [if_neg ha]
   exact big (by omega)
 exact hw _ rfl
def sizeM (x:S41) (far:Bool):Int:=if x.f0 = 2 then 0 else if x.f0 = 5 then 4 * ((constsM x.f1.f1 (x.f1.f4 % 4294967296)).length:Int) else if far = true then 8 else 4
theorem constsM_len (rd n:Int):1≤(constsM rd n).length∧(constsM rd n).length≤2:=by
 unfold constsM
 split
 ·simp
 ·split <;> simp
theorem sizeM_range (x:S41) (far:Bool):0≤sizeM x far∧sizeM x far≤8∧sizeM x far % 4 = 0:=by
 have:=constsM_len x.f1.f1 (x.f1.f4 % 4294967296)
 unfold sizeM
 split
 ·omega
 ·split
  ·omega
  ·split <;> omega
def itemAt (xs:List S41) (i:Nat):S41:=xs.getD i z41
theorem rd_item (xs:List S41) (i:Nat):rd_T41 xs (i:Int) = itemAt xs i:=rfl
theorem rd_item48 (xs:List S41) (i:Nat) (hi:i < xs.length):rd_T48 (xs.map refI) (i:Int) = refI (itemAt xs i):=by
 unfold rd_T48 itemAt
 rw [Int.toNat_natCast,List.getD_eq_getElem?_getD,List.getD_eq_getElem?_getD,List.getElem?_map,List.getElem?_eq_getElem hi]
 rfl
def addr (xs:List S41) (far:List Bool):Nat→Int
 | 0=>0
 | i + 1=>addr xs far i + sizeM (itemAt xs i) (far.getD i false)
theorem addr_range (xs:List S41) (far:List Bool):∀ i:Nat,0≤addr xs far i∧addr xs far i≤8 * (i:Int)∧addr xs far i % 4 = 0
 | 0=>by simp [addr]
 | i + 1=>by
  have h:=addr_range xs far i
  have h2:=sizeM_range (itemAt xs i) (far.getD i false)
  simp only [addr]
  omega
theorem sizeF_eq (x:S41) (b:Bool):sizeF x b = some (sizeM x b):=by
 have h:=constsM_len x.f1.f1 (x.f1.f4 % 4294967296)
 unfold sizeF sizeM
 split
 ·rfl
 ·split
  ·rw [consts_f _ _ (by omega) (by omega),Option.bind_some,w64 (by omega)]
  ·split <;> rfl
theorem size_ref (k:Nat) (x:S41) (b:Bool) (hx:-9223372036854775808≤x.f1.f4∧x.f1.f4≤9223372036854775807):rushlightref05_size.f (k + 30) x.f0 x.f1.f0 x.f1.f1 x.f1.f2 x.f1.f3 x.f1.f4 x.f2 b = some (sizeM x b):=by
 have h:=constsM_len x.f1.f1 (x.f1.f4 % 4294967296)
 unfold rushlightref05_size.f sizeM
 split
 ·rfl
 ·split
  ·rw [number_ref k _ _ hx,Option.bind_some,List.length_map,w64 (by omega)]
  ·split <;> rfl
end Go.Proofs.Ytecbponmpinnoaa.Pure
end
section
namespace Go.Proofs.Ytecbponmpinnoaa.Pure
open Go Go.RowKit Go.Proofs.Ytecbponmpinnoaa.P Go.Proofs.Ytecbponmpinnoaa.InstM Go.Proofs.YtecbponmpinnoaaW.PrintWords Go.Proofs.YtecbponmpinnoaaW.PrintLast Go.Proofs.YtecbponmpinnoaaW.PrintMore
set_option linter.unusedVariables false
def labAt (xs:List S41) (l:Int) (i:Nat):Prop:=(itemAt xs i).f0 = 2∧(itemAt xs i).f2 = l
instance (xs:List S41) (l:Int) (i:Nat):Decidable (labAt xs l i):=inferInstanceAs (Decidable (_∧_))
def standFrom (xs:List S41) (l:Int):Nat→Nat→Int
 | 0,_=>-1
 | d + 1,i=>if labAt xs l i then (i:Int) else standFrom xs l d (i + 1)
def standsM (xs:List S41) (l:Int):Int:=standFrom xs l xs.length 0
theorem standFrom_some (xs:List S41) (l:Int):∀ (d i s:Nat),i≤s→s < i + d→labAt xs l s→(∀ j,i≤j→j < s→¬ labAt xs l j)→standFrom xs l d i = (s:Int)
 | 0,i,s,h1,h2,_,_=>by omega
 | d + 1,i,s,h1,h2,h3,h4=>by
  unfold standFrom
  by_cases h:labAt xs l i
  ·rw [if_pos h]
   have:¬ i < s:=fun hlt=>h4 i (Nat.le_refl _) hlt h
   omega
  ·rw [if_neg h]
   have:i≠s:=fun e=>h (e ▸ h3)
   exact standFrom_some xs l d (i + 1) s (by omega) (by omega) h3 (fun j hj hj2=>h4 j (by omega) hj2)
theorem standFrom_none (xs:List S41) (l:Int):∀ (d i:Nat),(∀ j,i≤j→j < i + d→¬ labAt xs l j)→standFrom xs l d i = -1
 | 0,i,_=>rfl
 | d + 1,i,h=>by
  unfold standFrom
  rw [if_neg (h i (Nat.le_refl _) (by omega))]
  exact standFrom_none xs l d (i + 1) (fun j hj hj2=>h j (by omega) (by omega))
theorem stand_some (xs:List S41) (l:Int) (s:Nat) (hs:s < xs.length) (h:labAt xs l s) (h0:∀ j,j < s→¬ labAt xs l j):standsM xs l = (s:Int) :=
 standFrom_some xs l xs.length 0 s (by omega) (by omega) h (fun j _ hj=>h0 j hj)
theorem stand_none (xs:List S41) (l:Int) (h:∀ j,j < xs.length→¬ labAt xs l j):standsM xs l = -1 :=
 standFrom_none xs l xs.length 0 (fun j _ hj=>h j (by omega))
theorem standFrom_cases (xs:List S41) (l:Int):∀ (d i:Nat),standFrom xs l d i = -1∧(∀ j,i≤j→j < i + d→¬ labAt xs l j)∨∃ s,i≤s∧s < i + d∧labAt xs l s∧standFrom xs l d i = (s:Int)
 | 0,i=>.inl ⟨rfl,fun j h1 h2=>by omega⟩
 | d + 1,i=>by
  unfold standFrom
  by_cases h:labAt xs l i
  ·rw [if_pos h]
   exact .inr ⟨i,Nat.le_refl _,by omega,h,rfl⟩
  ·rw [if_neg h]
   rcases standFrom_cases xs l d (i + 1) with ⟨h1,h2⟩|⟨s,h1,h2,h3,h4⟩
   ·refine .inl ⟨h1,fun j hj hj2=>?_⟩
    by_cases e:j = i
    ·rw [e];exact h
    ·exact h2 j (by omega) (by omega)
   ·exact .inr ⟨s,by omega,by omega,h3,h4⟩
theorem stand_cases (xs:List S41) (l:Int):standsM xs l = -1∧(∀ j,j < xs.length→¬ labAt xs l j)∨∃ s:Nat,s < xs.length∧labAt xs l s∧standsM xs l = (s:Int):=by
 rcases standFrom_cases xs l xs.length 0 with ⟨h1,h2⟩|⟨s,_,h2,h3,h4⟩
 ·exact .inl ⟨h1,fun j hj=>h2 j (by omega) (by omega)⟩
 ·exact .inr ⟨s,by omega,h3,h4⟩
theorem stands_ref (xs:List S41) (hn:xs.length < 1000000) (l:Int):∀ (d k i:Nat),i + d = xs.length→d < k→(∀ j,j < i→¬ labAt xs l j)→rushlightref05_stands.l0 k (xs.map refI) l (i:Int) = some (standsM xs l)
 | 0,k,i,h,hk,h0=>by
  obtain ⟨k,rfl⟩:∃ k',k = k' + 1:=⟨k - 1,by omega⟩
  rw [rushlightref05_stands.l0,if_neg zmb18_0,stand_none xs l (fun j hj=>h0 j (by omega))]
 | d + 1,k,i,h,hk,h0=>by
  obtain ⟨k,rfl⟩:∃ k',k = k' + 1:=⟨k - 1,by omega⟩
  have hi:i < xs.length:=by omega
  have next:¬ labAt xs l i→rushlightref05_stands.l0 k (xs.map refI) l (wrap64 ((i:Int) + 1)) = some (standsM xs l):=by
   intro hl
   rw [w64 (by omega),show ((i:Int) + 1) = ((i + 1:Nat):Int) from by omega]
   refine stands_ref xs hn l d k (i + 1) (by omega) (by omega) (fun j hj=>?_)
   by_cases e:j = i
   ·rw [e];exact hl
   ·exact h0 j (by omega)
  rw [rushlightref05_stands.l0,if_pos zmb18_0,if_pos (by omega),rd_item48 xs i hi]
  by_cases h1:(itemAt xs i).f0 = 2
  ·rw [if_pos (show (refI (itemAt xs i)).f0 = 2 from h1)]
   by_cases h2:(itemAt xs i).f2 = l
   ·rw [if_pos (show (refI (itemAt xs i)).f2 = l from h2),stand_some xs l i hi ⟨h1,h2⟩ h0]
   ·rw [if_neg (show ¬ (refI (itemAt xs i)).f2 = l from h2)]
    exact next (fun h=>h2 h.2)
  ·rw [if_neg (show ¬ (refI (itemAt xs i)).f0 = 2 from h1)]
   exact next (fun h=>h1 h.1)
theorem stands_f (xs:List S41) (hn:xs.length < 1000000) (l:Int) (k:Nat) (hk:xs.length < k):rushlightref05_stands.f k (xs.map refI) l = some (standsM xs l):=by
 unfold rushlightref05_stands.f
 exact stands_ref xs hn l xs.length k 0 (by omega) hk (fun j hj=>by omega)
def addrs (xs:List S41) (far:List Bool):List Int:=(List.range (xs.length + 1)).map (addr xs far)
theorem addrs_len (xs:List S41) (far:List Bool):(addrs xs far).length = xs.length + 1:=by simp [addrs]
theorem addrs_get (xs:List S41) (far:List Bool) (i:Nat) (hi:i≤xs.length):(addrs xs far).getD i 0 = addr xs far i:=by
 unfold addrs
 rw [List.getD_eq_getElem?_getD,List.getElem?_map,List.getElem?_range (by omega)]
 rfl
def wf64 (xs:List S41):Prop:=∀ i,i < xs.length→-9223372036854775808≤(itemAt xs i).f1.f4∧(itemAt xs i).f1.f4≤9223372036854775807
theorem places_l (xs:List S41) (hn:xs.length < 1000000) (hw:wf64 xs) (far:List Bool) (hf:far.length = xs.length):∀ (d k i:Nat),i + d = xs.length→d + 40 < k →
  rushlightref05_places.l0 k (xs.map refI) far ((List.range i).map (addr xs far)) (addr xs far i) (i:Int) = some (addrs xs far)
 | 0,k,i,h,hk=>by
  obtain ⟨k,rfl⟩:∃ k',k = k' + 1:=⟨k - 1,by omega⟩
  rw [rushlightref05_places.l0,if_neg zmb18_0,if_pos (by simp;omega)]
  have e:i = xs.length:=by omega
  subst e
  unfold addrs
  rw [List.range_succ,List.map_append]
  rfl
 | d + 1,k,i,h,hk=>by
  obtain ⟨k,rfl⟩:∃ k',k = k' + 1:=⟨k - 1,by omega⟩
  have hi:i < xs.length:=by omega
  rw [rushlightref05_places.l0,if_pos zmb18_0,if_pos (by simp;omega),if_pos (by omega),if_pos (by omega),rd_item48 xs i hi]
  obtain ⟨k2,rfl⟩:∃ k',k = k' + 30:=⟨k - 30,by omega⟩
  have hs:=size_ref k2 (itemAt xs i) (far.getD i false) (hw i hi)
  have e:rdOf false far (i:Int) = far.getD i false:=rfl
  rw [e]
  have hs2:rushlightref05_size.f (k2 + 30) (refI (itemAt xs i)).f0 (refI (itemAt xs i)).f1.f0 (refI (itemAt xs i)).f1.f1 (refI (itemAt xs i)).f1.f2 (refI (itemAt xs i)).f1.f3 (refI (itemAt xs i)).f1.f4 (refI (itemAt xs i)).f2 (far.getD i false) = some (sizeM (itemAt xs i) (far.getD i false)):=hs
  rw [hs2,Option.bind_some]
  have r1:=addr_range xs far i
  have r2:=sizeM_range (itemAt xs i) (far.getD i false)
  rw [w64 (by omega),w64 (by omega)]
  have:=places_l xs hn hw far hf d (k2 + 30) (i + 1) (by omega) (by omega)
  rw [List.range_succ,List.map_append] at this
  exact this
theorem places_f (xs:List S41) (hn:xs.length < 1000000) (hw:wf64 xs) (far:List Bool) (hf:far.length = xs.length) (k:Nat) (hk:xs.length + 40 < k):rushlightref05_places.f k (xs.map refI) far = some (addrs xs far):=by
 unfold rushlightref05_places.f
 exact places_l xs hn hw far hf xs.length k 0 (by omega) (by omega)
end Go.Proofs.Ytecbponmpinnoaa.Pure
end
section
namespace Go.Proofs.Ytecbponmpinnoaa.Pure
open Go Go.RowKit Go.Proofs.Ytecbponmpinnoaa.P Go.Proofs.Ytecbponmpinnoaa.InstM Go.Proofs.YtecbponmpinnoaaW.PrintWords Go.Proofs.YtecbponmpinnoaaW.PrintLast Go.Proofs.YtecbponmpinnoaaW.PrintMore
set_option linter.unusedVariables false
theorem ext_getD {α:Type} (d:α) {a b:List α} (h:a.length = b.length) (hg:∀ i,i < a.length→a.getD i d = b.getD i d):a = b:=by
 refine List.ext_getElem h (fun i h1 h2=>?_)
 have:=hg i h1
 rw [List.getD_eq_getElem?_getD,List.getD_eq_getElem?_getD,List.getElem?_eq_getElem h1,List.getElem?_eq_getElem h2] at this
 exact this
theorem getD_set {α:Type} (d:α) (a:List α) (i j:Nat) (v:α) (hi:i < a.length):(a.set i v).getD j d = if j = i then v else a.getD j d:=by
 rw [List.getD_eq_getElem?_getD,List.getD_eq_getElem?_getD,List.getElem?_set]
 by_cases h:j = i
 ·subst h
  rw [if_pos rfl,if_pos hi,if_pos rfl]
  rfl
 ·rw [if_neg (fun e=>h e.symm),if_neg h]
theorem getD_map_range {α:Type} (d:α) (f:Nat→α) (n i:Nat) (hi:i < n):((List.range n).map f).getD i d = f i:=by
 rw [List.getD_eq_getElem?_getD,List.getElem?_map,List.getElem?_range hi]
 rfl
structure Okay (xs:List S41) (M:Nat):Prop where
 small:xs.length < 1000000
 lab:∀ i,i < xs.length→(itemAt xs i).f0 = 2→0≤(itemAt xs i).f2∧(itemAt xs i).f2 < M
 one:∀ l i j,i < xs.length→j < xs.length→labAt xs l i→labAt xs l j→i = j
 ref:∀ i,i < xs.length→(itemAt xs i).f0 = 3∨(itemAt xs i).f0 = 4→0≤(itemAt xs i).f2∧(itemAt xs i).f2 < M∧standsM xs (itemAt xs i).f2≠-1
def labsP (xs:List S41) (far:List Bool) (M:Nat) (lab0:List Int) (i:Nat):List Int :=
 (List.range M).map fun (l:Nat)=>if 0≤standsM xs l∧standsM xs l < i then addr xs far (standsM xs l).toNat else lab0.getD l 0
def labsM (xs:List S41) (far:List Bool) (M:Nat):List Int :=
 (List.range M).map fun (l:Nat)=>if 0≤standsM xs l then addr xs far (standsM xs l).toNat else -1
theorem labsP_len (xs:List S41) (far:List Bool) (M:Nat) (lab0:List Int) (i:Nat):(labsP xs far M lab0 i).length = M:=by simp [labsP]
theorem labsM_len (xs:List S41) (far:List Bool) (M:Nat):(labsM xs far M).length = M:=by simp [labsM]
theorem labsP_get (xs:List S41) (far:List Bool) (M:Nat) (lab0:List Int) (i l:Nat) (hl:l < M):(labsP xs far M lab0 i).getD l 0 = if 0≤standsM xs l∧standsM xs l < i then addr xs far (standsM xs l).toNat else lab0.getD l 0 :=
 getD_map_range 0 _ M l hl
theorem labsM_get (xs:List S41) (far:List Bool) (M l:Nat) (hl:l < M):(labsM xs far M).getD l 0 = if 0≤standsM xs l then addr xs far (standsM xs l).toNat else -1 :=
 getD_map_range 0 _ M l hl
theorem stand_at {xs:List S41} {M:Nat} (hO:Okay xs M) {l:Int} {i:Nat} (hi:i < xs.length) (h:labAt xs l i):standsM xs l = (i:Int):=by
 rcases stand_cases xs l with ⟨_,h2⟩|⟨s,h1,h2,h3⟩
 ·exact absurd h (h2 i hi)
 ·rw [h3,hO.one l s i h1 hi h2 h]
theorem stand_lt {xs:List S41} {l:Int} (h:standsM xs l≠-1):∃ s:Nat,s < xs.length∧labAt xs l s∧standsM xs l = (s:Int):=by
 rcases stand_cases xs l with ⟨h1,_⟩|h2
 ·exact absurd h1 h
 ·exact h2
theorem labsP_zero (xs:List S41) (far:List Bool) (M:Nat) (lab0:List Int) (h:lab0.length = M):labsP xs far M lab0 0 = lab0:=by
 refine ext_getD 0 (by rw [labsP_len,h]) (fun i hi=>?_)
 rw [labsP_len] at hi
 rw [labsP_get _ _ _ _ _ _ hi,if_neg (by omega)]
theorem labsP_end (xs:List S41) (far:List Bool) (M:Nat) (lab0:List Int) (h:∀ l:Nat,l < M→standsM xs l = -1→lab0.getD l 0 = -1):labsP xs far M lab0 xs.length = labsM xs far M:=by
 refine ext_getD 0 (by rw [labsP_len,labsM_len]) (fun i hi=>?_)
 rw [labsP_len] at hi
 rw [labsP_get _ _ _ _ _ _ hi,labsM_get _ _ _ _ hi]
 by_cases e:standsM xs (i:Int) = -1
 ·rw [if_neg (by omega),if_neg (by omega),h i hi e]
 ·obtain ⟨s,h1,_,h3⟩:=stand_lt e
  rw [if_pos (by omega),if_pos (by omega)]
theorem place_l {xs:List S41} {M:Nat} (hO:Okay xs M) (far:List Bool) (lab0:List Int):∀ (d k i:Nat) (at_:List Int),i + d = xs.length→d < k→at_.length = xs.length + 1→(∀ j,j < i→at_.getD j 0 = addr xs far j) →
  asm_place.l0 k xs far at_ (labsP xs far M lab0 i) (addr xs far i) i = some (addrs xs far,labsP xs far M lab0 xs.length)
 | 0,k,i,at_,h,hk,hl,hj=>by
  obtain ⟨k,rfl⟩:∃ k',k = k' + 1:=⟨k - 1,by omega⟩
  have e:i = xs.length:=by omega
  subst e
  rw [asm_place.l0,if_neg (by omega)]
  congr 1
  refine Prod.ext ?_ rfl
  refine ext_getD 0 (by rw [addrs_len];simp [hl]) (fun i hi=>?_)
  rw [List.length_set] at hi
  show (at_.set xs.length (addr xs far xs.length)).getD i 0 = _
  rw [getD_set 0 _ _ _ _ (by omega),addrs_get _ _ _ (by omega)]
  split
  ·rename_i h;rw [h]
  ·exact hj i (by omega)
 | d + 1,k,i,at_,h,hk,hl,hj=>by
  obtain ⟨k,rfl⟩:∃ k',k = k' + 1:=⟨k - 1,by omega⟩
  have hi:i < xs.length:=by omega
  have hsm:=hO.small
  rw [asm_place.l0,if_pos hi,rd_item]
  have hc:¬ ((itemAt xs i).f0 = 2∧¬ (0≤(itemAt xs i).f2∧(itemAt xs i).f2 < (labsP xs far M lab0 i).length)):=by
   rw [labsP_len]
   rintro ⟨h1,h2⟩
   exact h2 (hO.lab i hi h1)
  rw [if_neg hc,sizeF_eq,Option.bind_some]
  have r1:=addr_range xs far i
  have r2:=sizeM_range (itemAt xs i) (far.getD i false)
  rw [w64 (by omega)]
  have hlab:(if (itemAt xs i).f0 = 2 then (labsP xs far M lab0 i).set (itemAt xs i).f2.toNat (addr xs far i) else labsP xs far M lab0 i) = labsP xs far M lab0 (i + 1):=by
   split
   ·rename_i h2
    have hb:=hO.lab i hi h2
    have hst:=stand_at hO hi ⟨h2,rfl⟩
    refine ext_getD 0 (by simp [labsP_len]) (fun l hll=>?_)
    rw [List.length_set,labsP_len] at hll
    rw [getD_set 0 _ _ _ _ (by rw [labsP_len];omega),labsP_get _ _ _ _ _ _ hll,labsP_get _ _ _ _ _ _ hll]
    by_cases e:l = (itemAt xs i).f2.toNat
    ·rw [if_pos e]
     have e2:(l:Int) = (itemAt xs i).f2:=by omega
     rw [e2,hst,if_pos (by omega)]
     rfl
    ·rw [if_neg e]
     have hne:standsM xs (l:Int)≠(i:Int):=by
      intro he
      rcases stand_cases xs (l:Int) with ⟨h1,_⟩|⟨s,h1,h2',h3⟩
      ·omega
      ·have:s = i:=by omega
       subst this
       have:=h2'.2
       omega
     by_cases c:0≤standsM xs (l:Int)∧standsM xs (l:Int) < i
     ·rw [if_pos c,if_pos (by omega)]
     ·rw [if_neg c,if_neg (by omega)]
   ·rename_i h2
    refine ext_getD 0 (by simp [labsP_len]) (fun l hll=>?_)
    rw [labsP_len] at hll
    rw [labsP_get _ _ _ _ _ _ hll,labsP_get _ _ _ _ _ _ hll]
    have hne:standsM xs (l:Int)≠(i:Int):=by
     intro he
     rcases stand_cases xs (l:Int) with ⟨h1,_⟩|⟨s,h1,h2',h3⟩
     ·omega
     ·have:s = i:=by omega
      subst this
      exact h2 h2'.1
    by_cases c:0≤standsM xs (l:Int)∧standsM xs (l:Int) < i
    ·rw [if_pos c,if_pos (by omega)]
    ·rw [if_neg c,if_neg (by omega)]
  rw [hlab]
  refine place_l hO far lab0 d k (i + 1) (at_.set i (addr xs far i)) (by omega) (by omega) (by simp [hl]) (fun j hj2=>?_)
  rw [getD_set 0 _ _ _ _ (by omega)]
  split
  ·rename_i h;rw [h]
  ·exact hj j (by omega)
theorem place_f {xs:List S41} {M:Nat} (hO:Okay xs M) (far:List Bool) (lab0 at_:List Int) (hl:lab0.length = M) (hat:at_.length = xs.length + 1) (h0:∀ l:Nat,l < M→standsM xs l = -1→lab0.getD l 0 = -1) (k:Nat) (hk:xs.length < k) :
  asm_place.l0 k xs far at_ lab0 0 0 = some (addrs xs far,labsM xs far M):=by
 have h:=place_l hO far lab0 xs.length k 0 at_ (by omega) hk hat (fun j hj=>by omega)
 rw [labsP_zero xs far M lab0 hl,labsP_end xs far M lab0 h0] at h
 exact h
def wayM (xs:List S41) (far:List Bool) (i:Nat):Int:=addr xs far (standsM xs (itemAt xs i).f2).toNat - addr xs far i
def farAt (xs:List S41) (far:List Bool) (i:Nat):Bool:=far.getD i false || (decide ((itemAt xs i).f0 = 3) && (decide (wayM xs far i < -4096) || decide (wayM xs far i > 4094)))
def stepM (xs:List S41) (far:List Bool):List Bool:=(List.range xs.length).map (farAt xs far)
def stepP (xs:List S41) (far:List Bool) (i:Nat):List Bool:=(List.range xs.length).map fun j=>if j < i then farAt xs far j else far.getD j false
theorem stepP_len (xs:List S41) (far:List Bool) (i:Nat):(stepP xs far i).length = xs.length:=by simp [stepP]
theorem stepM_len (xs:List S41) (far:List Bool):(stepM xs far).length = xs.length:=by simp [stepM]
theorem stepP_get (xs:List S41) (far:List Bool) (i j:Nat) (hj:j < xs.length):(stepP xs far i).getD j false = if j < i then farAt xs far j else far.getD j false :=
 getD_map_range false _ _ j hj
theorem stepM_get (xs:List S41) (far:List Bool) (j:Nat) (hj:j < xs.length):(stepM xs far).getD j false = farAt xs far j :=
 getD_map_range false _ _ j hj
theorem stepP_end (xs:List S41) (far:List Bool):stepP xs far xs.length = stepM xs far:=by
 refine ext_getD false (by rw [stepP_len,stepM_len]) (fun j hj=>?_)
 rw [stepP_len] at hj
 rw [stepP_get _ _ _ _ hj,stepM_get _ _ _ hj,if_pos hj]
theorem stepP_zero (xs:List S41) (far:List Bool) (hf:far.length = xs.length):stepP xs far 0 = far:=by
 refine ext_getD false (by rw [stepP_len,hf]) (fun j hj=>?_)
 rw [stepP_len] at hj
 rw [stepP_get _ _ _ _ hj,if_neg (by omega)]
theorem way_range {xs:List S41} {M:Nat} (hO:Okay xs M) (far:List Bool) (i:Nat) (hi:i < xs.length) (h:(itemAt xs i).f0 = 3∨(itemAt xs i).f0 = 4):-8000000≤wayM xs far i∧wayM xs far i≤8000000∧wayM xs far i % 4 = 0:=by
 obtain ⟨s,h1,_,h3⟩:=stand_lt (hO.ref i hi h).2.2
 have hs:=hO.small
 unfold wayM
 rw [h3]
 have r1:=addr_range xs far s
 have r2:=addr_range xs far i
 rw [Int.toNat_natCast]
 omega
theorem lab_way {xs:List S41} {M:Nat} (hO:Okay xs M) (far:List Bool) (i:Nat) (hi:i < xs.length) (h:(itemAt xs i).f0 = 3∨(itemAt xs i).f0 = 4) :
  (labsM xs far M).getD (itemAt xs i).f2.toNat 0 - (addrs xs far).getD i 0 = wayM xs far i:=by
 obtain ⟨h1,h2,h3⟩:=hO.ref i hi h
 obtain ⟨s,h4,_,h5⟩:=stand_lt h3
 have e:(((itemAt xs i).f2.toNat:Nat):Int) = (itemAt xs i).f2:=by omega
 rw [addrs_get _ _ _ (by omega),labsM_get _ _ _ _ (by omega),e,if_pos (by omega)]
 rfl
theorem grow_l1 {xs:List S41} {M:Nat} (hO:Okay xs M) (far:List Bool) (hf:far.length = xs.length):∀ (d k i:Nat) (grew:Bool),i + d = xs.length→d < k→(grew = true↔∃ j,j < i∧farAt xs far j≠far.getD j false) →
  ∃ g,asm_grow.l1 k xs (stepP xs far i) (addrs xs far) (labsM xs far M) grew i = some (stepM xs far,g)∧(g = true↔∃ j,j < xs.length∧farAt xs far j≠far.getD j false)
 | 0,k,i,grew,h,hk,hg=>by
  obtain ⟨k,rfl⟩:∃ k',k = k' + 1:=⟨k - 1,by omega⟩
  have e:i = xs.length:=by omega
  subst e
  rw [asm_grow.l1,if_neg (by omega),stepP_end]
  exact ⟨grew,rfl,hg⟩
 | d + 1,k,i,grew,h,hk,hg=>by
  obtain ⟨k,rfl⟩:∃ k',k = k' + 1:=⟨k - 1,by omega⟩
  have hi:i < xs.length:=by omega
  rw [asm_grow.l1,if_pos hi,rd_item,stepP_get _ _ _ _ hi,if_neg (Nat.lt_irrefl i)]
  have same:farAt xs far i = far.getD i false→stepP xs far (i + 1) = stepP xs far i:=by
   intro he
   refine ext_getD false (by rw [stepP_len,stepP_len]) (fun j hj=>?_)
   rw [stepP_len] at hj
   rw [stepP_get _ _ _ _ hj,stepP_get _ _ _ _ hj]
   by_cases e:j = i
   ·subst e
    rw [if_pos (by omega),if_neg (by omega),he]
   ·by_cases c:j < i
    ·rw [if_pos (by omega),if_pos c]
    ·rw [if_neg (by omega),if_neg c]
  have gsame:farAt xs far i = far.getD i false→(grew = true↔∃ j,j < i + 1∧farAt xs far j≠far.getD j false):=by
   intro he
   rw [hg]
   constructor
   ·rintro ⟨j,h1,h2⟩;exact ⟨j,by omega,h2⟩
   ·rintro ⟨j,h1,h2⟩
    refine ⟨j,?_,h2⟩
    have:j≠i:=fun e=>h2 (e ▸ he)
    omega
  by_cases c1:(itemAt xs i).f0≠3∨far.getD i false = true
  ·rw [if_pos c1]
   have he:farAt xs far i = far.getD i false:=by
    unfold farAt
    rcases c1 with c|c
    ·rw [decide_eq_false c];simp
    ·rw [c];rfl
   rw [← same he]
   exact grow_l1 hO far hf d k (i + 1) grew (by omega) (by omega) (gsame he)
  ·rw [if_neg c1]
   have h3:(itemAt xs i).f0 = 3:=by
    by_cases e:(itemAt xs i).f0 = 3
    ·exact e
    ·exact absurd (Or.inl e) c1
   have hfi:far.getD i false = false:=by
    cases e:far.getD i false
    ·rfl
    ·exact absurd (Or.inr e) c1
   obtain ⟨b1,b2,b3⟩:=hO.ref i hi (Or.inl h3)
   have hw:=way_range hO far i hi (Or.inl h3)
   rw [if_neg (by rw [labsM_len];omega),lab_way hO far i hi (Or.inl h3),w64 (by omega)]
   by_cases c2:wayM xs far i < -4096∨wayM xs far i > 4094
   ·rw [if_pos c2]
    have he:farAt xs far i = true:=by
     unfold farAt
     rw [hfi,decide_eq_true h3]
     simpa using c2
    have hset:(stepP xs far i).set i true = stepP xs far (i + 1):=by
     refine ext_getD false (by rw [List.length_set,stepP_len,stepP_len]) (fun j hj=>?_)
     rw [List.length_set,stepP_len] at hj
     rw [getD_set false _ _ _ _ (by rw [stepP_len];exact hi),stepP_get _ _ _ _ hj,stepP_get _ _ _ _ hj]
     by_cases e:j = i
     ·subst e
      rw [if_pos rfl,if_pos (by omega),he]
     ·rw [if_neg e]
      by_cases c:j < i
      ·rw [if_pos c,if_pos (by omega)]
      ·rw [if_neg c,if_neg (by omega)]
    rw [hset]
    refine grow_l1 hO far hf d k (i + 1) true (by omega) (by omega) ?_
    exact ⟨fun _=>⟨i,by omega,by rw [he,hfi];decide⟩,fun _=>rfl⟩
   ·rw [if_neg c2]
    have he:farAt xs far i = far.getD i false:=by
     unfold farAt
     rw [hfi,decide_eq_true h3]
     simpa using c2
    rw [← same he]
    exact grow_l1 hO far hf d k (i + 1) grew (by omega) (by omega) (gsame he)
end Go.Proofs.Ytecbponmpinnoaa.Pure
end
section
namespace Go.Proofs.Ytecbponmpinnoaa.Pure
open Go Go.RowKit Go.Proofs.Ytecbponmpinnoaa.P Go.Proofs.Ytecbponmpinnoaa.InstM Go.Proofs.YtecbponmpinnoaaW.PrintWords Go.Proofs.YtecbponmpinnoaaW.PrintLast Go.Proofs.YtecbponmpinnoaaW.PrintMore
set_option linter.unusedVariables false
def cnt (f:Nat→Bool):Nat→Nat
 | 0=>0
 | n + 1=>cnt f n + if f n = true then 1 else 0
theorem cnt_le (f:Nat→Bool):∀ n,cnt f n≤n
 | 0=>Nat.le_refl _
 | n + 1=>by
  have:=cnt_le f n
  simp only [cnt]
  split <;> omega
theorem cnt_mono (f g:Nat→Bool) (h:∀ j,f j = true→g j = true):∀ n,cnt f n≤cnt g n
 | 0=>Nat.le_refl _
 | n + 1=>by
  have:=cnt_mono f g h n
  simp only [cnt]
  by_cases c:f n = true
  ·rw [if_pos c,if_pos (h n c)];omega
  ·rw [if_neg c];omega
theorem cnt_lt (f g:Nat→Bool) (h:∀ j,f j = true→g j = true) (j:Nat) (h1:f j = false) (h2:g j = true):∀ n,j < n→cnt f n < cnt g n
 | 0,hj=>by omega
 | n + 1,hj=>by
  simp only [cnt]
  by_cases e:j = n
  ·subst e
   have:=cnt_mono f g h j
   rw [h1,h2]
   simp
   omega
  ·have:=cnt_lt f g h j h1 h2 n (by omega)
   by_cases c:f n = true
   ·rw [if_pos c,if_pos (h n c)];omega
   ·rw [if_neg c];omega
def iterM (xs:List S41):Nat→List Bool→List Bool
 | 0,f=>f
 | t + 1,f=>iterM xs t (stepM xs f)
theorem iterM_add (xs:List S41):∀ (a b:Nat) (f:List Bool),iterM xs (a + b) f = iterM xs b (iterM xs a f)
 | 0,b,f=>by simp [iterM]
 | a + 1,b,f=>by
  rw [show a + 1 + b = (a + b) + 1 from by omega]
  exact iterM_add xs a b (stepM xs f)
theorem iterM_fix (xs:List S41) (f:List Bool) (h:stepM xs f = f):∀ b,iterM xs b f = f
 | 0=>rfl
 | b + 1=>by rw [iterM,h];exact iterM_fix xs f h b
theorem iterM_len (xs:List S41):∀ (t:Nat) (f:List Bool),f.length = xs.length→(iterM xs t f).length = xs.length
 | 0,f,h=>h
 | t + 1,f,h=>iterM_len xs t _ (stepM_len xs f)
theorem grow_f {xs:List S41} {M:Nat} (hO:Okay xs M):∀ (d k:Nat) (far:List Bool) (at_ lab0:List Int),far.length = xs.length→at_.length = xs.length + 1→lab0.length = M→(∀ l:Nat,l < M→standsM xs l = -1→lab0.getD l 0 = -1) →
  xs.length - cnt (fun j=>far.getD j false) xs.length≤d→d + xs.length + 5 < k →
  ∃ t ff,t≤d∧ff = iterM xs t far∧stepM xs ff = ff∧asm_grow.l0 k xs far at_ lab0 = some (ff,addrs xs ff,labsM xs ff M):=by
 intro d
 induction d with
 | zero =>
  intro k far at_ lab0 hf hat hl h0 hd hk
  obtain ⟨k,rfl⟩:∃ k',k = k' + 1:=⟨k - 1,by omega⟩
  obtain ⟨g,hg1,hg2⟩:=grow_l1 hO far hf xs.length k 0 false (by omega) (by omega) (by simp)
  rw [stepP_zero xs far hf] at hg1
  have hng:g = false:=by
   cases e:g
   ·rfl
   ·obtain ⟨j,hj,hne⟩:=hg2.mp e
    have h1:far.getD j false = false:=by
     cases e2:far.getD j false
     ·rfl
     ·exfalso;apply hne;unfold farAt;rw [e2];rfl
    have:=cnt_lt (fun j=>far.getD j false) (fun _=>true) (fun _ _=>rfl) j h1 rfl xs.length hj
    have h3:=cnt_le (fun _=>true) xs.length
    omega
  have hfix:stepM xs far = far:=by
   refine ext_getD false (by rw [stepM_len,hf]) (fun j hj=>?_)
   rw [stepM_len] at hj
   rw [stepM_get _ _ _ hj]
   cases e:decide (farAt xs far j = far.getD j false)
   ·exfalso
    have:g = true:=hg2.mpr ⟨j,hj,of_decide_eq_false e⟩
    rw [hng] at this
    cases this
   ·exact of_decide_eq_true e
  refine ⟨0,far,Nat.le_refl _,rfl,hfix,?_⟩
  rw [asm_grow.l0,place_f hO far lab0 at_ hl hat h0 k (by omega),Option.bind_some,hg1,Option.bind_some,hng,if_neg (by simp),hfix]
 | succ d ih =>
  intro k far at_ lab0 hf hat hl h0 hd hk
  obtain ⟨k,rfl⟩:∃ k',k = k' + 1:=⟨k - 1,by omega⟩
  obtain ⟨g,hg1,hg2⟩:=grow_l1 hO far hf xs.length k 0 false (by omega) (by omega) (by simp)
  rw [stepP_zero xs far hf] at hg1
  cases e:g
  ·have hfix:stepM xs far = far:=by
    refine ext_getD false (by rw [stepM_len,hf]) (fun j hj=>?_)
    rw [stepM_len] at hj
    rw [stepM_get _ _ _ hj]
    cases e2:decide (farAt xs far j = far.getD j false)
    ·exfalso
     have:g = true:=hg2.mpr ⟨j,hj,of_decide_eq_false e2⟩
     rw [e] at this
     cases this
    ·exact of_decide_eq_true e2
   refine ⟨0,far,Nat.zero_le _,rfl,hfix,?_⟩
   rw [asm_grow.l0,place_f hO far lab0 at_ hl hat h0 k (by omega),Option.bind_some,hg1,Option.bind_some,e,if_neg (by simp),hfix]
  ·obtain ⟨j,hj,hne⟩:=hg2.mp e
   have h1:far.getD j false = false:=by
    cases e2:far.getD j false
    ·rfl
    ·exfalso;apply hne;unfold farAt;rw [e2];rfl
   have h2:farAt xs far j = true:=by
    cases e2:farAt xs far j
    ·exfalso;apply hne;rw [e2,h1]
    ·rfl
   have hmono:∀ i,(fun j=>far.getD j false) i = true→(fun j=>(stepM xs far).getD j false) i = true:=by
    intro i hi
    by_cases c:i < xs.length
    ·show (stepM xs far).getD i false = true
     rw [stepM_get _ _ _ c]
     unfold farAt
     rw [show far.getD i false = true from hi]
     rfl
    ·exfalso
     have:far.getD i false = false:=by
      rw [List.getD_eq_getElem?_getD,List.getElem?_eq_none (by omega)]
      rfl
     rw [show far.getD i false = true from hi] at this
     cases this
   have hlt:=cnt_lt (fun j=>far.getD j false) (fun j=>(stepM xs far).getD j false) hmono j h1 (by show (stepM xs far).getD j false = true;rw [stepM_get _ _ _ hj];exact h2) xs.length hj
   have hle:=cnt_le (fun j=>(stepM xs far).getD j false) xs.length
   obtain ⟨t,ff,ht,hff,hfx,hrun⟩:=ih k (stepM xs far) (addrs xs far) (labsM xs far M) (stepM_len _ _) (addrs_len _ _) (labsM_len _ _ _) (fun l hl2 hs=>by
    rw [labsM_get _ _ _ _ hl2,if_neg (by omega)]) (by omega) (by omega)
   refine ⟨t + 1,ff,by omega,hff,hfx,?_⟩
   rw [asm_grow.l0,place_f hO far lab0 at_ hl hat h0 k (by omega),Option.bind_some,hg1,Option.bind_some,e,if_pos rfl]
   exact hrun
def nextP (xs:List S41) (far:List Bool) (i:Nat):List Bool:=(List.range xs.length).map fun j=>if j < i then farAt xs far j else false
theorem nextP_len (xs:List S41) (far:List Bool) (i:Nat):(nextP xs far i).length = xs.length:=by simp [nextP]
theorem nextP_get (xs:List S41) (far:List Bool) (i j:Nat) (hj:j < xs.length):(nextP xs far i).getD j false = if j < i then farAt xs far j else false :=
 getD_map_range false _ _ j hj
theorem nextP_set (xs:List S41) (far:List Bool) (i:Nat) (hi:i < xs.length):(nextP xs far i).set i (farAt xs far i) = nextP xs far (i + 1):=by
 refine ext_getD false (by rw [List.length_set,nextP_len,nextP_len]) (fun j hj=>?_)
 rw [List.length_set,nextP_len] at hj
 rw [getD_set false _ _ _ _ (by rw [nextP_len];exact hi),nextP_get _ _ _ _ hj,nextP_get _ _ _ _ hj]
 by_cases e:j = i
 ·subst e
  rw [if_pos rfl,if_pos (by omega)]
 ·rw [if_neg e]
  by_cases c:j < i
  ·rw [if_pos c,if_pos (by omega)]
  ·rw [if_neg c,if_neg (by omega)]
theorem nextP_end (xs:List S41) (far:List Bool):nextP xs far xs.length = stepM xs far:=by
 refine ext_getD false (by rw [nextP_len,stepM_len]) (fun j hj=>?_)
 rw [nextP_len] at hj
 rw [nextP_get _ _ _ _ hj,stepM_get _ _ _ hj,if_pos hj]
theorem nextP_zero (xs:List S41) (far:List Bool):nextP xs far 0 = List.replicate xs.length false:=by
 refine ext_getD false (by rw [nextP_len,List.length_replicate]) (fun j hj=>?_)
 rw [nextP_len] at hj
 rw [nextP_get _ _ _ _ hj,if_neg (by omega),List.getD_eq_getElem?_getD,List.getElem?_replicate]
 split <;> rfl
theorem far_l1 {xs:List S41} {M:Nat} (hO:Okay xs M) (far:List Bool) (hf:far.length = xs.length) (rnd:Int) (hr:0≤rnd∧rnd≤1000000) (z:Nat) (res:Option (List Bool)) (hz:xs.length < z)
  (hres:rushlightref05_Far.l0 z (xs.map refI) (stepM xs far) (rnd + 1) = res):∀ (d i:Nat),i + d = xs.length →
  rushlightref05_Far.l1 (z + d + 1) (xs.map refI) far rnd (addrs xs far) (nextP xs far i) (i:Int) = res
 | 0,i,h=>by
  have e:i = xs.length:=by omega
  subst e
  rw [rushlightref05_Far.l1,if_neg zmb18_0,w64 (by omega),nextP_end]
  exact hres
 | d + 1,i,h=>by
  have hi:i < xs.length:=by omega
  have hsm:=hO.small
  rw [rushlightref05_Far.l1,if_pos zmb18_0,if_pos (by omega),if_pos (by omega),if_pos (by rw [nextP_len];omega),Option.bind_some,rd_item48 xs i hi,Int.toNat_natCast,w64 (by omega),show ((i:Int) + 1) = ((i + 1:Nat):Int) from by omega]
  have e1:rdOf false far (i:Int) = far.getD i false:=rfl
  rw [e1]
  have ih:=far_l1 hO far hf rnd hr z res hz hres d (i + 1) (by omega)
  have fin:∀ b,b = farAt xs far i→rushlightref05_Far.l1 (z + d + 1) (xs.map refI) far rnd (addrs xs far) ((nextP xs far i).set i b) ((i + 1:Nat):Int) = res:=by
   intro b hb
   rw [hb,nextP_set xs far i hi]
   exact ih
  by_cases h3:(itemAt xs i).f0 = 3
  ·rw [if_pos (show (refI (itemAt xs i)).f0 = 3 from h3),show (refI (itemAt xs i)).f2 = (itemAt xs i).f2 from rfl,stands_f xs hsm _ _ (by omega),Option.bind_some]
   obtain ⟨s,h4,_,h5⟩:=stand_lt (hO.ref i hi (Or.inl h3)).2.2
   have hw:=way_range hO far i hi (Or.inl h3)
   have hway:rd (addrs xs far) (standsM xs (itemAt xs i).f2) - rd (addrs xs far) (i:Int) = wayM xs far i:=by
    unfold wayM
    rw [h5]
    have ea:rd (addrs xs far) (s:Int) = addr xs far s:=addrs_get xs far s (by omega)
    have eb:rd (addrs xs far) (i:Int) = addr xs far i:=addrs_get xs far i (by omega)
    rw [ea,eb]
    rfl
   rw [if_pos (by omega),if_pos zmb18_1,if_pos zmb18_1,hway,w64 (by omega)]
   by_cases hfi:far.getD i false = true
   ·rw [if_pos hfi,List.set_set]
    refine fin _ ?_
    unfold farAt
    rw [hfi];rfl
   ·rw [if_neg hfi]
    have hff:far.getD i false = false:=by simpa using hfi
    by_cases c:wayM xs far i < -4096
    ·rw [if_pos c,List.set_set]
     refine fin _ ?_
     unfold farAt
     rw [hff,decide_eq_true h3,decide_eq_true c];rfl
    ·rw [if_neg c,List.set_set]
     refine fin _ ?_
     unfold farAt
     rw [hff,decide_eq_true h3,decide_eq_false c];simp
  ·rw [if_neg (show ¬ (refI (itemAt xs i)).f0 = 3 from h3)]
   refine fin _ ?_
   unfold farAt
   rw [decide_eq_false h3];simp
theorem far_l0 {xs:List S41} {M:Nat} (hO:Okay xs M) (hw:wf64 xs):∀ (r k:Nat) (far:List Bool) (rnd:Nat),far.length = xs.length→rnd + r = xs.length + 1→r * (xs.length + 2) + xs.length + 60 < k →
  rushlightref05_Far.l0 k (xs.map refI) far (rnd:Int) = some (iterM xs r far)
 | 0,k,far,rnd,hf,h,hk=>by
  obtain ⟨k,rfl⟩:∃ k',k = k' + 1:=⟨k - 1,by omega⟩
  rw [rushlightref05_Far.l0,if_neg zmb18_0]
  rfl
 | r + 1,k,far,rnd,hf,h,hk=>by
  have hsm:=hO.small
  rw [Nat.succ_mul] at hk
  obtain ⟨k,rfl⟩:∃ k',k = k' + xs.length + 2:=⟨k - xs.length - 2,by omega⟩
  rw [rushlightref05_Far.l0,if_pos zmb18_0,places_f xs hsm hw far hf _ (by omega),Option.bind_some,if_pos (by omega),if_pos zmb18_0,List.length_map,Int.toNat_natCast,← nextP_zero xs far]
  have ih:=far_l0 hO hw r k (stepM xs far) (rnd + 1) (stepM_len _ _) (by omega) (by omega)
  exact far_l1 hO far hf (rnd:Int) (by omega) k _ (by omega) (by
   rw [show ((rnd:Int) + 1) = ((rnd + 1:Nat):Int) from by omega]
   exact ih) xs.length 0 (by omega)
theorem far_f {xs:List S41} {M:Nat} (hO:Okay xs M) (hw:wf64 xs) (k:Nat) (hk:(xs.length + 1) * (xs.length + 2) + xs.length + 60 < k) :
  rushlightref05_Far.f k (xs.map refI) = some (iterM xs (xs.length + 1) (List.replicate xs.length false)):=by
 have hsm:=hO.small
 unfold rushlightref05_Far.f
 rw [if_pos (by omega),if_pos zmb18_0,List.length_map,Int.toNat_natCast]
 exact far_l0 hO hw (xs.length + 1) k _ 0 (by simp) (by omega) hk
end Go.Proofs.Ytecbponmpinnoaa.Pure
end
section
namespace Go.Proofs.Ytecbponmpinnoaa.Pure
open Go Go.RowKit Go.Proofs.Ytecbponmpinnoaa.P Go.Proofs.Ytecbponmpinnoaa.InstM Go.Proofs.YtecbponmpinnoaaW.PrintWords Go.Proofs.YtecbponmpinnoaaW.PrintLast Go.Proofs.YtecbponmpinnoaaW.PrintMore
set_option linter.unusedVariables false
def rightX (x:S41):Bool:=rightI x.f0 x.f1.f0 x.f1.f1 x.f1.f2 x.f1.f3 x.f1.f4 x.f2
def AllR (xs:List S41):Prop:=∀ i,i < xs.length→rightX (itemAt xs i) = true
theorem rightX_lab {x:S41} (h:rightX x = true) (hk:x.f0 = 2∨x.f0 = 3∨x.f0 = 4):0≤x.f2∧x.f2 < 4096:=by
 unfold rightX rightI at h
 rw [if_neg (by omega),if_neg (by omega)] at h
 by_cases c:x.f2 < 0∨x.f2 > 4095
 ·rw [if_pos c] at h;cases h
 ·omega
theorem asm_rightX (k:Nat) (x:S41):asm_Right.f (k + 6) x.f0 x.f1.f0 x.f1.f1 x.f1.f2 x.f1.f3 x.f1.f4 x.f2 = some (rightX x):=asm_rightI k _ _ _ _ _ _ _
theorem ref_rightX (k:Nat) (x:S41):rushlightref05_Right.f (k + 6) (refI x).f0 (refI x).f1.f0 (refI x).f1.f1 (refI x).f1.f2 (refI x).f1.f3 (refI x).f1.f4 (refI x).f2 = some (rightX x):=ref_rightI k _ _ _ _ _ _ _
theorem asm_l0 (xs:List S41):∀ (d k i:Nat),i + d = xs.length→d + 10 < k→∃ b,asm_Assemble.l0 k xs i = some b∧(b = true↔∀ j,i≤j→j < xs.length→rightX (itemAt xs j) = true)
 | 0,k,i,h,hk=>by
  obtain ⟨k,rfl⟩:∃ k',k = k' + 1:=⟨k - 1,by omega⟩
  rw [asm_Assemble.l0,if_neg (by omega)]
  exact ⟨true,rfl,⟨fun _ j h1 h2=>by omega,fun _=>rfl⟩⟩
 | d + 1,k,i,h,hk=>by
  obtain ⟨k,rfl⟩:∃ k',k = k' + 7:=⟨k - 7,by omega⟩
  rw [asm_Assemble.l0,if_pos (by omega),rd_item,asm_rightX k,Option.bind_some]
  by_cases hr:rightX (itemAt xs i) = true
  ·rw [if_pos hr]
   obtain ⟨b,h1,h2⟩:=asm_l0 xs d (k + 6) (i + 1) (by omega) (by omega)
   refine ⟨b,h1,h2.trans ⟨fun H j hj hj2=>?_,fun H j hj hj2=>H j (by omega) hj2⟩⟩
   by_cases e:j = i
   ·rw [e];exact hr
   ·exact H j (by omega) hj2
  ·rw [if_neg hr]
   exact ⟨false,rfl,⟨fun h=>(by cases h),fun H=>absurd (H i (Nat.le_refl _) (by omega)) hr⟩⟩
def DupFree (xs:List S41) (i:Nat):Prop:=∀ l a b,a < i→b < i→labAt xs l a→labAt xs l b→a = b
def maxL (xs:List S41):Nat→Int
 | 0=>-1
 | i + 1=>if (itemAt xs i).f0 = 2∧(itemAt xs i).f2 > maxL xs i then (itemAt xs i).f2 else maxL xs i
theorem maxL_ge (xs:List S41):∀ i,-1≤maxL xs i
 | 0=>by simp [maxL]
 | i + 1=>by
  have:=maxL_ge xs i
  simp only [maxL]
  split <;> omega
theorem maxL_up (xs:List S41):∀ i j,j < i→(itemAt xs j).f0 = 2→(itemAt xs j).f2≤maxL xs i
 | 0,j,hj,_=>by omega
 | i + 1,j,hj,h2=>by
  simp only [maxL]
  by_cases e:j = i
  ·subst e
   split
   ·omega
   ·rename_i h
    have:¬ (itemAt xs j).f2 > maxL xs j:=fun hh=>h ⟨h2,hh⟩
    omega
  ·have:=maxL_up xs i j (by omega) h2
   split <;> omega
theorem maxL_lt (xs:List S41) (hR:AllR xs):∀ i,i≤xs.length→maxL xs i < 4096
 | 0,_=>by simp [maxL]
 | i + 1,h=>by
  have:=maxL_lt xs hR i (by omega)
  simp only [maxL]
  split
  ·rename_i h2
   exact (rightX_lab (hR i (by omega)) (Or.inl h2.1)).2
  ·exact this
theorem labels_l0 (xs:List S41) (hR:AllR xs):∀ (d k i:Nat) (s:Int→Bool),i + d = xs.length→d < k→DupFree xs i→(∀ y,s y = true↔∃ j,j < i∧labAt xs y j) →
  (asm_labels.l0 k xs s (maxL xs i) i = some none∧¬ DupFree xs xs.length)∨∃ s',asm_labels.l0 k xs s (maxL xs i) i = some (some (s',maxL xs xs.length))∧DupFree xs xs.length∧(∀ y,s' y = true↔∃ j,j < xs.length∧labAt xs y j)
 | 0,k,i,s,h,hk,hd,hs=>by
  obtain ⟨k,rfl⟩:∃ k',k = k' + 1:=⟨k - 1,by omega⟩
  have e:i = xs.length:=by omega
  subst e
  rw [asm_labels.l0,if_neg (by omega)]
  exact .inr ⟨s,rfl,hd,hs⟩
 | d + 1,k,i,s,h,hk,hd,hs=>by
  obtain ⟨k,rfl⟩:∃ k',k = k' + 1:=⟨k - 1,by omega⟩
  have hi:i < xs.length:=by omega
  rw [asm_labels.l0,if_pos hi,rd_item]
  by_cases h2:(itemAt xs i).f0 = 2
  ·have hb:=rightX_lab (hR i hi) (Or.inl h2)
   rw [if_pos h2,if_neg (by omega)]
   by_cases hss:s (itemAt xs i).f2 = true
   ·rw [if_pos hss]
    obtain ⟨j,hj,hl⟩:=(hs _).mp hss
    refine .inl ⟨rfl,fun H=>?_⟩
    have:=H _ j i (by omega) hi hl ⟨h2,rfl⟩
    omega
   ·rw [if_neg hss]
    have em:(if (itemAt xs i).f2 > maxL xs i then (itemAt xs i).f2 else maxL xs i) = maxL xs (i + 1):=by
     simp only [maxL]
     by_cases c:(itemAt xs i).f2 > maxL xs i
     ·rw [if_pos c,if_pos ⟨h2,c⟩]
     ·rw [if_neg c,if_neg (fun hh=>c hh.2)]
    rw [em]
    refine labels_l0 xs hR d k (i + 1) _ (by omega) (by omega) ?_ ?_
    ·intro l a b ha hb2 hla hlb
     by_cases ea:a = i
     ·by_cases eb:b = i
      ·omega
      ·exfalso
       apply hss
       refine (hs _).mpr ⟨b,by omega,?_⟩
       rw [ea] at hla
       rw [hla.2];exact hlb
     ·by_cases eb:b = i
      ·exfalso
       apply hss
       refine (hs _).mpr ⟨a,by omega,?_⟩
       rw [eb] at hlb
       rw [hlb.2];exact hla
      ·exact hd l a b (by omega) (by omega) hla hlb
    ·intro y
     simp only [Bool.or_eq_true,beq_iff_eq]
     constructor
     ·rintro (h|h)
      ·exact ⟨i,by omega,h2,h.symm⟩
      ·obtain ⟨j,hj,hl⟩:=(hs y).mp h
       exact ⟨j,by omega,hl⟩
     ·rintro ⟨j,hj,hl⟩
      by_cases e:j = i
      ·rw [e] at hl;exact .inl hl.2.symm
      ·exact .inr ((hs y).mpr ⟨j,by omega,hl⟩)
  ·rw [if_neg h2]
   have em:maxL xs i = maxL xs (i + 1):=by
    simp only [maxL]
    rw [if_neg (fun hh=>h2 hh.1)]
   rw [em]
   refine labels_l0 xs hR d k (i + 1) s (by omega) (by omega) ?_ ?_
   ·intro l a b ha hb2 hla hlb
    have ea:a≠i:=fun e=>h2 (e ▸ hla.1)
    have eb:b≠i:=fun e=>h2 (e ▸ hlb.1)
    exact hd l a b (by omega) (by omega) hla hlb
   ·intro y
    rw [hs y]
    constructor
    ·rintro ⟨j,hj,hl⟩;exact ⟨j,by omega,hl⟩
    ·rintro ⟨j,hj,hl⟩
     have ej:j≠i:=fun e=>h2 (e ▸ hl.1)
     exact ⟨j,by omega,hl⟩
def Miss (xs:List S41) (i:Nat):Prop:=∃ j,i≤j∧j < xs.length∧((itemAt xs j).f0 = 3∨(itemAt xs j).f0 = 4)∧standsM xs (itemAt xs j).f2 = -1
theorem stand_neg (xs:List S41) (l:Int):standsM xs l = -1↔¬ ∃ j,j < xs.length∧labAt xs l j:=by
 rcases stand_cases xs l with ⟨h1,h2⟩|⟨s,h1,h2,h3⟩
 ·exact ⟨fun _ ⟨j,hj,hl⟩=>h2 j hj hl,fun _=>h1⟩
 ·exact ⟨fun h=>by omega,fun h=>absurd ⟨s,h1,h2⟩ h⟩
theorem labels_l1 (xs:List S41) (hR:AllR xs) (s:Int→Bool) (hs:∀ y,s y = true↔∃ j,j < xs.length∧labAt xs y j):∀ (d k i:Nat),i + d = xs.length→d < k →
  (asm_labels.l1 k xs s i = some 4∧Miss xs i)∨(asm_labels.l1 k xs s i = some 0∧¬ Miss xs i)
 | 0,k,i,h,hk=>by
  obtain ⟨k,rfl⟩:∃ k',k = k' + 1:=⟨k - 1,by omega⟩
  rw [asm_labels.l1,if_neg (by omega)]
  exact .inr ⟨rfl,fun ⟨j,h1,h2,_⟩=>by omega⟩
 | d + 1,k,i,h,hk=>by
  obtain ⟨k,rfl⟩:∃ k',k = k' + 1:=⟨k - 1,by omega⟩
  have hi:i < xs.length:=by omega
  have next:¬ (((itemAt xs i).f0 = 3∨(itemAt xs i).f0 = 4)∧standsM xs (itemAt xs i).f2 = -1)→(asm_labels.l1 k xs s (i + 1) = some 4∧Miss xs i)∨(asm_labels.l1 k xs s (i + 1) = some 0∧¬ Miss xs i):=by
   intro hn
   rcases labels_l1 xs hR s hs d k (i + 1) (by omega) (by omega) with ⟨h1,j,h2,h3,h4⟩|⟨h1,h2⟩
   ·exact .inl ⟨h1,j,by omega,h3,h4⟩
   ·refine .inr ⟨h1,fun ⟨j,h3,h4,h5⟩=>?_⟩
    by_cases e:j = i
    ·subst e;exact hn h5
    ·exact h2 ⟨j,by omega,h4,h5⟩
  rw [asm_labels.l1,if_pos hi,rd_item]
  by_cases hk2:(itemAt xs i).f0 = 3∨(itemAt xs i).f0 = 4
  ·have hb:=rightX_lab (hR i hi) (Or.inr hk2)
   rw [if_pos hk2,if_neg (by omega)]
   by_cases hss:s (itemAt xs i).f2 = false
   ·rw [if_pos hss]
    refine .inl ⟨rfl,i,Nat.le_refl _,hi,hk2,(stand_neg xs _).mpr (fun hh=>?_)⟩
    have:=(hs _).mpr hh
    rw [hss] at this
    cases this
   ·rw [if_neg hss]
    refine next (fun hh=>?_)
    have h3:s (itemAt xs i).f2 = true:=by simpa using hss
    exact (stand_neg xs _).mp hh.2 ((hs _).mp h3)
  ·rw [if_neg hk2]
   exact next (fun hh=>hk2 hh.1)
def DupAt (xs:List S41) (a b:Nat):Prop:=∃ l,labAt xs l a∧labAt xs l b
theorem may_l3 (xs:List S41) (hn:xs.length < 1000000):∀ (d k i:Nat),i + d = xs.length→d + xs.length + 5 < k →
  (rushlightref05_May.l3 k (xs.map refI) (i:Int) = some 4∧Miss xs i)∨(rushlightref05_May.l3 k (xs.map refI) (i:Int) = some 0∧¬ Miss xs i)
 | 0,k,i,h,hk=>by
  obtain ⟨k,rfl⟩:∃ k',k = k' + 1:=⟨k - 1,by omega⟩
  rw [rushlightref05_May.l3,if_neg zmb18_0]
  exact .inr ⟨rfl,fun ⟨j,h1,h2,_⟩=>by omega⟩
 | d + 1,k,i,h,hk=>by
  obtain ⟨k,rfl⟩:∃ k',k = k' + 1:=⟨k - 1,by omega⟩
  have hi:i < xs.length:=by omega
  have next:¬ (((itemAt xs i).f0 = 3∨(itemAt xs i).f0 = 4)∧standsM xs (itemAt xs i).f2 = -1)→(rushlightref05_May.l3 k (xs.map refI) (wrap64 ((i:Int) + 1)) = some 4∧Miss xs i)∨(rushlightref05_May.l3 k (xs.map refI) (wrap64 ((i:Int) + 1)) = some 0∧¬ Miss xs i):=by
   intro hn2
   rw [w64 (by omega),show ((i:Int) + 1) = ((i + 1:Nat):Int) from by omega]
   rcases may_l3 xs hn d k (i + 1) (by omega) (by omega) with ⟨h1,j,h2,h3,h4⟩|⟨h1,h2⟩
   ·exact .inl ⟨h1,j,by omega,h3,h4⟩
   ·refine .inr ⟨h1,fun ⟨j,h3,h4,h5⟩=>?_⟩
    by_cases e:j = i
    ·subst e;exact hn2 h5
    ·exact h2 ⟨j,by omega,h4,h5⟩
  have look:((itemAt xs i).f0 = 3∨(itemAt xs i).f0 = 4)→((if standsM xs (itemAt xs i).f2 < 0 then some 4 else rushlightref05_May.l3 k (xs.map refI) (wrap64 ((i:Int) + 1))) = some 4∧Miss xs i)∨((if standsM xs (itemAt xs i).f2 < 0 then some 4 else rushlightref05_May.l3 k (xs.map refI) (wrap64 ((i:Int) + 1))) = some 0∧¬ Miss xs i):=by
   intro hk2
   rcases stand_cases xs (itemAt xs i).f2 with ⟨h1,_⟩|⟨s,_,_,h1⟩
   ·rw [if_pos (by omega)]
    exact .inl ⟨rfl,i,Nat.le_refl _,hi,hk2,h1⟩
   ·rw [if_neg (by omega)]
    exact next (fun hh=>by omega)
  rw [rushlightref05_May.l3,if_pos zmb18_0,if_pos (by omega),rd_item48 xs i hi]
  by_cases h3:(itemAt xs i).f0 = 3
  ·rw [if_pos (show (refI (itemAt xs i)).f0 = 3 from h3),show (refI (itemAt xs i)).f2 = (itemAt xs i).f2 from rfl,stands_f xs hn _ _ (by omega),Option.bind_some]
   exact look (Or.inl h3)
  ·rw [if_neg (show ¬ (refI (itemAt xs i)).f0 = 3 from h3)]
   by_cases h4:(itemAt xs i).f0 = 4
   ·rw [if_pos (show (refI (itemAt xs i)).f0 = 4 from h4),show (refI (itemAt xs i)).f2 = (itemAt xs i).f2 from rfl,stands_f xs hn _ _ (by omega),Option.bind_some]
    exact look (Or.inr h4)
   ·rw [if_neg (show ¬ (refI (itemAt xs i)).f0 = 4 from h4)]
    exact next (fun hh=>hh.1.elim h3 h4)
theorem may_l2 (xs:List S41) (hn:xs.length < 1000000) (i:Nat) (hi:i < xs.length) (z:Nat) (res:Option Int) (hres:rushlightref05_May.l1 z (xs.map refI) ((i:Int) + 1) = res):∀ (d b:Nat),b + d = i →
  (rushlightref05_May.l2 (z + d + 1) (xs.map refI) (i:Int) (b:Int) = some 6∧∃ c,b≤c∧c < i∧DupAt xs i c)∨(rushlightref05_May.l2 (z + d + 1) (xs.map refI) (i:Int) (b:Int) = res∧¬ ∃ c,b≤c∧c < i∧DupAt xs i c)
 | 0,b,h=>by
  rw [rushlightref05_May.l2,if_neg (by omega),w64 (by omega)]
  exact .inr ⟨hres,fun ⟨c,h1,h2,_⟩=>by omega⟩
 | d + 1,b,h=>by
  have next:¬ DupAt xs i b→(rushlightref05_May.l2 (z + d + 1) (xs.map refI) (i:Int) (wrap64 ((b:Int) + 1)) = some 6∧∃ c,b≤c∧c < i∧DupAt xs i c)∨(rushlightref05_May.l2 (z + d + 1) (xs.map refI) (i:Int) (wrap64 ((b:Int) + 1)) = res∧¬ ∃ c,b≤c∧c < i∧DupAt xs i c):=by
   intro hd
   rw [w64 (by omega),show ((b:Int) + 1) = ((b + 1:Nat):Int) from by omega]
   rcases may_l2 xs hn i hi z res hres d (b + 1) (by omega) with ⟨h1,c,h2,h3,h4⟩|⟨h1,h2⟩
   ·exact .inl ⟨h1,c,by omega,h3,h4⟩
   ·refine .inr ⟨h1,fun ⟨c,h3,h4,h5⟩=>?_⟩
    by_cases e:c = b
    ·subst e;exact hd h5
    ·exact h2 ⟨c,by omega,h4,h5⟩
  rw [rushlightref05_May.l2,if_pos (by omega),if_pos (by omega),if_pos zmb18_0,rd_item48 xs i hi]
  by_cases h2:(itemAt xs i).f0 = 2
  ·rw [if_pos (show (refI (itemAt xs i)).f0 = 2 from h2),if_pos (by omega),if_pos zmb18_0,rd_item48 xs b (by omega)]
   by_cases h3:(itemAt xs b).f0 = 2
   ·rw [if_pos (show (refI (itemAt xs b)).f0 = 2 from h3)]
    by_cases h4:(itemAt xs i).f2 = (itemAt xs b).f2
    ·rw [if_pos (show (refI (itemAt xs i)).f2 = (refI (itemAt xs b)).f2 from h4)]
     exact .inl ⟨rfl,b,Nat.le_refl _,by omega,_,⟨h2,rfl⟩,⟨h3,h4.symm⟩⟩
    ·rw [if_neg (show ¬ (refI (itemAt xs i)).f2 = (refI (itemAt xs b)).f2 from h4)]
     exact next (fun ⟨l,ha,hb⟩=>h4 (ha.2.trans hb.2.symm))
   ·rw [if_neg (show ¬ (refI (itemAt xs b)).f0 = 2 from h3)]
    exact next (fun ⟨l,ha,hb⟩=>h3 hb.1)
  ·rw [if_neg (show ¬ (refI (itemAt xs i)).f0 = 2 from h2)]
   exact next (fun ⟨l,ha,hb⟩=>h2 ha.1)
theorem may_l1 (xs:List S41) (hn:xs.length < 1000000):∀ (d k i:Nat),i + d = xs.length→d * (xs.length + 2) + 2 * xs.length + 20 < k →
  (rushlightref05_May.l1 k (xs.map refI) (i:Int) = some 6∧∃ a c,i≤a∧a < xs.length∧c < a∧DupAt xs a c) ∨
  ((rushlightref05_May.l1 k (xs.map refI) (i:Int) = some 4∧Miss xs 0)∨(rushlightref05_May.l1 k (xs.map refI) (i:Int) = some 0∧¬ Miss xs 0))∧¬ ∃ a c,i≤a∧a < xs.length∧c < a∧DupAt xs a c
 | 0,k,i,h,hk=>by
  obtain ⟨k,rfl⟩:∃ k',k = k' + 1:=⟨k - 1,by omega⟩
  rw [rushlightref05_May.l1,if_neg zmb18_0]
  exact .inr ⟨may_l3 xs hn xs.length k 0 (by omega) (by omega),fun ⟨a,c,h1,h2,_⟩=>by omega⟩
 | d + 1,k,i,h,hk=>by
  rw [Nat.succ_mul] at hk
  obtain ⟨k,rfl⟩:∃ k',k = k' + i + 2:=⟨k - i - 2,by omega⟩
  have hi:i < xs.length:=by omega
  rw [rushlightref05_May.l1,if_pos zmb18_0]
  have ih:=may_l1 xs hn d k (i + 1) (by omega) (by omega)
  rw [show (((i + 1:Nat)):Int) = (i:Int) + 1 from by omega] at ih
  rcases may_l2 xs hn i hi k _ rfl i 0 (by omega) with ⟨h1,c,h2,h3,h4⟩|⟨h1,h2⟩
  ·exact .inl ⟨h1,i,c,Nat.le_refl _,hi,h3,h4⟩
  ·have h1':rushlightref05_May.l2 (k + i + 1) (xs.map refI) (i:Int) 0 = rushlightref05_May.l1 k (xs.map refI) ((i:Int) + 1):=h1
   rw [h1']
   have stay:(¬ ∃ a c,i + 1≤a∧a < xs.length∧c < a∧DupAt xs a c)→¬ ∃ a c,i≤a∧a < xs.length∧c < a∧DupAt xs a c:=by
    rintro H ⟨a,c,h3,h4,h5,h6⟩
    by_cases e:a = i
    ·subst e;exact h2 ⟨c,Nat.zero_le _,h5,h6⟩
    ·exact H ⟨a,c,by omega,h4,h5,h6⟩
   rcases ih with ⟨h3,a,c,h4,h5⟩|⟨h3,h4⟩
   ·exact .inl ⟨h3,a,c,by omega,h5⟩
   ·exact .inr ⟨h3,stay h4⟩
theorem may_l0 (xs:List S41) (hn:xs.length < 1000000):∀ (d z i:Nat),i + d = xs.length→10 < z →
  (rushlightref05_May.l0 (z + d + 1) (xs.map refI) (i:Int) = some 1∧¬ ∀ j,i≤j→j < xs.length→rightX (itemAt xs j) = true)∨(rushlightref05_May.l0 (z + d + 1) (xs.map refI) (i:Int) = rushlightref05_May.l1 z (xs.map refI) 0∧∀ j,i≤j→j < xs.length→rightX (itemAt xs j) = true)
 | 0,z,i,h,hz=>by
  rw [rushlightref05_May.l0,if_neg zmb18_0]
  exact .inr ⟨rfl,fun j h1 h2=>by omega⟩
 | d + 1,z,i,h,hz=>by
  have hi:i < xs.length:=by omega
  obtain ⟨z2,rfl⟩:∃ z',z = z' + 6:=⟨z - 6,by omega⟩
  rw [rushlightref05_May.l0,if_pos zmb18_0,if_pos (by omega),rd_item48 xs i hi,show z2 + 6 + (d + 1) = (z2 + d + 1) + 6 from by omega,ref_rightX,Option.bind_some]
  by_cases hr:rightX (itemAt xs i) = true
  ·rw [if_pos hr,w64 (by omega),show ((i:Int) + 1) = ((i + 1:Nat):Int) from by omega,show z2 + d + 1 + 6 = (z2 + 6) + d + 1 from by omega]
   rcases may_l0 xs hn d (z2 + 6) (i + 1) (by omega) hz with ⟨h1,h2⟩|⟨h1,h2⟩
   ·exact .inl ⟨h1,fun H=>h2 (fun j hj hj2=>H j (by omega) hj2)⟩
   ·refine .inr ⟨h1,fun j hj hj2=>?_⟩
    by_cases e:j = i
    ·rw [e];exact hr
    ·exact h2 j (by omega) hj2
  ·rw [if_neg hr]
   exact .inl ⟨rfl,fun H=>hr (H i (Nat.le_refl _) hi)⟩
end Go.Proofs.Ytecbponmpinnoaa.Pure
end
section
namespace Go.Proofs.Ytecbponmpinnoaa.Pure
open Go Go.RowKit Go.Proofs.Ytecbponmpinnoaa.P Go.Proofs.Ytecbponmpinnoaa.InstM Go.Proofs.YtecbponmpinnoaaW.PrintWords Go.Proofs.YtecbponmpinnoaaW.PrintLast Go.Proofs.YtecbponmpinnoaaW.PrintMore
set_option linter.unusedVariables false
def jumpB (z:Int):Bool:=decide (-1048576≤z) && decide (z≤1048574)
def instsM (xs:List S41) (ff:List Bool) (i:Nat):List S39 :=
 if (itemAt xs i).f0 = 1 then [(itemAt xs i).f1]
 else if (itemAt xs i).f0 = 5 then constsM (itemAt xs i).f1.f1 ((itemAt xs i).f1.f4 % 4294967296)
 else if (itemAt xs i).f0 = 2 then []
 else if ff.getD i false = true then [⟨contM (itemAt xs i).f1.f0,(itemAt xs i).f1.f1,(itemAt xs i).f1.f2,(itemAt xs i).f1.f3,8⟩,⟨3,0,0,0,wayM xs ff i - 4⟩]
 else [⟨(itemAt xs i).f1.f0,(itemAt xs i).f1.f1,(itemAt xs i).f1.f2,(itemAt xs i).f1.f3,wayM xs ff i⟩]
def okM (xs:List S41) (ff:List Bool) (i:Nat):Bool :=
 if (itemAt xs i).f0 = 1∨(itemAt xs i).f0 = 5∨(itemAt xs i).f0 = 2 then true
 else if ff.getD i false = true then jumpB (wayM xs ff i - 4)
 else if (itemAt xs i).f0 = 4 then jumpB (wayM xs ff i) else true
structure Ended (xs:List S41) (ff:List Bool):Prop where
 len:ff.length = xs.length
 fix:stepM xs ff = ff
 br:∀ i,ff.getD i false = true→(itemAt xs i).f0 = 3
theorem rightX_kind {x:S41} (h:rightX x = true):x.f0 = 1∨x.f0 = 2∨x.f0 = 3∨x.f0 = 4∨x.f0 = 5:=by
 unfold rightX rightI at h
 by_cases h1:x.f0 = 1
 ·exact .inl h1
 by_cases h5:x.f0 = 5
 ·exact .inr (.inr (.inr (.inr h5)))
 rw [if_neg h1,if_neg h5] at h
 by_cases hl:x.f2 < 0∨x.f2 > 4095
 ·rw [if_pos hl] at h;cases h
 rw [if_neg hl] at h
 by_cases h2:x.f0 = 2
 ·exact .inr (.inl h2)
 by_cases h3:x.f0 = 3
 ·exact .inr (.inr (.inl h3))
 rw [if_neg h2,if_neg h3] at h
 simp only [Bool.and_eq_true,decide_eq_true_eq] at h
 exact .inr (.inr (.inr (.inl h.1.1.1)))
theorem asm_insts_f {xs:List S41} {M:Nat} (hO:Okay xs M) (hR:AllR xs) {ff:List Bool} (hF:Ended xs ff) (i:Nat) (hi:i < xs.length) (k:Nat) :
  asm_insts.f (k + 1) xs ff (addrs xs ff) (labsM xs ff M) i = some (instsM xs ff i,okM xs ff i):=by
 unfold asm_insts.f instsM okM
 rw [rd_item]
 by_cases h1:(itemAt xs i).f0 = 1
 ·rw [if_pos h1,if_pos h1,if_pos (Or.inl h1)]
 rw [if_neg h1,if_neg h1]
 by_cases h5:(itemAt xs i).f0 = 5
 ·rw [if_pos h5,if_pos h5,if_pos (Or.inr (Or.inl h5)),consts_f _ _ (by omega) (by omega),Option.bind_some]
 rw [if_neg h5,if_neg h5]
 by_cases h2:(itemAt xs i).f0 = 2
 ·rw [if_pos h2,if_pos h2,if_pos (Or.inr (Or.inr h2))]
 rw [if_neg h2,if_neg h2,if_neg (show ¬ ((itemAt xs i).f0 = 1∨(itemAt xs i).f0 = 5∨(itemAt xs i).f0 = 2) by omega)]
 have hk:(itemAt xs i).f0 = 3∨(itemAt xs i).f0 = 4:=by
  have:=rightX_kind (hR i hi)
  omega
 obtain ⟨b1,b2,b3⟩:=hO.ref i hi hk
 have hw:=way_range hO ff i hi hk
 have ra:=addr_range xs ff i
 have hsm:=hO.small
 have hlw:=lab_way hO ff i hi hk
 have hat:=addrs_get xs ff i (by omega)
 rw [if_neg (by rw [labsM_len];omega),hlw,w64 (by omega)]
 by_cases hf:ff.getD i false = true
 ·have h3:=hF.br i hf
  rw [if_neg (by rw [hf];simp),if_neg (by omega),contrary_f,Option.bind_some,if_pos hf,if_pos hf,hat,w64 (n:=addr xs ff i + 4) (by omega)]
  have e:(labsM xs ff M).getD (itemAt xs i).f2.toNat 0 - (addr xs ff i + 4) = wayM xs ff i - 4:=by
   rw [hat] at hlw
   omega
  rw [e,w64 (by omega)]
  rfl
 ·have hff:ff.getD i false = false:=by simpa using hf
  rw [if_neg hf,if_neg hf]
  by_cases h3:(itemAt xs i).f0 = 3
  ·rw [if_pos ⟨h3,hff⟩,if_neg (by omega)]
  ·rw [if_neg (fun h=>h3 h.1),if_pos (by omega),if_pos (by omega)]
   rfl
theorem ref_insts_f {xs:List S41} {M:Nat} (hO:Okay xs M) (hR:AllR xs) (hw64:wf64 xs) {ff:List Bool} (hF:Ended xs ff) (i:Nat) (hi:i < xs.length) (k:Nat) (hk:xs.length + 40 < k) :
  rushlightref05_insts.f k (xs.map refI) (addrs xs ff) ff (i:Int) = some ((instsM xs ff i).map toI):=by
 have hsm:=hO.small
 unfold rushlightref05_insts.f instsM
 rw [if_pos (by omega),if_pos zmb18_0,rd_item48 xs i hi]
 by_cases h1:(itemAt xs i).f0 = 1
 ·rw [if_pos (show (refI (itemAt xs i)).f0 = 1 from h1),if_pos h1]
  rfl
 rw [if_neg (show ¬ (refI (itemAt xs i)).f0 = 1 from h1),if_neg h1]
 by_cases h2:(itemAt xs i).f0 = 2
 ·rw [if_pos (show (refI (itemAt xs i)).f0 = 2 from h2),if_neg (by omega),if_pos h2]
  rfl
 rw [if_neg (show ¬ (refI (itemAt xs i)).f0 = 2 from h2)]
 by_cases h5:(itemAt xs i).f0 = 5
 ·obtain ⟨k2,rfl⟩:∃ k',k = k' + 30:=⟨k - 30,by omega⟩
  rw [if_pos (show (refI (itemAt xs i)).f0 = 5 from h5),if_pos h5]
  have:=number_ref k2 (itemAt xs i).f1.f1 (itemAt xs i).f1.f4 (hw64 i hi)
  rw [show (refI (itemAt xs i)).f1.f1 = (itemAt xs i).f1.f1 from rfl,show (refI (itemAt xs i)).f1.f4 = (itemAt xs i).f1.f4 from rfl,this,Option.bind_some]
 rw [if_neg (show ¬ (refI (itemAt xs i)).f0 = 5 from h5),if_neg h5,if_neg h2]
 have hkk:(itemAt xs i).f0 = 3∨(itemAt xs i).f0 = 4:=by
  have:=rightX_kind (hR i hi)
  omega
 obtain ⟨s,h4,_,h6⟩:=stand_lt (hO.ref i hi hkk).2.2
 have hw:=way_range hO ff i hi hkk
 rw [show (refI (itemAt xs i)).f2 = (itemAt xs i).f2 from rfl,stands_f xs hsm _ _ (by omega),Option.bind_some]
 have hway:rd (addrs xs ff) (standsM xs (itemAt xs i).f2) - rd (addrs xs ff) (i:Int) = wayM xs ff i:=by
  unfold wayM
  rw [h6]
  have ea:rd (addrs xs ff) (s:Int) = addr xs ff s:=addrs_get xs ff s (by omega)
  have eb:rd (addrs xs ff) (i:Int) = addr xs ff i:=addrs_get xs ff i (by omega)
  rw [ea,eb]
  rfl
 have hl:=hF.len
 rw [if_pos (by omega),if_pos zmb18_1,if_pos zmb18_1,if_pos (by omega),hway,w64 (n:=wayM xs ff i) (by omega)]
 have e1:rdOf false ff (i:Int) = ff.getD i false:=rfl
 rw [e1]
 by_cases hf:ff.getD i false = true
 ·rw [if_pos hf,if_pos hf,show (refI (itemAt xs i)).f1.f0 = (itemAt xs i).f1.f0 from rfl,ref_contrary_f,Option.bind_some,w64 (by omega)]
  rfl
 ·rw [if_neg hf,if_neg hf]
  rfl
theorem form_br:∀ n:Fin 46,5≤n.val→n.val≤10→formOf (n.val:Int) = 66:=by decide +kernel
theorem form_66 {op:Int} (h0:5≤op) (h1:op≤10):formOf op = 66:=by
 obtain ⟨m,rfl⟩:=Int.eq_ofNat_of_zero_le (show 0≤op by omega)
 exact form_br ⟨m,by omega⟩ (by show 5≤m;omega) (by show m≤10;omega)
theorem rightB_br {op rd rs1 rs2 z op2 z2:Int} (h:rightB op rd rs1 rs2 z = true) (ho:5≤op∧op≤10) (ho2:5≤op2∧op2≤10) (hz:-4096≤z2∧z2≤4094∧z2 % 2 = 0):rightB op2 rd rs1 rs2 z2 = true:=by
 unfold rightB at h ⊢
 rw [form_66 ho.1 ho.2] at h
 rw [form_66 ho2.1 ho2.2]
 simp only [Bool.and_eq_true] at h ⊢
 refine ⟨⟨⟨⟨by decide,h.1.1.1.2⟩,h.1.1.2⟩,h.1.2⟩,?_⟩
 simp [roomB,hz]
theorem rightB_j {rd rs1 rs2 z z2:Int} (h:rightB 3 rd rs1 rs2 z = true) (hz:-1048576≤z2∧z2≤1048574∧z2 % 2 = 0):rightB 3 rd rs1 rs2 z2 = true:=by
 have e:formOf 3 = 74:=by decide
 unfold rightB at h ⊢
 rw [e] at h ⊢
 simp only [Bool.and_eq_true] at h ⊢
 refine ⟨⟨⟨⟨by decide,h.1.1.1.2⟩,h.1.1.2⟩,h.1.2⟩,?_⟩
 simp [roomB,hz]
theorem jumpB_iff (z:Int):jumpB z = true↔-1048576≤z∧z≤1048574:=by simp [jumpB]
theorem contM_br {op:Int} (h:5≤op∧op≤10):5≤contM op∧contM op≤10:=by
 unfold contM
 rw [if_pos h]
 split <;> omega
theorem near_way {xs:List S41} {ff:List Bool} (hF:Ended xs ff) (i:Nat) (hi:i < xs.length) (h3:(itemAt xs i).f0 = 3) (hf:ff.getD i false = false):-4096≤wayM xs ff i∧wayM xs ff i≤4094:=by
 have h:=stepM_get xs ff i hi
 rw [hF.fix,hf] at h
 unfold farAt at h
 rw [hf,decide_eq_true h3] at h
 simp at h
 omega
theorem insts_right {xs:List S41} {M:Nat} (hO:Okay xs M) (hR:AllR xs) {ff:List Bool} (hF:Ended xs ff) (i:Nat) (hi:i < xs.length):∀ e ∈ instsM xs ff i,rightS e = true∨(e.f0 = 3∧(itemAt xs i).f0≠1∧jumpB e.f4 = false):=by
 have hx:=hR i hi
 have hx0:=hx
 unfold rightX rightI at hx
 unfold instsM
 by_cases h1:(itemAt xs i).f0 = 1
 ·rw [if_pos h1] at hx ⊢
  intro e he
  simp only [List.mem_singleton] at he
  subst he
  rw [Bool.and_eq_true] at hx
  exact .inl hx.1
 rw [if_neg h1] at hx ⊢
 by_cases h5:(itemAt xs i).f0 = 5
 ·rw [if_pos h5] at hx ⊢
  have hx:=of_decide_eq_true hx
  exact fun e he=>.inl (constsM_right _ _ (by omega) (by omega) (by omega) e he)
 rw [if_neg h5] at hx ⊢
 by_cases h2:(itemAt xs i).f0 = 2
 ·rw [if_pos h2]
  exact fun e he=>by cases he
 rw [if_neg h2] at hx ⊢
 by_cases hl:(itemAt xs i).f2 < 0∨(itemAt xs i).f2 > 4095
 ·rw [if_pos hl] at hx;cases hx
 rw [if_neg hl] at hx
 have hk:(itemAt xs i).f0 = 3∨(itemAt xs i).f0 = 4:=by
  have:=rightX_kind hx0
  omega
 have hw:=way_range hO ff i hi hk
 by_cases hf:ff.getD i false = true
 ·rw [if_pos hf]
  have h3:=hF.br i hf
  rw [if_pos h3] at hx
  simp only [Bool.and_eq_true,decide_eq_true_eq] at hx
  intro e he
  simp only [List.mem_cons,List.not_mem_nil,or_false] at he
  rcases he with rfl|rfl
  ·exact .inl (rightB_br hx.1.2 hx.1.1 (contM_br hx.1.1) (by dsimp only;omega))
  ·by_cases hj:jumpB (wayM xs ff i - 4) = true
   ·have:=(jumpB_iff _).mp hj
    exact .inl (rightB_j (show rightB 3 0 0 0 0 = true by decide +kernel) (by dsimp only;omega))
   ·exact .inr ⟨rfl,h1,by simpa using hj⟩
 ·rw [if_neg hf]
  intro e he
  simp only [List.mem_singleton] at he
  subst he
  rcases hk with h3|h4
  ·rw [if_pos h3] at hx
   simp only [Bool.and_eq_true,decide_eq_true_eq] at hx
   have:=near_way hF i hi h3 (by simpa using hf)
   exact .inl (rightB_br hx.1.2 hx.1.1 hx.1.1 (by dsimp only;omega))
  ·rw [if_neg (show ¬ (itemAt xs i).f0 = 3 by omega)] at hx
   simp only [Bool.and_eq_true,decide_eq_true_eq] at hx
   obtain ⟨⟨⟨_,hop⟩,hrb⟩,_⟩:=hx
   by_cases hj:jumpB (wayM xs ff i) = true
   ·have:=(jumpB_iff _).mp hj
    refine .inl ?_
    show rightB (itemAt xs i).f1.f0 _ _ _ _ = true
    rw [hop] at hrb ⊢
    exact rightB_j hrb (by dsimp only;omega)
   ·exact .inr ⟨hop,h1,by simpa using hj⟩
end Go.Proofs.Ytecbponmpinnoaa.Pure
end
section
namespace Go.Proofs.Ytecbponmpinnoaa.Pure
open Go Go.RowKit Go.Proofs.Ytecbponmpinnoaa.P Go.Proofs.Ytecbponmpinnoaa.InstM Go.Proofs.YtecbponmpinnoaaW.PrintWords Go.Proofs.YtecbponmpinnoaaW.PrintLast Go.Proofs.YtecbponmpinnoaaW.PrintMore
set_option linter.unusedVariables false
def outM (xs:List S41) (ff:List Bool):Nat→List Int
 | 0=>[]
 | i + 1=>outM xs ff i ++ (instsM xs ff i).map wordS
theorem instsM_len (xs:List S41) (ff:List Bool) (i:Nat):(instsM xs ff i).length≤2:=by
 have:=constsM_len (itemAt xs i).f1.f1 ((itemAt xs i).f1.f4 % 4294967296)
 unfold instsM
 split
 ·simp
 ·split
  ·exact this.2
  ·split
   ·simp
   ·split <;> simp
theorem outM_len (xs:List S41) (ff:List Bool):∀ i,(outM xs ff i).length≤2 * i
 | 0=>by simp [outM]
 | i + 1=>by
  have h1:=outM_len xs ff i
  have h2:=instsM_len xs ff i
  simp only [outM,List.length_append,List.length_map]
  omega
def BadE (x:S41) (e:S39):Prop:=e.f0 = 3∧x.f0≠1∧jumpB e.f4 = false
theorem ok_true {xs:List S41} {M:Nat} (hO:Okay xs M) (hR:AllR xs) {ff:List Bool} (hF:Ended xs ff) (i:Nat) (hi:i < xs.length) (hok:okM xs ff i = true):∀ e ∈ instsM xs ff i,rightS e = true:=by
 intro e he
 rcases insts_right hO hR hF i hi e he with h|⟨b1,b2,b3⟩
 ·exact h
 exfalso
 have hx0:=hR i hi
 unfold okM at hok
 unfold instsM at he
 rw [if_neg b2] at he
 by_cases h5:(itemAt xs i).f0 = 5
 ·rw [if_pos h5] at he
  have hx:=hx0
  unfold rightX rightI at hx
  rw [if_neg b2,if_pos h5] at hx
  have hx:=of_decide_eq_true hx
  unfold constsM at he
  split at he
  ·simp only [List.mem_singleton] at he;subst he;cases b1
  ·split at he
   ·simp only [List.mem_singleton] at he;subst he;cases b1
   ·simp only [List.mem_cons,List.not_mem_nil,or_false] at he
    rcases he with rfl|rfl <;> cases b1
 rw [if_neg h5] at he
 by_cases h2:(itemAt xs i).f0 = 2
 ·rw [if_pos h2] at he;cases he
 rw [if_neg h2] at he
 rw [if_neg (show ¬ ((itemAt xs i).f0 = 1∨(itemAt xs i).f0 = 5∨(itemAt xs i).f0 = 2) by omega)] at hok
 by_cases hf:ff.getD i false = true
 ·rw [if_pos hf] at he hok
  simp only [List.mem_cons,List.not_mem_nil,or_false] at he
  rcases he with rfl|rfl
  ·have:jumpB 8 = false:=b3
   revert this
   decide
  ·rw [show jumpB (wayM xs ff i - 4) = false from b3] at hok
   cases hok
 ·rw [if_neg hf] at he hok
  simp only [List.mem_singleton] at he
  subst he
  by_cases h4:(itemAt xs i).f0 = 4
  ·rw [if_pos h4,show jumpB (wayM xs ff i) = false from b3] at hok
   cases hok
  ·have h3:(itemAt xs i).f0 = 3:=by
    have:=rightX_kind hx0
    omega
   have hn:=near_way hF i hi h3 (by simpa using hf)
   have:jumpB (wayM xs ff i) = true:=(jumpB_iff _).mpr (by omega)
   rw [show jumpB (wayM xs ff i) = false from b3] at this
   cases this
theorem ok_false {xs:List S41} {M:Nat} (hO:Okay xs M) (hR:AllR xs) {ff:List Bool} (hF:Ended xs ff) (i:Nat) (hi:i < xs.length) (hok:okM xs ff i = false) :
  (∃ e,instsM xs ff i = [e]∧BadE (itemAt xs i) e)∨∃ e1 e2,instsM xs ff i = [e1,e2]∧rightS e1 = true∧BadE (itemAt xs i) e2:=by
 have hr:=insts_right hO hR hF i hi
 have hx:=hR i hi
 have hx0:=hx
 unfold okM at hok
 by_cases hk:(itemAt xs i).f0 = 1∨(itemAt xs i).f0 = 5∨(itemAt xs i).f0 = 2
 ·rw [if_pos hk] at hok;cases hok
 rw [if_neg hk] at hok
 have e0:instsM xs ff i = if ff.getD i false = true then [⟨contM (itemAt xs i).f1.f0,(itemAt xs i).f1.f1,(itemAt xs i).f1.f2,(itemAt xs i).f1.f3,8⟩,⟨3,0,0,0,wayM xs ff i - 4⟩]
   else [⟨(itemAt xs i).f1.f0,(itemAt xs i).f1.f1,(itemAt xs i).f1.f2,(itemAt xs i).f1.f3,wayM xs ff i⟩]:=by
  unfold instsM
  rw [if_neg (by omega),if_neg (by omega),if_neg (by omega)]
 by_cases hf:ff.getD i false = true
 ·rw [if_pos hf] at hok e0
  refine .inr ⟨_,_,e0,?_,rfl,fun h=>hk (Or.inl h),hok⟩
  rcases hr _ (by rw [e0];exact List.mem_cons_self) with h|⟨_,_,h⟩
  ·exact h
  ·exact absurd (show jumpB 8 = false from h) (by decide)
 ·rw [if_neg hf] at hok e0
  by_cases h4:(itemAt xs i).f0 = 4
  ·rw [if_pos h4] at hok
   refine .inl ⟨_,e0,?_,fun h=>hk (Or.inl h),hok⟩
   rcases hr _ (by rw [e0];exact List.mem_cons_self) with h|⟨h,_⟩
   ·unfold rightX rightI at hx
    rw [if_neg (by omega),if_neg (by omega)] at hx
    by_cases hl:(itemAt xs i).f2 < 0∨(itemAt xs i).f2 > 4095
    ·rw [if_pos hl] at hx;cases hx
    rw [if_neg hl,if_neg (by omega),if_neg (by omega)] at hx
    simp only [Bool.and_eq_true,decide_eq_true_eq] at hx
    exact hx.1.1.2
   ·exact h
  ·rw [if_neg h4] at hok;cases hok
def OkAll (xs:List S41) (ff:List Bool) (i:Nat):Prop:=∀ j,i≤j→j < xs.length→okM xs ff j = true
theorem okAll_step {xs:List S41} {ff:List Bool} {i:Nat} (h:okM xs ff i = true):OkAll xs ff i↔OkAll xs ff (i + 1):=by
 constructor
 ·intro H j h1 h2;exact H j (by omega) h2
 ·intro H j h1 h2
  by_cases e:j = i
  ·rw [e];exact h
  ·exact H j (by omega) h2
theorem asm_l1_f {xs:List S41} {M:Nat} (hO:Okay xs M) (hR:AllR xs) {ff:List Bool} (hF:Ended xs ff):∀ (d k i:Nat),i + d = xs.length→d + 20 < k →
  (asm_Assemble.l1 k xs ff (addrs xs ff) (labsM xs ff M) (outM xs ff i) i = some (some (outM xs ff xs.length))∧OkAll xs ff i)∨(asm_Assemble.l1 k xs ff (addrs xs ff) (labsM xs ff M) (outM xs ff i) i = some none∧¬ OkAll xs ff i)
 | 0,k,i,h,hk=>by
  obtain ⟨k,rfl⟩:∃ k',k = k' + 1:=⟨k - 1,by omega⟩
  have e:i = xs.length:=by omega
  subst e
  rw [asm_Assemble.l1,if_neg (by omega)]
  exact .inl ⟨rfl,fun j h1 h2=>by omega⟩
 | d + 1,k,i,h,hk=>by
  obtain ⟨k,rfl⟩:∃ k',k = k' + 2:=⟨k - 2,by omega⟩
  have hi:i < xs.length:=by omega
  have hsm:=hO.small
  rw [asm_Assemble.l1,if_pos hi,asm_insts_f hO hR hF i hi k,Option.bind_some]
  dsimp only
  by_cases hok:okM xs ff i = true
  ·have hl:=instsM_len xs ff i
   have hol:=outM_len xs ff i
   rw [if_pos hok,l2_f _ (ok_true hO hR hF i hi hok) (instsM xs ff i).length (k + 1) 0 _ (by omega) (by omega) (by omega),Option.bind_some,List.drop_zero,okAll_step hok]
   exact asm_l1_f hO hR hF d (k + 1) (i + 1) (by omega) (by omega)
  ·rw [if_neg hok]
   exact .inr ⟨rfl,fun H=>hok (H i (Nat.le_refl _) hi)⟩
end Go.Proofs.Ytecbponmpinnoaa.Pure
end
section
namespace Go.Proofs.Ytecbponmpinnoaa.Pure
open Go Go.RowKit Go.Proofs.Ytecbponmpinnoaa.P Go.Proofs.Ytecbponmpinnoaa.InstM Go.Proofs.YtecbponmpinnoaaW.PrintWords Go.Proofs.YtecbponmpinnoaaW.PrintLast Go.Proofs.YtecbponmpinnoaaW.PrintMore
set_option linter.unusedVariables false
theorem rd_T46_map (L:List S39) (j:Nat) (hj:j < L.length):rd_T46 (L.map toI) (j:Int) = toI L[j]:=by
 unfold rd_T46
 rw [Int.toNat_natCast,List.getD_eq_getElem?_getD,List.getElem?_map,List.getElem?_eq_getElem hj]
 rfl
theorem right_word (k:Nat) (hk:45≤k) (e:S39) (h:rightS e = true):rushlightref02_Word.f k e.f0 e.f1 e.f2 e.f3 e.f4 = some (wordS e):=by
 have h0:=right_op h
 obtain ⟨h1,h2,h3,h4,_⟩:=right_all h
 exact ref_word_f k hk (by omega) h1 h2 h3 (by omega)
theorem right_jump (e:S39) (h:rightS e = true) (h3:e.f0 = 3):-1048576≤e.f4∧e.f4≤1048574:=by
 unfold rightS rightB at h
 rw [h3] at h
 simp only [Bool.and_eq_true] at h
 have h2:=h.2
 rw [show formOf 3 = 74 from by decide] at h2
 simp [roomB] at h2
 omega
theorem ref_l1_good (xs:List S41) (ff:List Bool) (A:List Int) (i:Nat) (hi:i < xs.length) (hn:xs.length < 1000000) (L:List S39) (j:Nat) (hj:j < L.length) (hL:L.length≤2) (hr:rightS L[j] = true) (k:Nat) (hk:45≤k) (W Lb:List Int) (hW:W.length < 10000000) :
  rushlightref05_Assemble.l1 (k + 1) (xs.map refI) ff A (i:Int) (L.map toI) (j:Int) W Lb 0 = rushlightref05_Assemble.l1 k (xs.map refI) ff A (i:Int) (L.map toI) ((j + 1:Nat):Int) (W ++ [wordS L[j]]) Lb 0:=by
 have hw:=right_word k hk L[j] hr
 rw [rushlightref05_Assemble.l1,if_pos zmb18_0,if_pos (by omega),rd_T46_map L j hj,w64 (by omega),show ((j:Int) + 1) = ((j + 1:Nat):Int) from by omega]
 have hw2:rushlightref02_Word.f k (toI L[j]).f0 (toI L[j]).f1 (toI L[j]).f2 (toI L[j]).f3 (toI L[j]).f4 = some (wordS L[j]):=hw
 by_cases h3:L[j].f0 = 3
 ·rw [if_pos (show (toI L[j]).f0 = 3 from h3),if_pos (by omega),if_pos zmb18_0,rd_item48 xs i hi]
  have hb:=right_jump _ hr h3
  by_cases h1:(itemAt xs i).f0 = 1
  ·rw [if_pos (show (refI (itemAt xs i)).f0 = 1 from h1),hw2,Option.bind_some,if_pos (by omega)]
  ·rw [if_neg (show ¬ (refI (itemAt xs i)).f0 = 1 from h1),if_neg (show ¬ (toI L[j]).f4 < -1048576 by show ¬ L[j].f4 < -1048576;omega),if_neg (show ¬ (toI L[j]).f4 > 1048574 by show ¬ L[j].f4 > 1048574;omega),hw2,Option.bind_some,if_pos (by omega)]
 ·rw [if_neg (show ¬ (toI L[j]).f0 = 3 from h3),hw2,Option.bind_some,if_pos (by omega)]
theorem ref_l1_bad (xs:List S41) (ff:List Bool) (A:List Int) (i:Nat) (hi:i < xs.length) (L:List S39) (j:Nat) (hj:j < L.length) (hb:BadE (itemAt xs i) L[j]) (k:Nat) (W Lb:List Int) :
  rushlightref05_Assemble.l1 (k + 1) (xs.map refI) ff A (i:Int) (L.map toI) (j:Int) W Lb 0 = some ([],[],7):=by
 obtain ⟨h3,h1,hj2⟩:=hb
 rw [rushlightref05_Assemble.l1,if_pos zmb18_0,if_pos (by omega),rd_T46_map L j hj,if_pos (show (toI L[j]).f0 = 3 from h3),if_pos (by omega),if_pos zmb18_0,rd_item48 xs i hi,if_neg (show ¬ (refI (itemAt xs i)).f0 = 1 from h1)]
 by_cases c:L[j].f4 < -1048576
 ·rw [if_pos (show (toI L[j]).f4 < -1048576 from c)]
 ·have:L[j].f4 > 1048574:=by
   have hn:¬ (-1048576≤L[j].f4∧L[j].f4≤1048574):=fun hh=>by
    rw [(jumpB_iff _).mpr hh] at hj2
    cases hj2
   omega
  rw [if_neg (show ¬ (toI L[j]).f4 < -1048576 from c),if_pos (show (toI L[j]).f4 > 1048574 from this)]
theorem ref_l1_all (xs:List S41) (ff:List Bool) (A:List Int) (i:Nat) (hi:i < xs.length) (hn:xs.length < 1000000) (L:List S39) (hL:L.length≤2) (hr:∀ e ∈ L,rightS e = true) (k:Nat) (hk:45≤k) (Lb:List Int):∀ (d j:Nat) (W:List Int),j + d = L.length→W.length + d < 10000000 →
  rushlightref05_Assemble.l1 (k + d + 1) (xs.map refI) ff A (i:Int) (L.map toI) (j:Int) W Lb 0 = (if (itemAt xs i).f0 = 2 then rushlightref05_Assemble.l2 k (xs.map refI) ff A (i:Int) (W ++ (L.drop j).map wordS) Lb 0 else rushlightref05_Assemble.l0 k (xs.map refI) ff A ((i + 1:Nat):Int) (W ++ (L.drop j).map wordS) Lb 0)
 | 0,j,W,h,hW=>by
  rw [rushlightref05_Assemble.l1,if_neg zmb18_0,if_pos (by omega),if_pos zmb18_0,rd_item48 xs i hi,w64 (by omega),show ((i:Int) + 1) = ((i + 1:Nat):Int) from by omega,List.drop_eq_nil_of_le (by omega),List.map_nil,List.append_nil]
  rfl
 | d + 1,j,W,h,hW=>by
  have hj:j < L.length:=by omega
  rw [show k + (d + 1) + 1 = (k + d + 1) + 1 from by omega,ref_l1_good xs ff A i hi hn L j hj hL (hr _ (List.getElem_mem hj)) (k + d + 1) (by omega) W Lb (by omega),
   ref_l1_all xs ff A i hi hn L hL hr k hk Lb d (j + 1) _ (by omega) (by simp;omega),List.drop_eq_getElem_cons hj,List.map_cons,List.append_assoc]
  rfl
def labsR (xs:List S41) (ff:List Bool) (i:Nat):List Int :=
 (List.range (maxL xs i + 1).toNat).map fun (l:Nat)=>if 0≤standsM xs l∧standsM xs l < i then addr xs ff (standsM xs l).toNat else -1
theorem labsR_len (xs:List S41) (ff:List Bool) (i:Nat):(labsR xs ff i).length = (maxL xs i + 1).toNat:=by simp [labsR]
theorem labsR_get (xs:List S41) (ff:List Bool) (i l:Nat) (hl:l < (maxL xs i + 1).toNat):(labsR xs ff i).getD l 0 = if 0≤standsM xs l∧standsM xs l < i then addr xs ff (standsM xs l).toNat else -1 :=
 getD_map_range 0 _ _ l hl
theorem labsR_end (xs:List S41) (ff:List Bool):labsR xs ff xs.length = labsM xs ff (maxL xs xs.length + 1).toNat:=by
 refine ext_getD 0 (by rw [labsR_len,labsM_len]) (fun l hl=>?_)
 rw [labsR_len] at hl
 rw [labsR_get _ _ _ _ hl,labsM_get _ _ _ _ hl]
 rcases stand_cases xs (l:Int) with ⟨h1,_⟩|⟨s,h1,_,h3⟩
 ·rw [if_neg (by omega),if_neg (by omega)]
 ·rw [if_pos (by omega),if_pos (by omega)]
theorem ref_l2 (xs:List S41) (ff:List Bool) (i:Nat) (hi:i < xs.length) (hn:xs.length < 1000000) (hb:0≤(itemAt xs i).f2∧(itemAt xs i).f2 < 4096) (W:List Int) (z:Nat):∀ (d:Nat) (Lb:List Int),Lb.length < 10000→d = ((itemAt xs i).f2 + 1 - Lb.length).toNat →
  rushlightref05_Assemble.l2 (z + d + 1) (xs.map refI) ff (addrs xs ff) (i:Int) W Lb 0 = rushlightref05_Assemble.l0 z (xs.map refI) ff (addrs xs ff) ((i + 1:Nat):Int) W ((Lb ++ List.replicate d (-1)).set (itemAt xs i).f2.toNat (addr xs ff i)) 0
 | 0,Lb,hl,hd=>by
  rw [rushlightref05_Assemble.l2,if_pos (by omega),if_pos zmb18_0,rd_item48 xs i hi,show (refI (itemAt xs i)).f2 = (itemAt xs i).f2 from rfl,if_neg (by omega),if_pos zmb18_1,if_pos hb.1,if_pos (by omega),w64 (by omega),show ((i:Int) + 1) = ((i + 1:Nat):Int) from by omega]
  have ea:rd (addrs xs ff) (i:Int) = addr xs ff i:=addrs_get xs ff i (by omega)
  rw [ea,List.replicate_zero,List.append_nil]
 | d + 1,Lb,hl,hd=>by
  rw [rushlightref05_Assemble.l2,if_pos (by omega),if_pos zmb18_0,rd_item48 xs i hi,show (refI (itemAt xs i)).f2 = (itemAt xs i).f2 from rfl,if_pos (by omega),if_pos (by omega)]
  have:=ref_l2 xs ff i hi hn hb W z d (Lb ++ [-1]) (by simp;omega) (by simp;omega)
  rw [show z + (d + 1) = z + d + 1 from rfl,this,List.append_assoc]
  rfl
end Go.Proofs.Ytecbponmpinnoaa.Pure
end
section
namespace Go.Proofs.Ytecbponmpinnoaa.Pure
open Go Go.RowKit Go.Proofs.Ytecbponmpinnoaa.P Go.Proofs.Ytecbponmpinnoaa.InstM Go.Proofs.YtecbponmpinnoaaW.PrintWords Go.Proofs.YtecbponmpinnoaaW.PrintLast Go.Proofs.YtecbponmpinnoaaW.PrintMore
set_option linter.unusedVariables false
theorem labsR_step {xs:List S41} {M:Nat} (hO:Okay xs M) (ff:List Bool) (i:Nat) (hi:i < xs.length) (h2:(itemAt xs i).f0 = 2) (d:Nat) (hd:d = ((itemAt xs i).f2 + 1 - ((labsR xs ff i).length:Int)).toNat) :
  (labsR xs ff i ++ List.replicate d (-1)).set (itemAt xs i).f2.toNat (addr xs ff i) = labsR xs ff (i + 1):=by
 have hb:=hO.lab i hi h2
 have hge:=maxL_ge xs i
 have hmx:maxL xs (i + 1) = if (itemAt xs i).f2 > maxL xs i then (itemAt xs i).f2 else maxL xs i:=by
  simp only [maxL]
  by_cases c:(itemAt xs i).f2 > maxL xs i
  ·rw [if_pos c,if_pos ⟨h2,c⟩]
  ·rw [if_neg c,if_neg (fun hh=>c hh.2)]
 rw [labsR_len] at hd
 have hlen:(labsR xs ff i ++ List.replicate d (-1)).length = (maxL xs (i + 1) + 1).toNat:=by
  rw [List.length_append,List.length_replicate,labsR_len,hmx]
  split <;> omega
 have hin:(itemAt xs i).f2.toNat < (maxL xs (i + 1) + 1).toNat:=by
  rw [hmx]
  split <;> omega
 have hst:=stand_at hO hi ⟨h2,rfl⟩
 refine ext_getD 0 (by rw [List.length_set,hlen,labsR_len]) (fun l hl=>?_)
 rw [List.length_set,hlen] at hl
 rw [getD_set 0 _ _ _ _ (by rw [hlen];exact hin),labsR_get _ _ _ _ hl]
 by_cases e:l = (itemAt xs i).f2.toNat
 ·rw [if_pos e]
  have e2:(l:Int) = (itemAt xs i).f2:=by omega
  rw [e2,hst,if_pos (by omega)]
  rfl
 ·rw [if_neg e]
  have hne:standsM xs (l:Int)≠(i:Int):=by
   intro he
   rcases stand_cases xs (l:Int) with ⟨h1,_⟩|⟨s,h1,h2',h3⟩
   ·omega
   ·have:s = i:=by omega
    subst this
    have:=h2'.2
    omega
  by_cases c:l < (maxL xs i + 1).toNat
  ·have ea:(labsR xs ff i ++ List.replicate d (-1)).getD l 0 = (labsR xs ff i).getD l 0:=by
    rw [List.getD_eq_getElem?_getD,List.getD_eq_getElem?_getD,List.getElem?_append_left (by rw [labsR_len];exact c)]
   rw [ea,labsR_get _ _ _ _ c]
   by_cases c2:0≤standsM xs (l:Int)∧standsM xs (l:Int) < i
   ·rw [if_pos c2,if_pos (by omega)]
   ·rw [if_neg c2,if_neg (by omega)]
  ·have ea:(labsR xs ff i ++ List.replicate d (-1)).getD l 0 = -1:=by
    rw [List.length_append,List.length_replicate,labsR_len] at hlen
    rw [List.getD_eq_getElem?_getD,List.getElem?_append_right (by rw [labsR_len];omega),List.getElem?_replicate,if_pos (by rw [labsR_len];omega)]
    rfl
   rw [ea,if_neg]
   rintro ⟨a1,a2⟩
   rcases stand_cases xs (l:Int) with ⟨h1,_⟩|⟨s,h1,h2',h3⟩
   ·omega
   ·have:=maxL_up xs i s (by omega) h2'.1
    have:=h2'.2
    omega
theorem labsR_same {xs:List S41} {M:Nat} (hO:Okay xs M) (ff:List Bool) (i:Nat) (hi:i < xs.length) (h2:(itemAt xs i).f0≠2):labsR xs ff i = labsR xs ff (i + 1):=by
 have hmx:maxL xs (i + 1) = maxL xs i:=by
  simp only [maxL]
  rw [if_neg (fun hh=>h2 hh.1)]
 refine ext_getD 0 (by rw [labsR_len,labsR_len,hmx]) (fun l hl=>?_)
 rw [labsR_len] at hl
 rw [labsR_get _ _ _ _ hl,labsR_get _ _ _ _ (by rw [hmx];exact hl)]
 have hne:standsM xs (l:Int)≠(i:Int):=by
  intro he
  rcases stand_cases xs (l:Int) with ⟨h1,_⟩|⟨s,h1,h2',h3⟩
  ·omega
  ·have:s = i:=by omega
   subst this
   exact h2 h2'.1
 by_cases c2:0≤standsM xs (l:Int)∧standsM xs (l:Int) < i
 ·rw [if_pos c2,if_pos (by omega)]
 ·rw [if_neg c2,if_neg (by omega)]
theorem refA_l0 {xs:List S41} {M:Nat} (hO:Okay xs M) (hR:AllR xs) (hw64:wf64 xs) {ff:List Bool} (hF:Ended xs ff) (hsmall:xs.length < 100000) (c:Nat) (hc:c = 5000):∀ (d k i:Nat),i + d = xs.length→d * c + xs.length + 100 < k →
  (rushlightref05_Assemble.l0 k (xs.map refI) ff (addrs xs ff) (i:Int) (outM xs ff i) (labsR xs ff i) 0 = some (outM xs ff xs.length,labsR xs ff xs.length,0)∧OkAll xs ff i) ∨
  (rushlightref05_Assemble.l0 k (xs.map refI) ff (addrs xs ff) (i:Int) (outM xs ff i) (labsR xs ff i) 0 = some ([],[],7)∧¬ OkAll xs ff i)
 | 0,k,i,h,hk=>by
  obtain ⟨k,rfl⟩:∃ k',k = k' + 1:=⟨k - 1,by omega⟩
  have e:i = xs.length:=by omega
  subst e
  rw [rushlightref05_Assemble.l0,if_neg zmb18_0]
  exact .inl ⟨rfl,fun j h1 h2=>by omega⟩
 | d + 1,k,i,h,hk=>by
  rw [Nat.succ_mul] at hk
  have hi:i < xs.length:=by omega
  have hsm:=hO.small
  have hl:=instsM_len xs ff i
  have hol:=outM_len xs ff i
  obtain ⟨k,rfl⟩:∃ k',k = k' + (instsM xs ff i).length + 2:=⟨k - (instsM xs ff i).length - 2,by omega⟩
  rw [rushlightref05_Assemble.l0,if_pos zmb18_0,ref_insts_f hO hR hw64 hF i hi _ (by omega),Option.bind_some]
  by_cases hok:okM xs ff i = true
  ·have hall:=ref_l1_all xs ff (addrs xs ff) i hi hsm (instsM xs ff i) hl (ok_true hO hR hF i hi hok) k (by omega) (labsR xs ff i) (instsM xs ff i).length 0 (outM xs ff i) (by omega) (by omega)
   rw [List.drop_zero] at hall
   rw [show ((0:Nat):Int) = 0 from rfl] at hall
   rw [hall,okAll_step hok]
   by_cases h2:(itemAt xs i).f0 = 2
   ·rw [if_pos h2]
    have hb:=rightX_lab (hR i hi) (Or.inl h2)
    have hml:=maxL_lt xs hR i (by omega)
    have hge:=maxL_ge xs i
    obtain ⟨dd,hdd⟩:∃ dd,dd = ((itemAt xs i).f2 + 1 - ((labsR xs ff i).length:Int)).toNat:=⟨_,rfl⟩
    have hdl:dd≤4096:=by rw [hdd];omega
    obtain ⟨k3,rfl⟩:∃ k',k = k' + dd + 1:=⟨k - dd - 1,by omega⟩
    rw [ref_l2 xs ff i hi hsm hb _ k3 dd (labsR xs ff i) (by rw [labsR_len];omega) hdd,labsR_step hO ff i hi h2 dd hdd]
    exact refA_l0 hO hR hw64 hF hsmall c hc d k3 (i + 1) (by omega) (by omega)
   ·rw [if_neg h2,labsR_same hO ff i hi h2]
    exact refA_l0 hO hR hw64 hF hsmall c hc d k (i + 1) (by omega) (by omega)
  ·refine .inr ⟨?_,fun H=>hok (H i (Nat.le_refl _) hi)⟩
   rcases ok_false hO hR hF i hi (by simpa using hok) with ⟨e,he,hb⟩|⟨e1,e2,he,hr,hb⟩
   ·rw [he]
    exact ref_l1_bad xs ff (addrs xs ff) i hi [e] 0 (by simp) hb _ _ _
   ·rw [he]
    have s1:=ref_l1_good xs ff (addrs xs ff) i hi hsm [e1,e2] 0 (by simp) (by simp) hr (k + 2) (by omega) (outM xs ff i) (labsR xs ff i) (by omega)
    have s2:=ref_l1_bad xs ff (addrs xs ff) i hi [e1,e2] 1 (by simp) hb (k + 1) (outM xs ff i ++ [wordS e1]) (labsR xs ff i)
    exact s1.trans s2
end Go.Proofs.Ytecbponmpinnoaa.Pure
end
section
namespace Go.Proofs.Ytecbponmpinnoaa.Pure
open Go Go.RowKit Go.Proofs.Ytecbponmpinnoaa.P Go.Proofs.Ytecbponmpinnoaa.InstM Go.Proofs.YtecbponmpinnoaaW.PrintWords Go.Proofs.YtecbponmpinnoaaW.PrintLast Go.Proofs.YtecbponmpinnoaaW.PrintMore
set_option linter.unusedVariables false
theorem stepM_br (xs:List S41) (f:List Bool) (h:∀ i,f.getD i false = true→(itemAt xs i).f0 = 3) (i:Nat) (hi:(stepM xs f).getD i false = true):(itemAt xs i).f0 = 3:=by
 by_cases c:i < xs.length
 ·rw [stepM_get _ _ _ c] at hi
  unfold farAt at hi
  simp only [Bool.or_eq_true,Bool.and_eq_true,decide_eq_true_eq] at hi
  rcases hi with hi|hi
  ·exact h i hi
  ·exact hi.1
 ·rw [List.getD_eq_getElem?_getD,List.getElem?_eq_none (by rw [stepM_len];omega)] at hi
  cases hi
theorem iterM_br (xs:List S41):∀ (t:Nat) (f:List Bool),(∀ i,f.getD i false = true→(itemAt xs i).f0 = 3)→∀ i,(iterM xs t f).getD i false = true→(itemAt xs i).f0 = 3
 | 0,f,h=>h
 | t + 1,f,h=>iterM_br xs t _ (stepM_br xs f h)
theorem okay_of {xs:List S41} (hn:xs.length < 1000000) (hR:AllR xs) (hD:DupFree xs xs.length) (hM:¬ Miss xs 0):Okay xs (maxL xs xs.length + 1).toNat:=by
 have hge:=maxL_ge xs xs.length
 refine ⟨hn,fun i hi h2=>?_,fun l i j hi hj h1 h2=>hD l i j hi hj h1 h2,fun i hi hk=>?_⟩
 ·have h1:=rightX_lab (hR i hi) (Or.inl h2)
  have h3:=maxL_up xs xs.length i hi h2
  omega
 ·have h1:=rightX_lab (hR i hi) (Or.inr hk)
  have h2:standsM xs (itemAt xs i).f2≠-1:=fun e=>hM ⟨i,Nat.zero_le _,hi,hk,e⟩
  obtain ⟨s,h3,h4,_⟩:=stand_lt h2
  have h5:=maxL_up xs xs.length s h3 h4.1
  have h6:=h4.2
  exact ⟨h1.1,by omega,h2⟩
theorem both (xs:List S41) (hn:xs.length≤2000) (hw:wf64 xs) (k:Nat) (hk:20000000≤k):∃ r,asm_Assemble.f k xs = some r∧rushlightref05_Assemble.f k (xs.map refI) = some r∧r.1.length≤4000∧r.2.1.length≤4096:=by
 obtain ⟨b,hb1,hb2⟩:=asm_l0 xs xs.length k 0 (by omega) (by omega)
 have hsm:xs.length < 1000000:=by omega
 have hfew:xs.length * (xs.length + 2)≤2000 * 2002:=Nat.mul_le_mul hn (by omega)
 obtain ⟨z,hz⟩:∃ z,k = z + xs.length + 1:=⟨k - xs.length - 1,by omega⟩
 have hmay:rushlightref05_May.f k (xs.map refI) = rushlightref05_May.l0 k (xs.map refI) 0:=by
  unfold rushlightref05_May.f
  rw [if_neg zmb18_0]
 have hm0:=may_l0 xs hsm xs.length z 0 (by omega) (by omega)
 rw [← hz] at hm0
 have asm0:asm_Assemble.f k xs = (if b = true then
  ((asm_labels.f k xs).bind fun e=>if e.1 = 0 then
   ((asm_grow.l0 k xs (List.replicate xs.length false) (List.replicate (xs.length + 1) 0) (List.replicate e.2 (-1))).bind fun p =>
    (asm_Assemble.l1 k xs p.1 p.2.1 p.2.2 [] 0).bind fun q=>match q with
     | some out=>some (out,p.2.2,(0:Int))
     | none=>some ([],[],(7:Int)))
   else some ([],[],e.1))
  else some ([],[],(1:Int))):=by
  unfold asm_Assemble.f
  rw [if_neg (by omega),hb1,Option.bind_some]
  rfl
 have ref0:∀ e:Int,e≠0→rushlightref05_May.f k (xs.map refI) = some e→rushlightref05_Assemble.f k (xs.map refI) = some ([],[],e):=by
  intro e he h
  unfold rushlightref05_Assemble.f
  rw [h,Option.bind_some,if_neg he,Option.bind_some]
 by_cases hR:AllR xs
 ·have hbt:b = true:=hb2.mpr (fun j _ hj=>hR j hj)
  rw [asm0,if_pos hbt]
  rcases hm0 with ⟨_,h2⟩|⟨hm1,_⟩
  ·exact absurd (fun j _ hj=>hR j hj) h2
  have hm2:=may_l1 xs hsm xs.length z 0 (by omega) (by omega)
  rw [show ((0:Nat):Int) = 0 from rfl] at hm1 hm2
  rw [← hm1,← hmay] at hm2
  have hmaxs:maxL xs 0 = -1:=rfl
  have hlab:=labels_l0 xs hR xs.length k 0 (fun _=>false) (by omega) (by omega) (fun l a b ha=>by omega) (fun y=>⟨fun h=>(by cases h),fun ⟨j,hj,_⟩=>(by omega)⟩)
  rw [hmaxs] at hlab
  rcases hlab with ⟨hl1,hdup⟩|⟨s',hl1,hfree,hs'⟩
  ·have e1:asm_labels.f k xs = some (6,0):=by
    unfold asm_labels.f
    rw [hl1]
    rfl
   refine ⟨([],[],6),?_,?_,by simp,by simp⟩
   ·rw [e1];rfl
   ·refine ref0 6 (by decide) ?_
    rcases hm2 with ⟨h1,_⟩|⟨_,h2⟩
    ·exact h1
    ·exfalso
     apply hdup
     intro l x y hx hy hlx hly
     by_cases e:x = y
     ·exact e
     ·exfalso
      apply h2
      by_cases c:x < y
      ·exact ⟨y,x,Nat.zero_le _,hy,c,l,hly,hlx⟩
      ·exact ⟨x,y,Nat.zero_le _,hx,by omega,l,hlx,hly⟩
  ·rcases hm2 with ⟨_,x,c,_,hx,hc,l,hlx,hlc⟩|⟨hm3,_⟩
   ·exfalso
    have:=hfree l x c hx (by omega) hlx hlc
    omega
   rcases labels_l1 xs hR s' hs' xs.length k 0 (by omega) (by omega) with ⟨hq1,hmiss⟩|⟨hq1,hmiss⟩
   ·have e1:asm_labels.f k xs = some (4,(maxL xs xs.length + 1).toNat):=by
     unfold asm_labels.f
     rw [hl1,Option.bind_some]
     show (asm_labels.l1 k xs s' 0).map _ = _
     rw [hq1]
     rfl
    refine ⟨([],[],4),?_,?_,by simp,by simp⟩
    ·rw [e1];rfl
    ·refine ref0 4 (by decide) ?_
     rcases hm3 with ⟨h1,_⟩|⟨_,h2⟩
     ·exact h1
     ·exact absurd hmiss h2
   ·have e1:asm_labels.f k xs = some (0,(maxL xs xs.length + 1).toNat):=by
     unfold asm_labels.f
     rw [hl1,Option.bind_some]
     show (asm_labels.l1 k xs s' 0).map _ = _
     rw [hq1]
     rfl
    have hm4:rushlightref05_May.f k (xs.map refI) = some 0:=by
     rcases hm3 with ⟨_,h2⟩|⟨h1,_⟩
     ·exact absurd h2 hmiss
     ·exact h1
    have hO:=okay_of hsm hR hfree hmiss
    have hrep:∀ i,(List.replicate xs.length false).getD i false = true→(itemAt xs i).f0 = 3:=by
     intro i hi
     rw [List.getD_eq_getElem?_getD,List.getElem?_replicate] at hi
     split at hi <;> cases hi
    obtain ⟨t,ff,ht,hff,hfix,hg⟩:=grow_f hO xs.length k (List.replicate xs.length false) (List.replicate (xs.length + 1) 0) (List.replicate (maxL xs xs.length + 1).toNat (-1)) (by simp) (by simp) (by simp)
     (fun l hl _=>by rw [List.getD_eq_getElem?_getD,List.getElem?_replicate,if_pos hl];rfl) (by omega) (by omega)
    have hlenf:ff.length = xs.length:=by rw [hff];exact iterM_len xs t _ (by simp)
    have hF:Ended xs ff:=⟨hlenf,hfix,by rw [hff];exact iterM_br xs t _ hrep⟩
    have hall:iterM xs (xs.length + 1) (List.replicate xs.length false) = ff:=by
     rw [show xs.length + 1 = t + (xs.length + 1 - t) from by omega,iterM_add,← hff]
     exact iterM_fix xs ff hfix _
    have hA:=asm_l1_f hO hR hF xs.length k 0 (by omega) (by omega)
    have hB:=refA_l0 hO hR hw hF (by omega) 5000 rfl xs.length k 0 (by omega) (by omega)
    have hfar:=far_f hO hw k (by
     rw [Nat.succ_mul]
     omega)
    rw [hall] at hfar
    have hpl:=places_f xs hsm hw ff hlenf k (by omega)
    have hl0:labsR xs ff 0 = []:=rfl
    have ho0:outM xs ff 0 = []:=rfl
    rw [hl0,ho0,labsR_end,show ((0:Nat):Int) = 0 from rfl] at hB
    rw [ho0] at hA
    have hrefA:rushlightref05_Assemble.f k (xs.map refI) = rushlightref05_Assemble.l0 k (xs.map refI) ff (addrs xs ff) 0 [] [] 0:=by
     unfold rushlightref05_Assemble.f
     rw [hm4,Option.bind_some,if_pos rfl,hfar,Option.bind_some,hpl,Option.bind_some]
    rw [hrefA,e1,Option.bind_some]
    dsimp only
    rw [if_pos rfl,hg,Option.bind_some]
    dsimp only
    rcases hA with ⟨hA1,hA2⟩|⟨hA1,hA2⟩
    ·rcases hB with ⟨hB1,_⟩|⟨_,hB2⟩
     ·rw [hA1,hB1]
      have q1:=outM_len xs ff xs.length
      have q2:=maxL_lt xs hR xs.length (Nat.le_refl _)
      exact ⟨_,rfl,rfl,by dsimp only;omega,by dsimp only;rw [labsM_len];omega⟩
     ·exact absurd hA2 hB2
    ·rcases hB with ⟨_,hB2⟩|⟨hB1,_⟩
     ·exact absurd hB2 hA2
     ·rw [hA1,hB1]
      exact ⟨_,rfl,rfl,by simp,by simp⟩
 ·have hbf:¬ b = true:=fun h=>hR (fun j hj=>hb2.mp h j (Nat.zero_le _) hj)
  rcases hm0 with ⟨h1,_⟩|⟨_,h2⟩
  ·refine ⟨([],[],1),?_,ref0 1 (by decide) (hmay.trans h1),by simp,by simp⟩
   rw [asm0,if_neg hbf]
  ·exact absurd (fun j hj=>h2 j (Nat.zero_le _) hj) hR
end Go.Proofs.Ytecbponmpinnoaa.Pure
end
