/- A claim's text, put together by a program of this session (wip/tools/shake.py): the declarations that the claim needs. -/
import Derived.Test.YtecbponmpinnoaaMb0
import Derived.Test.YtecbponmpinnoaaMb1
import Derived.Test.YtecbponmpinnoaaMb2
import Derived.Test.YtecbponmpinnoaaMb3
import Derived.Test.YtecbponmpinnoaaMb4
import Derived.Test.YtecbponmpinnoaaMb5
import Derived.Test.YtecbponmpinnoaaMb6
import Derived.Test.YtecbponmpinnoaaMb7
import Derived.Test.YtecbponmpinnoaaMb8
import Derived.Test.YtecbponmpinnoaaProg
import Derived.Below
import Derived.Deep.Draws
import Derived.Deep.AppendLies
import Derived.Maps.AppendAt
import Derived.OwnWalk
import Derived.Laws.BytesArg
import Derived.Laws.MakeOwn
import Derived.Laws.OwnMore
import Derived.Deep.OwnRows
import Derived.Tactics
import Derived.Lib.ConvBytes
import Derived.Laws.Slices
import Derived.WalkKit
import Derived.KernelRfl
import Derived.RowKit3
import Derived.Deep.LoopGhost
import Derived.Deep.QuietTactic
import Derived.BigQuiet
import Derived.WideLaws
import Derived.Deep.DeepCutAuto
import Derived.Deep.CutBlock
import Derived.Deep.RegionHeld3
import Derived.Laws.Rows
import Derived.Lib.AppendStr
import Derived.ArgAppend
import Derived.Laws.IdiomCopy
import Derived.OrdersHeld
import Derived.Laws.BitsLemmas
import Derived.RowKit
import Derived.Deep.WholeRow
import Derived.Outline
import Derived.WalkMore
import Derived.ScopeJumps
import Derived.Deep.DeepFit
import Derived.Maps.OwnOps
import Derived.Maps.Views
import Derived.Carry
import Derived.WalkArith
import Derived.Laws.StructEq
namespace Go
theorem zmb9_0 {p:Prop} (h:p:=by first|rfl|(simp;done)|(simp [*];done)):p:=h
theorem zmb9_1 {p:Prop} (h:p:=by first|omega|exact Nat.le_refl _):p:=h
theorem zmb9_2 {p:Prop} (h:p:=by repeat (first|exact Drawn0.refl _|apply Drawn0.step)):p:=h
theorem zmb9_3 {p:Prop} (h:p:=by have:=HJ1.out;have:=HJ6.out;have:=HJ9.out;first|omega|exact Nat.le_refl _):p:=h
theorem zmb9_4 {p:Prop} (h:p:=by first|(with_reducible assumption)|assumption):p:=h
theorem zmb9_5 {p:Prop} (h:p:=by (try simp only [List.map_toArray,List.map_cons,List.map_nil]);first|done|rfl|(simp only [List.length_drop,List.length_take];rfl)):p:=h
theorem zmb9_6 {p:Prop} (h:p:=by repeat (first|(with_reducible first|exact HB.out|apply below_alloc|apply pw_below_drewN|apply below_drew1)|exact HB.out)):p:=h
theorem zmb9_7 {p:Prop} (h:p:=by first|rfl|(simp [errW_none,errW_some] <;> rfl)|(simp [*,errW_none,errW_some] <;> rfl)):p:=h
theorem zmb9_8 {p:Prop} (h:p:=by repeat (first|(with_reducible first|exact HB.out|apply below_alloc|apply pw_below_drewN|apply below_drew1|refine below_set ?_ GE266.out)|exact HB.out)):p:=h
theorem zmb9_9 {p:Prop} (h:p:=by (with_reducible repeat (first|apply Kd.R_alloc|apply Kd.R_drewN|apply Kd.R_drew));exact HO_5.out):p:=h
theorem zmb9_10 {p:Prop} (h:p:=by (with_reducible repeat (first|apply Kd.R_alloc|apply Kd.R_drewN|apply Kd.R_drew));exact HO272.out):p:=h
theorem zmb9_11 {p:Prop} (h:p:=by (with_reducible repeat (first|apply Kd.R_alloc|apply Kd.R_drewN|apply Kd.R_drew));exact HO_3.out):p:=h
theorem zmb9_12 {p:Prop} (h:p:=by (with_reducible repeat (first|apply Kd.R_alloc|apply Kd.R_drewN|apply Kd.R_drew));exact HO284.out):p:=h
theorem zmb9_13 {p:Prop} (h:p:=by (with_reducible repeat (first|apply Kd.R_alloc|apply Kd.R_drewN|apply Kd.R_drew));exact Kd.R_mono HO_3.out (fun _ hk=>hk.2)):p:=h
theorem zmb9_14 {p:Prop} (h:p:=by rw [hw,Ny289.out];first|exact HP27.1|(rw [← Nbq24.out];exact HP27.1) ):p:=h
theorem zmb9_15 {p:Prop} (h:p:=by (with_reducible repeat (first|apply Kd.R_alloc|apply Kd.R_drewN|apply Kd.R_drew));exact Kd.R_mono HO_3.out (fun _ hk=>⟨trivial,hk⟩)):p:=h
theorem zmb9_16 {p:Prop} (h:p:=by injection e291):p:=h
theorem zmb9_17 {p:Prop} (h:p:=by injection e294):p:=h
theorem zmb9_18 {p:Prop} (h:p:=by injection e295):p:=h
theorem zmb9_19 {p:Prop} (h:p:=by rw [hw,Ny296.out];first|exact HP30.1|(rw [← Nbq24.out];exact HP30.1) ):p:=h
theorem zmb9_20 {p:Prop} (h:p:=by have:=HK1.out;have:=HK2.out;omega):p:=h
theorem zmb9_21 {p:Prop} (h:p:=by (with_reducible repeat (first|apply Kd.R_alloc|apply Kd.R_drewN|apply Kd.R_drew));exact HO_6.out):p:=h
theorem zmb9_22 {p:Prop} (h:p:=by rw [hw,Ny289.out];first|exact HP34.1|(rw [← Nbq24.out];exact HP34.1) ):p:=h
theorem zmb9_23 {p:Prop} (h:p:=by rw [hw,Ny297.out];first|exact HP37.1|(rw [← Nbq24.out];exact HP37.1) ):p:=h
theorem zmb9_24 {p:Prop} (h:p:=by rw [hw,Ny289.out];first|exact HP40.1|(rw [← Nbq24.out];exact HP40.1) ):p:=h
theorem zmb9_25 {p:Prop} (h:p:=by rw [hw,Ny298.out];first|exact HP43.1|(rw [← Nbq24.out];exact HP43.1) ):p:=h
theorem zmb9_26 {p:Prop} (h:p:=by rw [hw,Ny289.out];first|exact HP45.1|(rw [← Nbq24.out];exact HP45.1) ):p:=h
end Go
set_option linter.unusedVariables false
set_option linter.unusedSimpArgs false
section
namespace Go.Proofs.Ytecbponmpinnoaa.P
open Go.RowKit Go.Proofs.YtecbponmpinnoaaW.PrintWords Go.Proofs.YtecbponmpinnoaaW.PrintLast Go.Proofs.YtecbponmpinnoaaW.PrintMore
attribute [local go_sem] max2_int min2_int max_two min_two max_three min_three max_four min_four   
set_option linter.unusedVariables false
set_option linter.unusedSimpArgs false
mutual
def rushlightref02_Form.j0:Nat→Int→Bool→Option (Int)
 | 0,_,_=>none
 | k + 1,x0,x8=>if x8 = true then (some 0) else (if x0≤2 then (some 85) else (if x0 = 3 then (some 74) else (if x0 ≥ 5 then (rushlightref02_Form.j1 k x0 (decide (x0≤10))) else (rushlightref02_Form.j1 k x0 false))))
def rushlightref02_Form.j1:Nat→Int→Bool→Option (Int)
 | 0,_,_=>none
 | k + 1,x0,x18=>if x18 = true then (some 66) else (if x0 ≥ 16 then (rushlightref02_Form.j2 k x0 (decide (x0≤18))) else (rushlightref02_Form.j2 k x0 false))
def rushlightref02_Form.j2:Nat→Int→Bool→Option (Int)
 | 0,_,_=>none
 | k + 1,x0,x24=>if x24 = true then (some 83) else (if x0 ≥ 25 then (rushlightref02_Form.j3 k x0 (decide (x0≤27))) else (rushlightref02_Form.j3 k x0 false))
def rushlightref02_Form.j3:Nat→Int→Bool→Option (Int)
 | 0,_,_=>none
 | k + 1,x0,x30=>if x30 = true then (some 72) else (if x0 ≥ 28 then (some 82) else (some 73))
end
def rushlightref02_Form.f (k:Nat) (a0:Int):Option (Int):=if a0 < 1 then (rushlightref02_Form.j0 k a0 true) else (rushlightref02_Form.j0 k a0 (decide (a0 > 45)))
theorem rushlightref02_Form.mono_l:∀ k,(∀ y0 y1,LeO (rushlightref02_Form.j0 k y0 y1) (rushlightref02_Form.j0 (k + 1) y0 y1))∧(∀ y0 y1,LeO (rushlightref02_Form.j1 k y0 y1) (rushlightref02_Form.j1 (k + 1) y0 y1))∧(∀ y0 y1,LeO (rushlightref02_Form.j2 k y0 y1) (rushlightref02_Form.j2 (k + 1) y0 y1))∧(∀ y0 y1,LeO (rushlightref02_Form.j3 k y0 y1) (rushlightref02_Form.j3 (k + 1) y0 y1))
 | 0=>⟨fun _ _ r h=>by simp [rushlightref02_Form.j0] at h,fun _ _ r h=>by simp [rushlightref02_Form.j1] at h,fun _ _ r h=>by simp [rushlightref02_Form.j2] at h,fun _ _ r h=>by simp [rushlightref02_Form.j3] at h⟩
 | k + 1=>by
  obtain ⟨ih0,ih1,ih2,ih3⟩:=rushlightref02_Form.mono_l k
  refine ⟨?_,?_,?_,?_⟩
  ·intro y0 y1
   unfold rushlightref02_Form.j0
   repeat' first
   | (with_reducible exact ih0 _ _)
   | (with_reducible exact ih1 _ _)
   | (with_reducible exact ih2 _ _)
   | (with_reducible exact ih3 _ _)
   | (with_reducible exact LeO.refl _)
   | (with_reducible exact LeO.none _)
   | (with_reducible refine LeO.ite ?_ ?_)
   | (with_reducible refine LeO.bind ?_ (fun _=>?_))
   | exact ih0 _ _
   | exact ih1 _ _
   | exact ih2 _ _
   | exact ih3 _ _
   | exact LeO.none _
   | refine LeO.ite ?_ ?_
   | refine LeO.bind ?_ (fun _=>?_)
  ·intro y0 y1
   unfold rushlightref02_Form.j1
   repeat' first
   | (with_reducible exact ih0 _ _)
   | (with_reducible exact ih1 _ _)
   | (with_reducible exact ih2 _ _)
   | (with_reducible exact ih3 _ _)
   | (with_reducible exact LeO.refl _)
   | (with_reducible exact LeO.none _)
   | (with_reducible refine LeO.ite ?_ ?_)
   | (with_reducible refine LeO.bind ?_ (fun _=>?_))
   | exact ih0 _ _
   | exact ih1 _ _
   | exact ih2 _ _
   | exact ih3 _ _
   | exact LeO.none _
   | refine LeO.ite ?_ ?_
   | refine LeO.bind ?_ (fun _=>?_)
  ·intro y0 y1
   unfold rushlightref02_Form.j2
   repeat' first
   | (with_reducible exact ih0 _ _)
   | (with_reducible exact ih1 _ _)
   | (with_reducible exact ih2 _ _)
   | (with_reducible exact ih3 _ _)
   | (with_reducible exact LeO.refl _)
   | (with_reducible exact LeO.none _)
   | (with_reducible refine LeO.ite ?_ ?_)
   | (with_reducible refine LeO.bind ?_ (fun _=>?_))
   | exact ih0 _ _
   | exact ih1 _ _
   | exact ih2 _ _
   | exact ih3 _ _
   | exact LeO.none _
   | refine LeO.ite ?_ ?_
   | refine LeO.bind ?_ (fun _=>?_)
  ·intro y0 y1
   unfold rushlightref02_Form.j3
   repeat' first
   | (with_reducible exact ih0 _ _)
   | (with_reducible exact ih1 _ _)
   | (with_reducible exact ih2 _ _)
   | (with_reducible exact ih3 _ _)
   | (with_reducible exact LeO.refl _)
   | (with_reducible exact LeO.none _)
   | (with_reducible refine LeO.ite ?_ ?_)
   | (with_reducible refine LeO.bind ?_ (fun _=>?_))
   | exact ih0 _ _
   | exact ih1 _ _
   | exact ih2 _ _
   | exact ih3 _ _
   | exact LeO.none _
   | refine LeO.ite ?_ ?_
   | refine LeO.bind ?_ (fun _=>?_)
theorem rushlightref02_Form.mono:∀ a0 k,LeO (rushlightref02_Form.f k a0) (rushlightref02_Form.f (k + 1) a0):=by
 intro a0 k
 obtain ⟨ih0,ih1,ih2,ih3⟩:=rushlightref02_Form.mono_l k
 unfold rushlightref02_Form.f
 repeat' first
   | (with_reducible exact ih0 _ _)
   | (with_reducible exact ih1 _ _)
   | (with_reducible exact ih2 _ _)
   | (with_reducible exact ih3 _ _)
   | (with_reducible exact LeO.refl _)
   | (with_reducible exact LeO.none _)
   | (with_reducible refine LeO.ite ?_ ?_)
   | (with_reducible refine LeO.bind ?_ (fun _=>?_))
   | exact ih0 _ _
   | exact ih1 _ _
   | exact ih2 _ _
   | exact ih3 _ _
   | exact LeO.none _
   | refine LeO.ite ?_ ?_
   | refine LeO.bind ?_ (fun _=>?_)
set_option maxHeartbeats 8000000 in
set_option maxRecDepth 100000 in
theorem rushlightref02_Form.calls (k:Nat) (a0:Int) (r:Int) (w:World) (h:rushlightref02_Form.f k a0 = some r) :
  Calls Try.prog 52 #[.int .i64 a0] w fun e w'=>e = .returned (.int .u8 r)∧Drawn0 w w':=by
 have H:(if a0 < 1 then (rushlightref02_Form.j0 k a0 true) else (rushlightref02_Form.j0 k a0 (decide (a0 > 45)))) = some r:=h
 clear h
 have HC2:=Aside0.mk H
 clear H
 go_enter Try.func52,Try.ntmps52
 go_upto_region 1 with (fail)
 go_cut [8] (fun v8 wc=>∃ (kq:Nat) (x8_1:Bool),v8 = .bool x8_1∧Aside0 (rushlightref02_Form.j0 kq a0 x8_1 = some r)∧Aside0 (kq≤k)∧Drawn0 w wc)
 case first =>
  have H:=HC2.out
  clear HC2
  by_cases c3:a0 < 1
  ·rw [if_pos c3] at H
   have c3b0:decide (a0 < 1) = true:=decide_eq_true c3
   clear c3
   (first|rw [c3b0]|(simp only [i64_w,i32_w];rw [c3b0])|skip)
   have H':=Aside0.mk H
   clear H
   go_wp2
   go_meet
   case rel=>exact ⟨_,(true),zmb9_0,H',⟨zmb9_1⟩,zmb9_2⟩
  ·rw [if_neg c3] at H
   have c3b0:decide (a0 < 1) = false:=decide_eq_false c3
   clear c3
   (first|rw [c3b0]|(simp only [i64_w,i32_w];rw [c3b0])|skip)
   have H':=Aside0.mk H
   clear H
   go_wp2
   go_meet
   case rel=>exact ⟨_,(decide (a0 > 45)),zmb9_0,H',⟨zmb9_1⟩,zmb9_2⟩
 case rest =>
  clear HC2
  try clear p2
  try clear c3
  try clear c3b0
  obtain ⟨kq,x8_1,rfl,HA,HJ1,⟨mc1,rfl⟩⟩:=hcut
  cases kq with
  | zero=>exact absurd HA.out (by simp [rushlightref02_Form.j0])
  | succ kj1 =>
   have H:=HA.out
   clear HA
   simp only [rushlightref02_Form.j0] at H
   by_cases c4:x8_1 = true
   ·subst c4
    have H1:(some 0) = some r:=by rw [if_pos rfl] at H;exact H
    clear H
    have H:=H1
    clear H1
    obtain rfl:=Option.some.inj H
    go_wp2
    go_ret
    exact ⟨zmb9_0,zmb9_2⟩
   ·replace c4:=Bool.eq_false_iff.mpr c4
    subst c4
    have H1:(if a0≤2 then (some 85) else (if a0 = 3 then (some 74) else (if a0 ≥ 5 then (rushlightref02_Form.j1 kj1 a0 (decide (a0≤10))) else (rushlightref02_Form.j1 kj1 a0 false)))) = some r:=by rw [if_neg (show ¬ (false = true) by decide)] at H;exact H
    clear H
    have H:=H1
    clear H1
    by_cases c5:a0≤2
    ·rw [if_pos c5] at H
     have c5b0:decide (a0≤2) = true:=decide_eq_true c5
     clear c5
     obtain rfl:=Option.some.inj H
     go_wp2
     go_ret
     exact ⟨zmb9_0,zmb9_2⟩
    ·rw [if_neg c5] at H
     have c5b0:decide (a0≤2) = false:=decide_eq_false c5
     clear c5
     by_cases c6:a0 = 3
     ·rw [if_pos c6] at H
      have c6b0:(a0 == 3) = true:=beq_iff_eq.mpr c6
      have c6b1:(a0 != 3) = false:=bne_eq_false_iff_eq.mpr c6
      clear c6
      obtain rfl:=Option.some.inj H
      go_wp2
      go_ret
      exact ⟨zmb9_0,zmb9_2⟩
     ·rw [if_neg c6] at H
      have c6b0:(a0 == 3) = false:=beq_eq_false_iff_ne.mpr c6
      have c6b1:(a0 != 3) = true:=bne_iff_ne.mpr c6
      have HC7:=Aside0.mk H
      clear H
      go_upto_region 7 with (fail)
      go_cut [18] (fun v18 wc=>∃ (kq:Nat) (x18_6:Bool),v18 = .bool x18_6∧Aside0 (rushlightref02_Form.j1 kq a0 x18_6 = some r)∧Aside0 (kq≤kj1)∧Drawn0 w wc)
      case first =>
       have H:=HC7.out
       clear HC7
       by_cases c8:a0 ≥ 5
       ·rw [if_pos c8] at H
        have c8b0:decide (5≤a0) = true:=decide_eq_true c8
        clear c8
        (first|rw [c8b0]|(simp only [i64_w,i32_w];rw [c8b0])|skip)
        have H':=Aside0.mk H
        clear H
        go_wp2
        go_meet
        case rel=>exact ⟨_,(decide (a0≤10)),zmb9_0,H',⟨by have:=HJ1.out;first|omega|exact Nat.le_refl _⟩,zmb9_2⟩
       ·rw [if_neg c8] at H
        have c8b0:decide (5≤a0) = false:=decide_eq_false c8
        clear c8
        (first|rw [c8b0]|(simp only [i64_w,i32_w];rw [c8b0])|skip)
        have H':=Aside0.mk H
        clear H
        go_wp2
        go_meet
        case rel=>exact ⟨_,(false),zmb9_0,H',⟨by have:=HJ1.out;first|omega|exact Nat.le_refl _⟩,zmb9_2⟩
      case rest =>
       clear HC7
       try clear c1
       try clear p2
       try clear c3
       try clear c3b0
       try clear c4
       try clear c5
       try clear c5b0
       try clear c6
       try clear c6b0
       try clear c6b1
       try clear c8
       try clear c8b0
       try clear p2
       obtain ⟨kq,x18_6,rfl,HA,HJ6,⟨mc6,rfl⟩⟩:=hcut
       cases kq with
       | zero=>exact absurd HA.out (by simp [rushlightref02_Form.j1])
       | succ kj6 =>
        have H:=HA.out
        clear HA
        simp only [rushlightref02_Form.j1] at H
        by_cases c9:x18_6 = true
        ·subst c9
         have H1:(some 66) = some r:=by rw [if_pos rfl] at H;exact H
         clear H
         have H:=H1
         clear H1
         obtain rfl:=Option.some.inj H
         go_wp2
         go_ret
         exact ⟨zmb9_0,zmb9_2⟩
        ·replace c9:=Bool.eq_false_iff.mpr c9
         subst c9
         have H1:(if a0 ≥ 16 then (rushlightref02_Form.j2 kj6 a0 (decide (a0≤18))) else (rushlightref02_Form.j2 kj6 a0 false)) = some r:=by rw [if_neg (show ¬ (false = true) by decide)] at H;exact H
         clear H
         have H:=H1
         clear H1
         have HC10:=Aside0.mk H
         clear H
         go_upto_region 9 with (fail)
         go_cut [24] (fun v24 wc=>∃ (kq:Nat) (x24_9:Bool),v24 = .bool x24_9∧Aside0 (rushlightref02_Form.j2 kq a0 x24_9 = some r)∧Aside0 (kq≤kj6)∧Drawn0 w wc)
         case first =>
          have H:=HC10.out
          clear HC10
          by_cases c11:a0 ≥ 16
          ·rw [if_pos c11] at H
           have c11b0:decide (16≤a0) = true:=decide_eq_true c11
           clear c11
           (first|rw [c11b0]|(simp only [i64_w,i32_w];rw [c11b0])|skip)
           have H':=Aside0.mk H
           clear H
           go_wp2
           go_meet
           case rel=>exact ⟨_,(decide (a0≤18)),zmb9_0,H',⟨by have:=HJ1.out;have:=HJ6.out;first|omega|exact Nat.le_refl _⟩,zmb9_2⟩
          ·rw [if_neg c11] at H
           have c11b0:decide (16≤a0) = false:=decide_eq_false c11
           clear c11
           (first|rw [c11b0]|(simp only [i64_w,i32_w];rw [c11b0])|skip)
           have H':=Aside0.mk H
           clear H
           go_wp2
           go_meet
           case rel=>exact ⟨_,(false),zmb9_0,H',⟨by have:=HJ1.out;have:=HJ6.out;first|omega|exact Nat.le_refl _⟩,zmb9_2⟩
         case rest =>
          clear HC10
          try clear c1
          try clear p2
          try clear c3
          try clear c3b0
          try clear c4
          try clear c5
          try clear c5b0
          try clear c6
          try clear c6b0
          try clear c6b1
          try clear c8
          try clear c8b0
          try clear c9
          try clear c11
          try clear c11b0
          try clear p2
          obtain ⟨kq,x24_9,rfl,HA,HJ9,⟨mc9,rfl⟩⟩:=hcut
          cases kq with
          | zero=>exact absurd HA.out (by simp [rushlightref02_Form.j2])
          | succ kj9 =>
           have H:=HA.out
           clear HA
           simp only [rushlightref02_Form.j2] at H
           by_cases c12:x24_9 = true
           ·subst c12
            have H1:(some 83) = some r:=by rw [if_pos rfl] at H;exact H
            clear H
            have H:=H1
            clear H1
            obtain rfl:=Option.some.inj H
            go_wp2
            go_ret
            exact ⟨zmb9_0,zmb9_2⟩
           ·replace c12:=Bool.eq_false_iff.mpr c12
            subst c12
            have H1:(if a0 ≥ 25 then (rushlightref02_Form.j3 kj9 a0 (decide (a0≤27))) else (rushlightref02_Form.j3 kj9 a0 false)) = some r:=by rw [if_neg (show ¬ (false = true) by decide)] at H;exact H
            clear H
            have H:=H1
            clear H1
            have HC13:=Aside0.mk H
            clear H
            go_upto_region 11 with (fail)
            go_cut [30] (fun v30 wc=>∃ (kq:Nat) (x30_12:Bool),v30 = .bool x30_12∧Aside0 (rushlightref02_Form.j3 kq a0 x30_12 = some r)∧Aside0 (kq≤kj9)∧Drawn0 w wc)
            case first =>
             have H:=HC13.out
             clear HC13
             by_cases c14:a0 ≥ 25
             ·rw [if_pos c14] at H
              have c14b0:decide (25≤a0) = true:=decide_eq_true c14
              clear c14
              (first|rw [c14b0]|(simp only [i64_w,i32_w];rw [c14b0])|skip)
              have H':=Aside0.mk H
              clear H
              go_wp2
              go_meet
              case rel=>exact ⟨_,(decide (a0≤27)),zmb9_0,H',⟨zmb9_3⟩,zmb9_2⟩
             ·rw [if_neg c14] at H
              have c14b0:decide (25≤a0) = false:=decide_eq_false c14
              clear c14
              (first|rw [c14b0]|(simp only [i64_w,i32_w];rw [c14b0])|skip)
              have H':=Aside0.mk H
              clear H
              go_wp2
              go_meet
              case rel=>exact ⟨_,(false),zmb9_0,H',⟨zmb9_3⟩,zmb9_2⟩
            case rest =>
             clear HC13
             try clear c1
             try clear p2
             try clear c3
             try clear c3b0
             try clear c4
             try clear c5
             try clear c5b0
             try clear c6
             try clear c6b0
             try clear c6b1
             try clear c8
             try clear c8b0
             try clear c9
             try clear c11
             try clear c11b0
             try clear c12
             try clear c14
             try clear c14b0
             try clear p2
             obtain ⟨kq,x30_12,rfl,HA,HJ12,⟨mc12,rfl⟩⟩:=hcut
             cases kq with
             | zero=>exact absurd HA.out (by simp [rushlightref02_Form.j3])
             | succ kj12 =>
              have H:=HA.out
              clear HA
              simp only [rushlightref02_Form.j3] at H
              by_cases c15:x30_12 = true
              ·subst c15
               have H1:(some 72) = some r:=by rw [if_pos rfl] at H;exact H
               clear H
               have H:=H1
               clear H1
               obtain rfl:=Option.some.inj H
               go_wp2
               go_ret
               exact ⟨zmb9_0,zmb9_2⟩
              ·replace c15:=Bool.eq_false_iff.mpr c15
               subst c15
               have H1:(if a0 ≥ 28 then (some 82) else (some 73)) = some r:=by rw [if_neg (show ¬ (false = true) by decide)] at H;exact H
               clear H
               have H:=H1
               clear H1
               by_cases c16:a0 ≥ 28
               ·rw [if_pos c16] at H
                have c16b0:decide (28≤a0) = true:=decide_eq_true c16
                clear c16
                obtain rfl:=Option.some.inj H
                go_wp2
                go_ret
                exact ⟨zmb9_0,zmb9_2⟩
               ·rw [if_neg c16] at H
                have c16b0:decide (28≤a0) = false:=decide_eq_false c16
                clear c16
                obtain rfl:=Option.some.inj H
                go_wp2
                go_ret
                exact ⟨zmb9_0,zmb9_2⟩
def rushlightref02_reg.f (a0:Int) (a1:Bool):Option (Bool):=if a1 = true then (if a0 ≥ 0 then (some (decide (a0≤31))) else (some false)) else (some (a0 == 0))
set_option maxHeartbeats 8000000 in
set_option maxRecDepth 100000 in
theorem rushlightref02_reg.calls (a0:Int) (a1:Bool) (r:Bool) (w:World) (h:rushlightref02_reg.f a0 a1 = some r) :
  Calls Try.prog 61 #[.int .i64 a0,.bool a1] w fun e w'=>e = .returned (.bool r)∧Drawn0 w w':=by
 have H:(if a1 = true then (if a0 ≥ 0 then (some (decide (a0≤31))) else (some false)) else (some (a0 == 0))) = some r:=h
 clear h
 by_cases c3:a1 = true
 ·subst c3
  have H1:(if a0 ≥ 0 then (some (decide (a0≤31))) else (some false)) = some r:=by rw [if_pos rfl] at H;exact H
  clear H
  have H:=H1
  clear H1
  by_cases c4:a0 ≥ 0
  ·rw [if_pos c4] at H
   have c4b0:decide (0≤a0) = true:=decide_eq_true c4
   clear c4
   obtain rfl:=Option.some.inj H
   go_enter Try.func61,Try.ntmps61
   go_wp2
   go_ret
   exact ⟨zmb9_0,zmb9_2⟩
  ·rw [if_neg c4] at H
   have c4b0:decide (0≤a0) = false:=decide_eq_false c4
   clear c4
   obtain rfl:=Option.some.inj H
   go_enter Try.func61,Try.ntmps61
   go_wp2
   go_ret
   exact ⟨zmb9_0,zmb9_2⟩
 ·replace c3:=Bool.eq_false_iff.mpr c3
  subst c3
  have H1:(some (a0 == 0)) = some r:=by rw [if_neg (show ¬ (false = true) by decide)] at H;exact H
  clear H
  have H:=H1
  clear H1
  obtain rfl:=Option.some.inj H
  go_enter Try.func61,Try.ntmps61
  go_wp2
  go_ret
  exact ⟨zmb9_0,zmb9_2⟩
def rushlightref02_has.f (a0:Int) (a1:Int):Option (Bool):=if a1 = 1 then (if a0 = 83 then (some false) else (some (a0 != 66))) else (if a1 = 2 then (if a0 = 85 then (some false) else (some (a0 != 74))) else (if a0 = 83 then (some true) else (if a0 = 66 then (some true) else (some (a0 == 82)))))
set_option maxHeartbeats 8000000 in
set_option maxRecDepth 100000 in
theorem rushlightref02_has.calls (a0:Int) (a1:Int) (r:Bool) (w:World) (h:rushlightref02_has.f a0 a1 = some r) :
  Calls Try.prog 62 #[.int .u8 a0,.int .i64 a1] w fun e w'=>e = .returned (.bool r)∧Drawn0 w w':=by
 have H:(if a1 = 1 then (if a0 = 83 then (some false) else (some (a0 != 66))) else (if a1 = 2 then (if a0 = 85 then (some false) else (some (a0 != 74))) else (if a0 = 83 then (some true) else (if a0 = 66 then (some true) else (some (a0 == 82)))))) = some r:=h
 clear h
 by_cases c3:a1 = 1
 ·rw [if_pos c3] at H
  have c3b0:(a1 == 1) = true:=beq_iff_eq.mpr c3
  have c3b1:(a1 != 1) = false:=bne_eq_false_iff_eq.mpr c3
  clear c3
  by_cases c4:a0 = 83
  ·rw [if_pos c4] at H
   have c4b0:(a0 == 83) = true:=beq_iff_eq.mpr c4
   have c4b1:(a0 != 83) = false:=bne_eq_false_iff_eq.mpr c4
   clear c4
   obtain rfl:=Option.some.inj H
   go_enter Try.func62,Try.ntmps62
   go_wp2
   go_ret
   exact ⟨zmb9_0,zmb9_2⟩
  ·rw [if_neg c4] at H
   have c4b0:(a0 == 83) = false:=beq_eq_false_iff_ne.mpr c4
   have c4b1:(a0 != 83) = true:=bne_iff_ne.mpr c4
   obtain rfl:=Option.some.inj H
   go_enter Try.func62,Try.ntmps62
   go_wp2
   go_ret
   exact ⟨zmb9_0,zmb9_2⟩
 ·rw [if_neg c3] at H
  have c3b0:(a1 == 1) = false:=beq_eq_false_iff_ne.mpr c3
  have c3b1:(a1 != 1) = true:=bne_iff_ne.mpr c3
  by_cases c5:a1 = 2
  ·rw [if_pos c5] at H
   have c5b0:(a1 == 2) = true:=beq_iff_eq.mpr c5
   have c5b1:(a1 != 2) = false:=bne_eq_false_iff_eq.mpr c5
   clear c5
   by_cases c6:a0 = 85
   ·rw [if_pos c6] at H
    have c6b0:(a0 == 85) = true:=beq_iff_eq.mpr c6
    have c6b1:(a0 != 85) = false:=bne_eq_false_iff_eq.mpr c6
    clear c6
    obtain rfl:=Option.some.inj H
    go_enter Try.func62,Try.ntmps62
    go_wp2
    go_ret
    exact ⟨zmb9_0,zmb9_2⟩
   ·rw [if_neg c6] at H
    have c6b0:(a0 == 85) = false:=beq_eq_false_iff_ne.mpr c6
    have c6b1:(a0 != 85) = true:=bne_iff_ne.mpr c6
    obtain rfl:=Option.some.inj H
    go_enter Try.func62,Try.ntmps62
    go_wp2
    go_ret
    exact ⟨zmb9_0,zmb9_2⟩
  ·rw [if_neg c5] at H
   have c5b0:(a1 == 2) = false:=beq_eq_false_iff_ne.mpr c5
   have c5b1:(a1 != 2) = true:=bne_iff_ne.mpr c5
   by_cases c7:a0 = 83
   ·rw [if_pos c7] at H
    have c7b0:(a0 == 83) = true:=beq_iff_eq.mpr c7
    have c7b1:(a0 != 83) = false:=bne_eq_false_iff_eq.mpr c7
    clear c7
    obtain rfl:=Option.some.inj H
    go_enter Try.func62,Try.ntmps62
    go_wp2
    go_ret
    exact ⟨zmb9_0,zmb9_2⟩
   ·rw [if_neg c7] at H
    have c7b0:(a0 == 83) = false:=beq_eq_false_iff_ne.mpr c7
    have c7b1:(a0 != 83) = true:=bne_iff_ne.mpr c7
    by_cases c8:a0 = 66
    ·rw [if_pos c8] at H
     have c8b0:(a0 == 66) = true:=beq_iff_eq.mpr c8
     have c8b1:(a0 != 66) = false:=bne_eq_false_iff_eq.mpr c8
     clear c8
     obtain rfl:=Option.some.inj H
     go_enter Try.func62,Try.ntmps62
     go_wp2
     go_ret
     exact ⟨zmb9_0,zmb9_2⟩
    ·rw [if_neg c8] at H
     have c8b0:(a0 == 66) = false:=beq_eq_false_iff_ne.mpr c8
     have c8b1:(a0 != 66) = true:=bne_iff_ne.mpr c8
     obtain rfl:=Option.some.inj H
     go_enter Try.func62,Try.ntmps62
     go_wp2
     go_ret
     exact ⟨zmb9_0,zmb9_2⟩
def rushlightref02_room.j0:Nat→Int→Int→Bool→Option (Bool)
 | 0,_,_,_=>none
 | k + 1,x0,x1,x36=>if x36 = true then (if x1 ≥ (-2048) then (some (decide (x1≤2047))) else (some false)) else (if x0 = 72 then (if x1 ≥ 0 then (some (decide (x1≤31))) else (some false)) else (if x0 = 66 then (if x1 ≥ (-4096) then (if x1≤4094 then (some ((Int.tmod x1 2) == 0)) else (some false)) else (some false)) else (some (x1 == 0))))
def rushlightref02_room.f (k:Nat) (a0:Int) (a1:Int):Option (Bool):=if a0 = 85 then (if a1 ≥ (-2147483648) then (if a1≤2147479552 then (some ((Int.tmod a1 4096) == 0)) else (some false)) else (some false)) else (if a0 = 74 then (if a1 ≥ (-1048576) then (if a1≤1048574 then (some ((Int.tmod a1 2) == 0)) else (some false)) else (some false)) else (if a0 = 73 then (rushlightref02_room.j0 k a0 a1 true) else (rushlightref02_room.j0 k a0 a1 (a0 == 83))))
set_option maxHeartbeats 8000000 in
set_option maxRecDepth 100000 in
theorem rushlightref02_room.calls (k:Nat) (a0:Int) (a1:Int) (r:Bool) (w:World) (h:rushlightref02_room.f k a0 a1 = some r) :
  Calls Try.prog 63 #[.int .u8 a0,.int .i64 a1] w fun e w'=>e = .returned (.bool r)∧Drawn0 w w':=by
 have H:(if a0 = 85 then (if a1 ≥ (-2147483648) then (if a1≤2147479552 then (some ((Int.tmod a1 4096) == 0)) else (some false)) else (some false)) else (if a0 = 74 then (if a1 ≥ (-1048576) then (if a1≤1048574 then (some ((Int.tmod a1 2) == 0)) else (some false)) else (some false)) else (if a0 = 73 then (rushlightref02_room.j0 k a0 a1 true) else (rushlightref02_room.j0 k a0 a1 (a0 == 83))))) = some r:=h
 clear h
 by_cases c3:a0 = 85
 ·rw [if_pos c3] at H
  have c3b0:(a0 == 85) = true:=beq_iff_eq.mpr c3
  have c3b1:(a0 != 85) = false:=bne_eq_false_iff_eq.mpr c3
  clear c3
  by_cases c4:a1 ≥ (-2147483648)
  ·rw [if_pos c4] at H
   have c4b0:decide ((-2147483648)≤a1) = true:=decide_eq_true c4
   clear c4
   by_cases c5:a1≤2147479552
   ·rw [if_pos c5] at H
    have c5b0:decide (a1≤2147479552) = true:=decide_eq_true c5
    clear c5
    obtain rfl:=Option.some.inj H
    go_enter Try.func63,Try.ntmps63
    go_wp2
    go_ret
    exact ⟨zmb9_0,zmb9_2⟩
   ·rw [if_neg c5] at H
    have c5b0:decide (a1≤2147479552) = false:=decide_eq_false c5
    clear c5
    obtain rfl:=Option.some.inj H
    go_enter Try.func63,Try.ntmps63
    go_wp2
    go_ret
    exact ⟨zmb9_0,zmb9_2⟩
  ·rw [if_neg c4] at H
   have c4b0:decide ((-2147483648)≤a1) = false:=decide_eq_false c4
   clear c4
   obtain rfl:=Option.some.inj H
   go_enter Try.func63,Try.ntmps63
   go_wp2
   go_ret
   exact ⟨zmb9_0,zmb9_2⟩
 ·rw [if_neg c3] at H
  have c3b0:(a0 == 85) = false:=beq_eq_false_iff_ne.mpr c3
  have c3b1:(a0 != 85) = true:=bne_iff_ne.mpr c3
  by_cases c6:a0 = 74
  ·rw [if_pos c6] at H
   have c6b0:(a0 == 74) = true:=beq_iff_eq.mpr c6
   have c6b1:(a0 != 74) = false:=bne_eq_false_iff_eq.mpr c6
   clear c6
   by_cases c7:a1 ≥ (-1048576)
   ·rw [if_pos c7] at H
    have c7b0:decide ((-1048576)≤a1) = true:=decide_eq_true c7
    clear c7
    by_cases c8:a1≤1048574
    ·rw [if_pos c8] at H
     have c8b0:decide (a1≤1048574) = true:=decide_eq_true c8
     clear c8
     obtain rfl:=Option.some.inj H
     go_enter Try.func63,Try.ntmps63
     go_wp2
     go_ret
     exact ⟨zmb9_0,zmb9_2⟩
    ·rw [if_neg c8] at H
     have c8b0:decide (a1≤1048574) = false:=decide_eq_false c8
     clear c8
     obtain rfl:=Option.some.inj H
     go_enter Try.func63,Try.ntmps63
     go_wp2
     go_ret
     exact ⟨zmb9_0,zmb9_2⟩
   ·rw [if_neg c7] at H
    have c7b0:decide ((-1048576)≤a1) = false:=decide_eq_false c7
    clear c7
    obtain rfl:=Option.some.inj H
    go_enter Try.func63,Try.ntmps63
    go_wp2
    go_ret
    exact ⟨zmb9_0,zmb9_2⟩
  ·rw [if_neg c6] at H
   have c6b0:(a0 == 74) = false:=beq_eq_false_iff_ne.mpr c6
   have c6b1:(a0 != 74) = true:=bne_iff_ne.mpr c6
   have HC9:=Aside0.mk H
   clear H
   go_enter Try.func63,Try.ntmps63
   go_upto_region 5 with (fail)
   go_cut [36] (fun v36 wc=>∃ (kq:Nat) (x36_8:Bool),v36 = .bool x36_8∧Aside0 (rushlightref02_room.j0 kq a0 a1 x36_8 = some r)∧Aside0 (kq≤k)∧Drawn0 w wc)
   case first =>
    have H:=HC9.out
    clear HC9
    by_cases c10:a0 = 73
    ·rw [if_pos c10] at H
     have c10b0:(a0 == 73) = true:=beq_iff_eq.mpr c10
     have c10b1:(a0 != 73) = false:=bne_eq_false_iff_eq.mpr c10
     clear c10
     (first|rw [c10b0]|(simp only [i64_w,i32_w];rw [c10b0])|skip)
     have H':=Aside0.mk H
     clear H
     go_wp2
     go_meet
     case rel=>exact ⟨_,(true),zmb9_0,H',⟨zmb9_1⟩,zmb9_2⟩
    ·rw [if_neg c10] at H
     have c10b0:(a0 == 73) = false:=beq_eq_false_iff_ne.mpr c10
     have c10b1:(a0 != 73) = true:=bne_iff_ne.mpr c10
     (first|rw [c10b0]|(simp only [i64_w,i32_w];rw [c10b0])|skip)
     have H':=Aside0.mk H
     clear H
     go_wp2
     go_meet
     case rel=>exact ⟨_,((a0 == 83)),zmb9_0,H',⟨zmb9_1⟩,zmb9_2⟩
   case rest =>
    clear HC9
    try clear c1
    try clear p2
    try clear c3
    try clear c3b0
    try clear c3b1
    try clear c4
    try clear c4b0
    try clear c5
    try clear c5b0
    try clear c6
    try clear c6b0
    try clear c6b1
    try clear c7
    try clear c7b0
    try clear c8
    try clear c8b0
    try clear c10
    try clear c10b0
    try clear c10b1
    obtain ⟨kq,x36_8,rfl,HA,HJ8,⟨mc8,rfl⟩⟩:=hcut
    cases kq with
    | zero=>exact absurd HA.out (by simp [rushlightref02_room.j0])
    | succ kj8 =>
     have H:=HA.out
     clear HA
     simp only [rushlightref02_room.j0] at H
     by_cases c11:x36_8 = true
     ·subst c11
      have H1:(if a1 ≥ (-2048) then (some (decide (a1≤2047))) else (some false)) = some r:=by rw [if_pos rfl] at H;exact H
      clear H
      have H:=H1
      clear H1
      by_cases c12:a1 ≥ (-2048)
      ·rw [if_pos c12] at H
       have c12b0:decide ((-2048)≤a1) = true:=decide_eq_true c12
       clear c12
       obtain rfl:=Option.some.inj H
       go_wp2
       go_ret
       exact ⟨zmb9_0,zmb9_2⟩
      ·rw [if_neg c12] at H
       have c12b0:decide ((-2048)≤a1) = false:=decide_eq_false c12
       clear c12
       obtain rfl:=Option.some.inj H
       go_wp2
       go_ret
       exact ⟨zmb9_0,zmb9_2⟩
     ·replace c11:=Bool.eq_false_iff.mpr c11
      subst c11
      have H1:(if a0 = 72 then (if a1 ≥ 0 then (some (decide (a1≤31))) else (some false)) else (if a0 = 66 then (if a1 ≥ (-4096) then (if a1≤4094 then (some ((Int.tmod a1 2) == 0)) else (some false)) else (some false)) else (some (a1 == 0)))) = some r:=by rw [if_neg (show ¬ (false = true) by decide)] at H;exact H
      clear H
      have H:=H1
      clear H1
      by_cases c13:a0 = 72
      ·rw [if_pos c13] at H
       have c13b0:(a0 == 72) = true:=beq_iff_eq.mpr c13
       have c13b1:(a0 != 72) = false:=bne_eq_false_iff_eq.mpr c13
       clear c13
       by_cases c14:a1 ≥ 0
       ·rw [if_pos c14] at H
        have c14b0:decide (0≤a1) = true:=decide_eq_true c14
        clear c14
        obtain rfl:=Option.some.inj H
        go_wp2
        go_ret
        exact ⟨zmb9_0,zmb9_2⟩
       ·rw [if_neg c14] at H
        have c14b0:decide (0≤a1) = false:=decide_eq_false c14
        clear c14
        obtain rfl:=Option.some.inj H
        go_wp2
        go_ret
        exact ⟨zmb9_0,zmb9_2⟩
      ·rw [if_neg c13] at H
       have c13b0:(a0 == 72) = false:=beq_eq_false_iff_ne.mpr c13
       have c13b1:(a0 != 72) = true:=bne_iff_ne.mpr c13
       by_cases c15:a0 = 66
       ·rw [if_pos c15] at H
        have c15b0:(a0 == 66) = true:=beq_iff_eq.mpr c15
        have c15b1:(a0 != 66) = false:=bne_eq_false_iff_eq.mpr c15
        clear c15
        by_cases c16:a1 ≥ (-4096)
        ·rw [if_pos c16] at H
         have c16b0:decide ((-4096)≤a1) = true:=decide_eq_true c16
         clear c16
         by_cases c17:a1≤4094
         ·rw [if_pos c17] at H
          have c17b0:decide (a1≤4094) = true:=decide_eq_true c17
          clear c17
          obtain rfl:=Option.some.inj H
          go_wp2
          go_ret
          exact ⟨zmb9_0,zmb9_2⟩
         ·rw [if_neg c17] at H
          have c17b0:decide (a1≤4094) = false:=decide_eq_false c17
          clear c17
          obtain rfl:=Option.some.inj H
          go_wp2
          go_ret
          exact ⟨zmb9_0,zmb9_2⟩
        ·rw [if_neg c16] at H
         have c16b0:decide ((-4096)≤a1) = false:=decide_eq_false c16
         clear c16
         obtain rfl:=Option.some.inj H
         go_wp2
         go_ret
         exact ⟨zmb9_0,zmb9_2⟩
       ·rw [if_neg c15] at H
        have c15b0:(a0 == 66) = false:=beq_eq_false_iff_ne.mpr c15
        have c15b1:(a0 != 66) = true:=bne_iff_ne.mpr c15
        obtain rfl:=Option.some.inj H
        go_wp2
        go_ret
        exact ⟨zmb9_0,zmb9_2⟩
end Go.Proofs.Ytecbponmpinnoaa.P
end
section
namespace Go.Proofs.Ytecbponmpinnoaa.P
open Go.RowKit Go.Proofs.YtecbponmpinnoaaW.PrintWords Go.Proofs.YtecbponmpinnoaaW.PrintLast Go.Proofs.YtecbponmpinnoaaW.PrintMore
attribute [local go_sem] max2_int min2_int max_two min_two max_three min_three max_four min_four   
set_option linter.unusedVariables false
set_option linter.unusedSimpArgs false
def rushlightref05_branch.f (a0:Int):Option (Bool):=if a0 ≥ 5 then (some (decide (a0≤10))) else (some false)
set_option maxHeartbeats 8000000 in
set_option maxRecDepth 100000 in
theorem rushlightref05_branch.calls (a0:Int) (r:Bool) (w:World) (h:rushlightref05_branch.f a0 = some r) :
  Calls Try.prog 37 #[.int .i64 a0] w fun e w'=>e = .returned (.bool r)∧Drawn0 w w':=by
 have H:(if a0 ≥ 5 then (some (decide (a0≤10))) else (some false)) = some r:=h
 clear h
 by_cases c2:a0 ≥ 5
 ·rw [if_pos c2] at H
  have c2b0:decide (5≤a0) = true:=decide_eq_true c2
  clear c2
  obtain rfl:=Option.some.inj H
  go_enter Try.func37,Try.ntmps37
  go_wp2
  go_ret
  exact ⟨zmb9_0,zmb9_2⟩
 ·rw [if_neg c2] at H
  have c2b0:decide (5≤a0) = false:=decide_eq_false c2
  clear c2
  obtain rfl:=Option.some.inj H
  go_enter Try.func37,Try.ntmps37
  go_wp2
  go_ret
  exact ⟨zmb9_0,zmb9_2⟩
end Go.Proofs.Ytecbponmpinnoaa.P
end
section
namespace Go.Proofs.Ytecbponmpinnoaa.P
open Go.RowKit Go.Proofs.YtecbponmpinnoaaW.PrintWords Go.Proofs.YtecbponmpinnoaaW.PrintLast Go.Proofs.YtecbponmpinnoaaW.PrintMore
attribute [local go_sem] max2_int min2_int max_two min_two max_three min_three max_four min_four   
set_option linter.unusedVariables false
set_option linter.unusedSimpArgs false
def rushlightref05_stands.l0:Nat→List (S48)→Int→Int→Option (Int)
 | 0,_,_,_=>none
 | k + 1,x0,x1,x5=>if x5 < (x0.length:Int) then (if 0≤x5 then (if ((rd_T48 x0 x5).f0) = 2 then (if ((rd_T48 x0 x5).f2) = x1 then (some x5) else (rushlightref05_stands.l0 k x0 x1 (wrap64 (x5 + 1)))) else (rushlightref05_stands.l0 k x0 x1 (wrap64 (x5 + 1)))) else (none)) else (some (-1))
def rushlightref05_stands.f (k:Nat) (l0:List (S48)) (a1:Int):Option (Int):=rushlightref05_stands.l0 k l0 a1 0
set_option maxHeartbeats 8000000 in
set_option maxRecDepth 100000 in
theorem rushlightref05_stands.calls (k:Nat) (A0:Option Addr) (c0:Nat) (l0:List (S48)) (a1:Int) (r:Int) (w:World) (hr0:Kd.C k48 w A0 l0.length l0) (hc0:l0.length≤c0) (h:rushlightref05_stands.f k l0 a1 = some r) :
  Calls Try.prog 50 #[.slice A0 l0.length c0,.int .i64 a1] w fun e w'=>e = .returned (.int .i64 r)∧Drawn0 w w':=by
 have HR0:=Aside0.mk hr0
 have HC0:=Aside0.mk hc0
 clear hr0 hc0
 have H:(rushlightref05_stands.l0 k l0 a1 0) = some r:=h
 clear h
 have H':=Aside0.mk H
 clear H
 go_enter Try.func50,Try.ntmps50
 go_wp2
 go_loopg [5] k (fun kq v5 w'=>∃ (x5_1:Int),v5 = .int .i64 x5_1∧Aside0 (rushlightref05_stands.l0 kq l0 a1 x5_1 = some r)∧Aside0 (kq≤k)∧Drawn0 w w')
 case atStart=>exact ⟨(0),zmb9_0,H',⟨Nat.le_refl _⟩,zmb9_2⟩
 case round =>
  clear H'
  try clear p2
  obtain ⟨x5_1,rfl,HA,HK1,⟨m1,rfl⟩⟩:=hrel
  cases gk with
  | zero=>exact absurd HA.out (by simp [rushlightref05_stands.l0])
  | succ k1 =>
   have H:=HA.out
   clear HA
   simp only [rushlightref05_stands.l0] at H
   by_cases c3:x5_1 < (l0.length:Int)
   ·rw [if_pos c3] at H
    have c3b0:decide (x5_1 < (l0.length:Int)) = true:=decide_eq_true c3
    clear c3
    by_cases c4:0≤x5_1
    ·rw [if_pos c4] at H
     have c4b0:decide (0≤x5_1) = true:=decide_eq_true c4
     clear c4
     by_cases c5:((rd_T48 l0 x5_1).f0) = 2
     ·rw [if_pos c5] at H
      have c5b0:(((rd_T48 l0 x5_1).f0) == 2) = true:=beq_iff_eq.mpr c5
      have c5b1:(((rd_T48 l0 x5_1).f0) != 2) = false:=bne_eq_false_iff_eq.mpr c5
      clear c5
      by_cases c6:((rd_T48 l0 x5_1).f2) = a1
      ·rw [if_pos c6] at H
       have c6b0:(((rd_T48 l0 x5_1).f2) == a1) = true:=beq_iff_eq.mpr c6
       have c6b1:(((rd_T48 l0 x5_1).f2) != a1) = false:=bne_eq_false_iff_eq.mpr c6
       clear c6
       obtain rfl:=Option.some.inj H
       have p234:0≤(x5_1:Int):=of_decide_eq_true zmb9_4
       have q234:x5_1 < (l0.length:Int):=of_decide_eq_true zmb9_4
       obtain ⟨ad234,e234,hx234_0,hx234_1,hx234_2,hx234_3,hx234_4,hx234_5,hx234_6⟩:=at_T48 HR0.out x5_1 p234 q234
       cases e234
       replace p234:=eq_true p234
       replace q234:=eq_true q234
       have p235:0≤(x5_1:Int):=of_decide_eq_true zmb9_4
       have q235:x5_1 < (l0.length:Int):=of_decide_eq_true zmb9_4
       obtain ⟨ad235,e235,hx235_0,hx235_1,hx235_2,hx235_3,hx235_4,hx235_5,hx235_6⟩:=at_T48 HR0.out x5_1 p235 q235
       obtain rfl:ad234 = ad235:=(by injection e235)
       replace p235:=eq_true p235
       replace q235:=eq_true q235
       go_wp2
       go_ret
       exact ⟨zmb9_0,zmb9_2⟩
      ·rw [if_neg c6] at H
       have c6b0:(((rd_T48 l0 x5_1).f2) == a1) = false:=beq_eq_false_iff_ne.mpr c6
       have c6b1:(((rd_T48 l0 x5_1).f2) != a1) = true:=bne_iff_ne.mpr c6
       have H':=Aside0.mk H
       clear H
       have p234:0≤(x5_1:Int):=of_decide_eq_true zmb9_4
       have q234:x5_1 < (l0.length:Int):=of_decide_eq_true zmb9_4
       obtain ⟨ad234,e234,hx234_0,hx234_1,hx234_2,hx234_3,hx234_4,hx234_5,hx234_6⟩:=at_T48 HR0.out x5_1 p234 q234
       cases e234
       replace p234:=eq_true p234
       replace q234:=eq_true q234
       have p235:0≤(x5_1:Int):=of_decide_eq_true zmb9_4
       have q235:x5_1 < (l0.length:Int):=of_decide_eq_true zmb9_4
       obtain ⟨ad235,e235,hx235_0,hx235_1,hx235_2,hx235_3,hx235_4,hx235_5,hx235_6⟩:=at_T48 HR0.out x5_1 p235 q235
       obtain rfl:ad234 = ad235:=(by injection e235)
       replace p235:=eq_true p235
       replace q235:=eq_true q235
       go_wp2
       go_roundg k1
       case measure=>have:=HK1.out;omega
       case rel=>exact ⟨(wrap64 (x5_1 + 1)),zmb9_0,H',⟨by have:=HK1.out;omega⟩,zmb9_2⟩
     ·rw [if_neg c5] at H
      have c5b0:(((rd_T48 l0 x5_1).f0) == 2) = false:=beq_eq_false_iff_ne.mpr c5
      have c5b1:(((rd_T48 l0 x5_1).f0) != 2) = true:=bne_iff_ne.mpr c5
      have H':=Aside0.mk H
      clear H
      have p234:0≤(x5_1:Int):=of_decide_eq_true zmb9_4
      have q234:x5_1 < (l0.length:Int):=of_decide_eq_true zmb9_4
      obtain ⟨ad234,e234,hx234_0,hx234_1,hx234_2,hx234_3,hx234_4,hx234_5,hx234_6⟩:=at_T48 HR0.out x5_1 p234 q234
      cases e234
      replace p234:=eq_true p234
      replace q234:=eq_true q234
      go_wp2
      go_roundg k1
      case measure=>have:=HK1.out;omega
      case rel=>exact ⟨(wrap64 (x5_1 + 1)),zmb9_0,H',⟨by have:=HK1.out;omega⟩,zmb9_2⟩
    ·rw [if_neg c4] at H
     exact absurd H (by simp)
   ·rw [if_neg c3] at H
    have c3b0:decide (x5_1 < (l0.length:Int)) = false:=decide_eq_false c3
    clear c3
    obtain rfl:=Option.some.inj H
    go_wp2
    go_ret
    exact ⟨zmb9_0,zmb9_2⟩
end Go.Proofs.Ytecbponmpinnoaa.P
end
section
namespace Go.Proofs.Ytecbponmpinnoaa.P
open Go.RowKit Go.Proofs.YtecbponmpinnoaaW.PrintWords Go.Proofs.YtecbponmpinnoaaW.PrintLast Go.Proofs.YtecbponmpinnoaaW.PrintMore
attribute [local go_sem] max2_int min2_int max_two min_two max_three min_three max_four min_four   
set_option linter.unusedVariables false
set_option linter.unusedSimpArgs false
def rushlightref01_Cut.f (a0:Int):Option (Int):=if (Int.tmod a0 4294967296) < 0 then (some ((wrap64 ((Int.tmod a0 4294967296) + 4294967296)) % 4294967296)) else (some ((Int.tmod a0 4294967296) % 4294967296))
set_option maxHeartbeats 8000000 in
set_option maxRecDepth 100000 in
theorem rushlightref01_Cut.calls (a0:Int) (r:Int) (w:World) (h:rushlightref01_Cut.f a0 = some r) :
  Calls Try.prog 25 #[.int .i64 a0] w fun e w'=>e = .returned (.int .u32 r)∧Drawn0 w w':=by
 have H:(if (Int.tmod a0 4294967296) < 0 then (some ((wrap64 ((Int.tmod a0 4294967296) + 4294967296)) % 4294967296)) else (some ((Int.tmod a0 4294967296) % 4294967296))) = some r:=h
 clear h
 by_cases c2:(Int.tmod a0 4294967296) < 0
 ·rw [if_pos c2] at H
  have c2b0:decide ((Int.tmod a0 4294967296) < 0) = true:=decide_eq_true c2
  clear c2
  obtain rfl:=Option.some.inj H
  go_enter Try.func25,Try.ntmps25
  go_wp2
  go_ret
  exact ⟨zmb9_0,zmb9_2⟩
 ·rw [if_neg c2] at H
  have c2b0:decide ((Int.tmod a0 4294967296) < 0) = false:=decide_eq_false c2
  clear c2
  obtain rfl:=Option.some.inj H
  go_enter Try.func25,Try.ntmps25
  go_wp2
  go_ret
  exact ⟨zmb9_0,zmb9_2⟩
def rushlightref01_Signed.f (a0:Int):Option (Int):=if a0 ≥ 2147483648 then (some (wrap64 ((wrap64 (a0)) - 4294967296))) else (some (wrap64 (a0)))
set_option maxHeartbeats 8000000 in
set_option maxRecDepth 100000 in
theorem rushlightref01_Signed.calls (a0:Int) (r:Int) (w:World) (h:rushlightref01_Signed.f a0 = some r) :
  Calls Try.prog 43 #[.int .u32 a0] w fun e w'=>e = .returned (.int .i64 r)∧Drawn0 w w':=by
 have H:(if a0 ≥ 2147483648 then (some (wrap64 ((wrap64 (a0)) - 4294967296))) else (some (wrap64 (a0)))) = some r:=h
 clear h
 by_cases c2:a0 ≥ 2147483648
 ·rw [if_pos c2] at H
  have c2b0:decide (2147483648≤a0) = true:=decide_eq_true c2
  clear c2
  obtain rfl:=Option.some.inj H
  go_enter Try.func43,Try.ntmps43
  go_wp2
  go_ret
  exact ⟨zmb9_0,zmb9_2⟩
 ·rw [if_neg c2] at H
  have c2b0:decide (2147483648≤a0) = false:=decide_eq_false c2
  clear c2
  obtain rfl:=Option.some.inj H
  go_enter Try.func43,Try.ntmps43
  go_wp2
  go_ret
  exact ⟨zmb9_0,zmb9_2⟩
mutual
def rushlightref01_Sign.j0:Nat→Int→Int→Bool→Option (Int)
 | 0,_,_,_=>none
 | k + 1,x0,x1,x13=>if x13 = true then (some x0) else (rushlightref01_Sign.l0 k x0 x1 1 0)
def rushlightref01_Sign.l0:Nat→Int→Int→Int→Int→Option (Int)
 | 0,_,_,_,_=>none
 | k + 1,x0,x1,x5,x6=>if x6 < x1 then (rushlightref01_Sign.l0 k x0 x1 (wrap64 (2 * x5)) (wrap64 (x6 + 1))) else (if x5 = 0 then (none) else (if (Int.tmod (wrap64 (x0)) x5) ≥ (wrap64 (Int.tdiv x5 2)) then ((rushlightref01_Cut.f (wrap64 ((Int.tmod (wrap64 (x0)) x5) - x5))).bind fun t248=>(some t248)) else ((rushlightref01_Cut.f (Int.tmod (wrap64 (x0)) x5)).bind fun t249=>(some t249))))
end
def rushlightref01_Sign.f (k:Nat) (a0:Int) (a1:Int):Option (Int):=if a1 < 1 then (rushlightref01_Sign.j0 k a0 a1 true) else (rushlightref01_Sign.j0 k a0 a1 (decide (a1 > 31)))
set_option maxHeartbeats 8000000 in
set_option maxRecDepth 100000 in
theorem rushlightref01_Sign.calls (k:Nat) (a0:Int) (a1:Int) (r:Int) (w:World) (h:rushlightref01_Sign.f k a0 a1 = some r) :
  Calls Try.prog 44 #[.int .u32 a0,.int .i64 a1] w fun e w'=>e = .returned (.int .u32 r)∧Drawn0 w w':=by
 have H:(if a1 < 1 then (rushlightref01_Sign.j0 k a0 a1 true) else (rushlightref01_Sign.j0 k a0 a1 (decide (a1 > 31)))) = some r:=h
 clear h
 have HC3:=Aside0.mk H
 clear H
 go_enter Try.func44,Try.ntmps44
 go_upto_region 1 with (fail)
 go_cut [13] (fun v13 wc=>∃ (kq:Nat) (x13_2:Bool),v13 = .bool x13_2∧Aside0 (rushlightref01_Sign.j0 kq a0 a1 x13_2 = some r)∧Aside0 (kq≤k)∧Drawn0 w wc)
 case first =>
  have H:=HC3.out
  clear HC3
  by_cases c4:a1 < 1
  ·rw [if_pos c4] at H
   have c4b0:decide (a1 < 1) = true:=decide_eq_true c4
   clear c4
   (first|rw [c4b0]|(simp only [i64_w,i32_w];rw [c4b0])|skip)
   have H':=Aside0.mk H
   clear H
   go_wp2
   go_meet
   case rel=>exact ⟨_,(true),zmb9_0,H',⟨zmb9_1⟩,zmb9_2⟩
  ·rw [if_neg c4] at H
   have c4b0:decide (a1 < 1) = false:=decide_eq_false c4
   clear c4
   (first|rw [c4b0]|(simp only [i64_w,i32_w];rw [c4b0])|skip)
   have H':=Aside0.mk H
   clear H
   go_wp2
   go_meet
   case rel=>exact ⟨_,(decide (a1 > 31)),zmb9_0,H',⟨zmb9_1⟩,zmb9_2⟩
 case rest =>
  clear HC3
  try clear p2
  try clear c4
  try clear c4b0
  obtain ⟨kq,x13_2,rfl,HA,HJ2,⟨mc2,rfl⟩⟩:=hcut
  cases kq with
  | zero=>exact absurd HA.out (by simp [rushlightref01_Sign.j0])
  | succ kj2 =>
   have H:=HA.out
   clear HA
   simp only [rushlightref01_Sign.j0] at H
   by_cases c5:x13_2 = true
   ·subst c5
    have H1:(some a0) = some r:=by rw [if_pos rfl] at H;exact H
    clear H
    have H:=H1
    clear H1
    obtain rfl:=Option.some.inj H
    go_wp2
    go_ret
    exact ⟨zmb9_0,zmb9_2⟩
   ·replace c5:=Bool.eq_false_iff.mpr c5
    subst c5
    have H1:(rushlightref01_Sign.l0 kj2 a0 a1 1 0) = some r:=by rw [if_neg (show ¬ (false = true) by decide)] at H;exact H
    clear H
    have H:=H1
    clear H1
    have H':=Aside0.mk H
    clear H
    go_wp2
    go_loopg [5,6] kj2 (fun kq v5 v6 w'=>∃ (x5_2:Int) (x6_2:Int),v5 = .int .i64 x5_2∧v6 = .int .i64 x6_2∧Aside0 (rushlightref01_Sign.l0 kq a0 a1 x5_2 x6_2 = some r)∧Aside0 (kq≤kj2)∧Drawn0 w w')
    case atStart=>exact ⟨(1),(0),zmb9_0,zmb9_0,H',⟨Nat.le_refl _⟩,zmb9_2⟩
    case round =>
     clear H'
     try clear c2
     try clear p2
     try clear c4
     try clear c4b0
     try clear c5
     try clear p2
     obtain ⟨x5_2,x6_2,rfl,rfl,HA,HK2,⟨m2,rfl⟩⟩:=hrel
     cases gk with
     | zero=>exact absurd HA.out (by simp [rushlightref01_Sign.l0])
     | succ k2 =>
      have H:=HA.out
      clear HA
      simp only [rushlightref01_Sign.l0] at H
      by_cases c6:x6_2 < a1
      ·rw [if_pos c6] at H
       have c6b0:decide (x6_2 < a1) = true:=decide_eq_true c6
       clear c6
       have H':=Aside0.mk H
       clear H
       go_wp2
       go_roundg k2
       case measure=>have:=HJ2.out;have:=HK2.out;omega
       case rel=>exact ⟨(wrap64 (2 * x5_2)),(wrap64 (x6_2 + 1)),zmb9_0,zmb9_0,H',⟨by have:=HJ2.out;have:=HK2.out;omega⟩,zmb9_2⟩
      ·rw [if_neg c6] at H
       have c6b0:decide (x6_2 < a1) = false:=decide_eq_false c6
       clear c6
       by_cases c7:x5_2 = 0
       ·rw [if_pos c7] at H
        exact absurd H (by simp)
       ·rw [if_neg c7] at H
        have c7b0:(x5_2 == 0) = false:=beq_eq_false_iff_ne.mpr c7
        have c7b1:(x5_2 != 0) = true:=bne_iff_ne.mpr c7
        by_cases c8:(Int.tmod (wrap64 (a0)) x5_2) ≥ (wrap64 (Int.tdiv x5_2 2))
        ·rw [if_pos c8] at H
         have c8b0:decide ((wrap64 (Int.tdiv x5_2 2))≤(Int.tmod (wrap64 (a0)) x5_2)) = true:=decide_eq_true c8
         clear c8
         replace H:=Option.bind_eq_some_iff.mp H
         obtain ⟨t248,A90,H⟩:=H
         replace H:(some t248) = some r:=H
         have A9:=Aside0.mk A90
         clear A90
         obtain rfl:=Option.some.inj H
         go_wp2_with (first|((with_reducible refine gate_callee (f:=25) rfl ?_);refine goesL_ (some 34) rfl rfl Try.func25 (by kernel_rfl) rfl #[.int .i64 (wrap64 ((Int.tmod (wrap64 (a0)) x5_2) - x5_2))] rfl zmb9_5 ?_;(with_reducible refine (rushlightref01_Cut.calls (wrap64 ((Int.tmod (wrap64 (a0)) x5_2) - x5_2)) t248 _ A9.out).mono ?_);rintro e w' ⟨rfl,⟨nd,rfl⟩⟩;refine ⟨_,rfl,?_⟩))
         go_ret
         exact ⟨zmb9_0,zmb9_2⟩
        ·rw [if_neg c8] at H
         have c8b0:decide ((wrap64 (Int.tdiv x5_2 2))≤(Int.tmod (wrap64 (a0)) x5_2)) = false:=decide_eq_false c8
         clear c8
         replace H:=Option.bind_eq_some_iff.mp H
         obtain ⟨t249,A100,H⟩:=H
         replace H:(some t249) = some r:=H
         have A10:=Aside0.mk A100
         clear A100
         obtain rfl:=Option.some.inj H
         go_wp2_with (first|((with_reducible refine gate_callee (f:=25) rfl ?_);refine goesL_ (some 34) rfl rfl Try.func25 (by kernel_rfl) rfl #[.int .i64 (Int.tmod (wrap64 (a0)) x5_2)] rfl zmb9_5 ?_;(with_reducible refine (rushlightref01_Cut.calls (Int.tmod (wrap64 (a0)) x5_2) t249 _ A10.out).mono ?_);rintro e w' ⟨rfl,⟨nd,rfl⟩⟩;refine ⟨_,rfl,?_⟩))
         go_ret
         exact ⟨zmb9_0,zmb9_2⟩
def rushlightref05_Number.j0:Nat→Int→Int→Int→Bool→Option ((List (S46)))
 | 0,_,_,_,_=>none
 | k + 1,x0,x1,x5,x16=>if x16 = true then (some (([(⟨19,x0,0,0,x5⟩:S46)]:List (S46)))) else ((rushlightref01_Cut.f x1).bind fun t255=>((rushlightref01_Sign.f k t255 12).bind fun t256=>((rushlightref01_Signed.f t256).bind fun t257=>((rushlightref01_Cut.f (wrap64 (x5 - t257))).bind fun t258=>((rushlightref01_Signed.f t258).bind fun t259=>(if t257 = 0 then (some (([(⟨1,x0,0,0,t259⟩:S46)]:List (S46)))) else (some (([(⟨1,x0,0,0,t259⟩:S46),(⟨19,x0,x0,0,t257⟩:S46)]:List (S46))))))))))
def rushlightref05_Number.f (k:Nat) (a0:Int) (a1:Int):Option ((List (S46))):=(rushlightref01_Cut.f a1).bind fun t250=>((rushlightref01_Signed.f t250).bind fun t251=>(if t251 ≥ (-2048) then (rushlightref05_Number.j0 k a0 a1 t251 (decide (t251≤2047))) else (rushlightref05_Number.j0 k a0 a1 t251 false)))
set_option maxHeartbeats 8000000 in
set_option maxRecDepth 100000 in
theorem rushlightref05_Number.calls (k:Nat) (a0:Int) (a1:Int) (r:List (S46)) (w:World) (h:rushlightref05_Number.f k a0 a1 = some r) :
  Calls Try.prog 24 #[.int .i64 a0,.int .i64 a1] w fun e w'=>∃ v0_:Value,e = .returned (v0_)∧Kd.R k46 46 w' w.heap.size (fun _=>True) v0_ r∧Below w.heap.size w w':=by
 have hu46:=Try.underlying46
 have HB:=Aside0.mk (Below.refl w.heap.size w)
 have H:((rushlightref01_Cut.f a1).bind fun t250=>((rushlightref01_Signed.f t250).bind fun t251=>(if t251 ≥ (-2048) then (rushlightref05_Number.j0 k a0 a1 t251 (decide (t251≤2047))) else (rushlightref05_Number.j0 k a0 a1 t251 false)))) = some r:=h
 clear h
 replace H:=Option.bind_eq_some_iff.mp H
 obtain ⟨t250,A30,H⟩:=H
 replace H:((rushlightref01_Signed.f t250).bind fun t251=>(if t251 ≥ (-2048) then (rushlightref05_Number.j0 k a0 a1 t251 (decide (t251≤2047))) else (rushlightref05_Number.j0 k a0 a1 t251 false))) = some r:=H
 have A3:=Aside0.mk A30
 clear A30
 replace H:=Option.bind_eq_some_iff.mp H
 obtain ⟨t251,A40,H⟩:=H
 replace H:(if t251 ≥ (-2048) then (rushlightref05_Number.j0 k a0 a1 t251 (decide (t251≤2047))) else (rushlightref05_Number.j0 k a0 a1 t251 false)) = some r:=H
 have A4:=Aside0.mk A40
 clear A40
 have HC5:=Aside0.mk H
 clear H
 go_enter Try.func24,Try.ntmps24
 go_upto_region 2 with (first|((with_reducible refine gate_callee (f:=25) rfl ?_);refine goesL_ (some 9) rfl rfl Try.func25 (by kernel_rfl) rfl #[.int .i64 a1] rfl zmb9_5 ?_;(with_reducible refine (rushlightref01_Cut.calls a1 t250 _ A3.out).mono ?_);rintro e w' ⟨rfl,⟨nd,rfl⟩⟩;refine ⟨_,rfl,?_⟩)|((with_reducible refine gate_callee (f:=43) rfl ?_);refine goesL_ (some 10) rfl rfl Try.func43 (by kernel_rfl) rfl #[.int .u32 t250] rfl zmb9_5 ?_;(with_reducible refine (rushlightref01_Signed.calls t250 t251 _ A4.out).mono ?_);rintro e w' ⟨rfl,⟨nd,rfl⟩⟩;refine ⟨_,rfl,?_⟩))
 (try simp only [Act.put,List.setIfInBounds_toArray,List.set_cons_zero,List.set_cons_succ])
 go_cut [16] (fun v16 wc=>∃ (kq:Nat) (x16_4:Bool),v16 = .bool x16_4∧Aside0 (rushlightref05_Number.j0 kq a0 a1 t251 x16_4 = some r)∧Aside0 (kq≤k)∧Aside0 (Below w.heap.size w wc))
 case first =>
  have H:=HC5.out
  clear HC5
  by_cases c6:t251 ≥ (-2048)
  ·rw [if_pos c6] at H
   have c6b0:decide ((-2048)≤t251) = true:=decide_eq_true c6
   clear c6
   (first|rw [c6b0]|(simp only [i64_w,i32_w];rw [c6b0])|skip)
   have H':=Aside0.mk H
   clear H
   go_wp2
   go_meet
   case rel=>exact ⟨_,(decide (t251≤2047)),zmb9_0,H',⟨zmb9_1⟩,⟨zmb9_6⟩⟩
  ·rw [if_neg c6] at H
   have c6b0:decide ((-2048)≤t251) = false:=decide_eq_false c6
   clear c6
   (first|rw [c6b0]|(simp only [i64_w,i32_w];rw [c6b0])|skip)
   have H':=Aside0.mk H
   clear H
   go_wp2
   go_meet
   case rel=>exact ⟨_,(false),zmb9_0,H',⟨zmb9_1⟩,⟨zmb9_6⟩⟩
 case rest =>
  clear HC5
  try clear c2
  try clear p2
  try clear c4
  try clear c6
  try clear c6b0
  obtain ⟨kq,x16_4,rfl,HA,HJ4,HB⟩:=hcut
  cases kq with
  | zero=>exact absurd HA.out (by simp [rushlightref05_Number.j0])
  | succ kj4 =>
   have H:=HA.out
   clear HA
   simp only [rushlightref05_Number.j0] at H
   by_cases c7:x16_4 = true
   ·subst c7
    have H1:(some (([(⟨19,a0,0,0,t251⟩:S46)]:List (S46)))) = some r:=by rw [if_pos rfl] at H;exact H
    clear H
    have H:=H1
    clear H1
    obtain ⟨y252,hy252⟩:∃ y_:List (S46),y_ = (([(⟨19,a0,0,0,t251⟩:S46)]:List (S46))):=⟨_,rfl⟩
    replace H:(some y252) = some r:=by first|(rw [hy252];with_reducible exact H)|(have H2_:=(Option.bind_some _ _).symm.trans H;rw [hy252];with_reducible exact H2_)|(have H2_:=(Option.bind_some _ _).symm.trans H;with_reducible exact H2_)|with_reducible exact H|(rw [hy252];exact H)|exact H
    have Ny252:=Aside0.mk hy252
    clear hy252
    obtain rfl:=Option.some.inj H
    go_wp2_with (first|((with_reducible refine gate_dst (N:=20) rfl ?_);refine Kd.R_lit k46 _ 46 ?hg (N:=20) ?hd (xs:=([(⟨19,a0,0,0,t251⟩:S46)]:List (S46))) (inner:=[.int .i64 19,.int .i64 a0,.int .i64 0,.int .i64 0,.int .i64 t251]) (ok:=fun _=>True) (okp:=fun _=>True) ?hr ?hp (fun _ hk=>hk) trivial (Below.refl _ _) (Nat.le_refl _) (by simp) ?_;(case hd=>rfl);(case hg=>rfl);(case hr=>first|(go_simp;done)|(go_simp;rfl));(case hp=>exact (Reps.c5 (show Kd.M k46 _ _ _ (⟨19,a0,0,0,t251⟩:S46) [.int .i64 19,.int .i64 a0,.int .i64 0,.int .i64 0,.int .i64 t251] from (k46_mkM _ _ _ (⟨19,a0,0,0,t251⟩:S46) )) (Reps.none _ _)));intro v253 w8 ho9 hb hg_ hnew_;clear hg_ hnew_;(first|rw [← Ny252.out] at ho9|(simp only [Int.reduceToNat] at ho9;rw [← Ny252.out] at ho9));have n0_:=Aside0.mk (Kd.R_lower ho9 (below_size zmb9_6));have n1_:=Aside0.mk (below_step zmb9_6 hb);clear HB;have HO254:=n0_;have HB:=n1_;clear n0_ n1_;clear hb ho9))
    go_ret
    exact ⟨_,zmb9_7,by (with_reducible repeat (first|apply Kd.R_alloc|apply Kd.R_drewN|apply Kd.R_drew));exact HO254.out,zmb9_6⟩
   ·replace c7:=Bool.eq_false_iff.mpr c7
    subst c7
    have H1:((rushlightref01_Cut.f a1).bind fun t255=>((rushlightref01_Sign.f kj4 t255 12).bind fun t256=>((rushlightref01_Signed.f t256).bind fun t257=>((rushlightref01_Cut.f (wrap64 (t251 - t257))).bind fun t258=>((rushlightref01_Signed.f t258).bind fun t259=>(if t257 = 0 then (some (([(⟨1,a0,0,0,t259⟩:S46)]:List (S46)))) else (some (([(⟨1,a0,0,0,t259⟩:S46),(⟨19,a0,a0,0,t257⟩:S46)]:List (S46)))))))))) = some r:=by rw [if_neg (show ¬ (false = true) by decide)] at H;exact H
    clear H
    have H:=H1
    clear H1
    replace H:=Option.bind_eq_some_iff.mp H
    obtain ⟨t255,A100,H⟩:=H
    replace H:((rushlightref01_Sign.f kj4 t255 12).bind fun t256=>((rushlightref01_Signed.f t256).bind fun t257=>((rushlightref01_Cut.f (wrap64 (t251 - t257))).bind fun t258=>((rushlightref01_Signed.f t258).bind fun t259=>(if t257 = 0 then (some (([(⟨1,a0,0,0,t259⟩:S46)]:List (S46)))) else (some (([(⟨1,a0,0,0,t259⟩:S46),(⟨19,a0,a0,0,t257⟩:S46)]:List (S46))))))))) = some r:=H
    have A10:=Aside0.mk A100
    clear A100
    replace H:=Option.bind_eq_some_iff.mp H
    obtain ⟨t256,A110,H⟩:=H
    replace H:((rushlightref01_Signed.f t256).bind fun t257=>((rushlightref01_Cut.f (wrap64 (t251 - t257))).bind fun t258=>((rushlightref01_Signed.f t258).bind fun t259=>(if t257 = 0 then (some (([(⟨1,a0,0,0,t259⟩:S46)]:List (S46)))) else (some (([(⟨1,a0,0,0,t259⟩:S46),(⟨19,a0,a0,0,t257⟩:S46)]:List (S46)))))))) = some r:=H
    have A11:=Aside0.mk A110
    clear A110
    replace H:=Option.bind_eq_some_iff.mp H
    obtain ⟨t257,A120,H⟩:=H
    replace H:((rushlightref01_Cut.f (wrap64 (t251 - t257))).bind fun t258=>((rushlightref01_Signed.f t258).bind fun t259=>(if t257 = 0 then (some (([(⟨1,a0,0,0,t259⟩:S46)]:List (S46)))) else (some (([(⟨1,a0,0,0,t259⟩:S46),(⟨19,a0,a0,0,t257⟩:S46)]:List (S46))))))) = some r:=H
    have A12:=Aside0.mk A120
    clear A120
    replace H:=Option.bind_eq_some_iff.mp H
    obtain ⟨t258,A130,H⟩:=H
    replace H:((rushlightref01_Signed.f t258).bind fun t259=>(if t257 = 0 then (some (([(⟨1,a0,0,0,t259⟩:S46)]:List (S46)))) else (some (([(⟨1,a0,0,0,t259⟩:S46),(⟨19,a0,a0,0,t257⟩:S46)]:List (S46)))))) = some r:=H
    have A13:=Aside0.mk A130
    clear A130
    replace H:=Option.bind_eq_some_iff.mp H
    obtain ⟨t259,A140,H⟩:=H
    replace H:(if t257 = 0 then (some (([(⟨1,a0,0,0,t259⟩:S46)]:List (S46)))) else (some (([(⟨1,a0,0,0,t259⟩:S46),(⟨19,a0,a0,0,t257⟩:S46)]:List (S46))))) = some r:=H
    have A14:=Aside0.mk A140
    clear A140
    by_cases c15:t257 = 0
    ·rw [if_pos c15] at H
     have c15b0:(t257 == 0) = true:=beq_iff_eq.mpr c15
     have c15b1:(t257 != 0) = false:=bne_eq_false_iff_eq.mpr c15
     clear c15
     obtain ⟨y260,hy260⟩:∃ y_:List (S46),y_ = (([(⟨1,a0,0,0,t259⟩:S46)]:List (S46))):=⟨_,rfl⟩
     replace H:(some y260) = some r:=by first|(rw [hy260];with_reducible exact H)|(have H2_:=(Option.bind_some _ _).symm.trans H;rw [hy260];with_reducible exact H2_)|(have H2_:=(Option.bind_some _ _).symm.trans H;with_reducible exact H2_)|with_reducible exact H|(rw [hy260];exact H)|exact H
     have Ny260:=Aside0.mk hy260
     clear hy260
     obtain rfl:=Option.some.inj H
     go_wp2_with (first|((with_reducible refine gate_callee (f:=25) rfl ?_);refine goesL_ (some 22) rfl rfl Try.func25 (by kernel_rfl) rfl #[.int .i64 a1] rfl zmb9_5 ?_;(with_reducible refine (rushlightref01_Cut.calls a1 t255 _ A10.out).mono ?_);rintro e w' ⟨rfl,⟨nd,rfl⟩⟩;refine ⟨_,rfl,?_⟩)|((with_reducible refine gate_callee (f:=44) rfl ?_);refine goesL_ (some 23) rfl rfl Try.func44 (by kernel_rfl) rfl #[.int .u32 t255,.int .i64 12] rfl zmb9_5 ?_;(with_reducible refine (rushlightref01_Sign.calls kj4 t255 12 t256 _ A11.out).mono ?_);rintro e w' ⟨rfl,⟨nd,rfl⟩⟩;refine ⟨_,rfl,?_⟩)|((with_reducible refine gate_callee (f:=43) rfl ?_);refine goesL_ (some 24) rfl rfl Try.func43 (by kernel_rfl) rfl #[.int .u32 t256] rfl zmb9_5 ?_;(with_reducible refine (rushlightref01_Signed.calls t256 t257 _ A12.out).mono ?_);rintro e w' ⟨rfl,⟨nd,rfl⟩⟩;refine ⟨_,rfl,?_⟩)|((with_reducible refine gate_callee (f:=25) rfl ?_);refine goesL_ (some 28) rfl rfl Try.func25 (by kernel_rfl) rfl #[.int .i64 (wrap64 (t251 - t257))] rfl zmb9_5 ?_;(with_reducible refine (rushlightref01_Cut.calls (wrap64 (t251 - t257)) t258 _ A13.out).mono ?_);rintro e w' ⟨rfl,⟨nd,rfl⟩⟩;refine ⟨_,rfl,?_⟩)|((with_reducible refine gate_callee (f:=43) rfl ?_);refine goesL_ (some 29) rfl rfl Try.func43 (by kernel_rfl) rfl #[.int .u32 t258] rfl zmb9_5 ?_;(with_reducible refine (rushlightref01_Signed.calls t258 t259 _ A14.out).mono ?_);rintro e w' ⟨rfl,⟨nd,rfl⟩⟩;refine ⟨_,rfl,?_⟩)|((with_reducible refine gate_dst (N:=35) rfl ?_);refine Kd.R_lit k46 _ 46 ?hg (N:=35) ?hd (xs:=([(⟨1,a0,0,0,t259⟩:S46)]:List (S46))) (inner:=[.int .i64 1,.int .i64 a0,.int .i64 0,.int .i64 0,.int .i64 t259]) (ok:=fun _=>True) (okp:=fun _=>True) ?hr ?hp (fun _ hk=>hk) trivial (Below.refl _ _) (Nat.le_refl _) (by simp) ?_;(case hd=>rfl);(case hg=>rfl);(case hr=>first|(go_simp;done)|(go_simp;rfl));(case hp=>exact (Reps.c5 (show Kd.M k46 _ _ _ (⟨1,a0,0,0,t259⟩:S46) [.int .i64 1,.int .i64 a0,.int .i64 0,.int .i64 0,.int .i64 t259] from (k46_mkM _ _ _ (⟨1,a0,0,0,t259⟩:S46) )) (Reps.none _ _)));intro v261 w16 ho17 hb hg_ hnew_;clear hg_ hnew_;(first|rw [← Ny260.out] at ho17|(simp only [Int.reduceToNat] at ho17;rw [← Ny260.out] at ho17));have n0_:=Aside0.mk (Kd.R_lower ho17 (below_size zmb9_6));have n1_:=Aside0.mk (below_step zmb9_6 hb);clear HB;have HO262:=n0_;have HB:=n1_;clear n0_ n1_;clear hb ho17))
     go_ret
     exact ⟨_,zmb9_7,by (with_reducible repeat (first|apply Kd.R_alloc|apply Kd.R_drewN|apply Kd.R_drew));exact HO262.out,zmb9_6⟩
    ·rw [if_neg c15] at H
     have c15b0:(t257 == 0) = false:=beq_eq_false_iff_ne.mpr c15
     have c15b1:(t257 != 0) = true:=bne_iff_ne.mpr c15
     obtain ⟨y263,hy263⟩:∃ y_:List (S46),y_ = (([(⟨1,a0,0,0,t259⟩:S46),(⟨19,a0,a0,0,t257⟩:S46)]:List (S46))):=⟨_,rfl⟩
     replace H:(some y263) = some r:=by first|(rw [hy263];with_reducible exact H)|(have H2_:=(Option.bind_some _ _).symm.trans H;rw [hy263];with_reducible exact H2_)|(have H2_:=(Option.bind_some _ _).symm.trans H;with_reducible exact H2_)|with_reducible exact H|(rw [hy263];exact H)|exact H
     have Ny263:=Aside0.mk hy263
     clear hy263
     obtain rfl:=Option.some.inj H
     go_wp2_with (first|((with_reducible refine gate_callee (f:=25) rfl ?_);refine goesL_ (some 22) rfl rfl Try.func25 (by kernel_rfl) rfl #[.int .i64 a1] rfl zmb9_5 ?_;(with_reducible refine (rushlightref01_Cut.calls a1 t255 _ A10.out).mono ?_);rintro e w' ⟨rfl,⟨nd,rfl⟩⟩;refine ⟨_,rfl,?_⟩)|((with_reducible refine gate_callee (f:=44) rfl ?_);refine goesL_ (some 23) rfl rfl Try.func44 (by kernel_rfl) rfl #[.int .u32 t255,.int .i64 12] rfl zmb9_5 ?_;(with_reducible refine (rushlightref01_Sign.calls kj4 t255 12 t256 _ A11.out).mono ?_);rintro e w' ⟨rfl,⟨nd,rfl⟩⟩;refine ⟨_,rfl,?_⟩)|((with_reducible refine gate_callee (f:=43) rfl ?_);refine goesL_ (some 24) rfl rfl Try.func43 (by kernel_rfl) rfl #[.int .u32 t256] rfl zmb9_5 ?_;(with_reducible refine (rushlightref01_Signed.calls t256 t257 _ A12.out).mono ?_);rintro e w' ⟨rfl,⟨nd,rfl⟩⟩;refine ⟨_,rfl,?_⟩)|((with_reducible refine gate_callee (f:=25) rfl ?_);refine goesL_ (some 28) rfl rfl Try.func25 (by kernel_rfl) rfl #[.int .i64 (wrap64 (t251 - t257))] rfl zmb9_5 ?_;(with_reducible refine (rushlightref01_Cut.calls (wrap64 (t251 - t257)) t258 _ A13.out).mono ?_);rintro e w' ⟨rfl,⟨nd,rfl⟩⟩;refine ⟨_,rfl,?_⟩)|((with_reducible refine gate_callee (f:=43) rfl ?_);refine goesL_ (some 29) rfl rfl Try.func43 (by kernel_rfl) rfl #[.int .u32 t258] rfl zmb9_5 ?_;(with_reducible refine (rushlightref01_Signed.calls t258 t259 _ A14.out).mono ?_);rintro e w' ⟨rfl,⟨nd,rfl⟩⟩;refine ⟨_,rfl,?_⟩)|((with_reducible refine gate_dst (N:=43) rfl ?_);refine Kd.R_lit k46 _ 46 ?hg (N:=43) ?hd (xs:=([(⟨1,a0,0,0,t259⟩:S46),(⟨19,a0,a0,0,t257⟩:S46)]:List (S46))) (inner:=[.int .i64 1,.int .i64 a0,.int .i64 0,.int .i64 0,.int .i64 t259,.int .i64 19,.int .i64 a0,.int .i64 a0,.int .i64 0,.int .i64 t257]) (ok:=fun _=>True) (okp:=fun _=>True) ?hr ?hp (fun _ hk=>hk) trivial (Below.refl _ _) (Nat.le_refl _) (by simp) ?_;(case hd=>rfl);(case hg=>rfl);(case hr=>first|(go_simp;done)|(go_simp;rfl));(case hp=>exact (Reps.c5 (show Kd.M k46 _ _ _ (⟨1,a0,0,0,t259⟩:S46) [.int .i64 1,.int .i64 a0,.int .i64 0,.int .i64 0,.int .i64 t259] from (k46_mkM _ _ _ (⟨1,a0,0,0,t259⟩:S46) )) (Reps.c5 (show Kd.M k46 _ _ _ (⟨19,a0,a0,0,t257⟩:S46) [.int .i64 19,.int .i64 a0,.int .i64 a0,.int .i64 0,.int .i64 t257] from (k46_mkM _ _ _ (⟨19,a0,a0,0,t257⟩:S46) )) (Reps.none _ _))));intro v264 w18 ho19 hb hg_ hnew_;clear hg_ hnew_;(first|rw [← Ny263.out] at ho19|(simp only [Int.reduceToNat] at ho19;rw [← Ny263.out] at ho19));have n0_:=Aside0.mk (Kd.R_lower ho19 (below_size zmb9_6));have n1_:=Aside0.mk (below_step zmb9_6 hb);clear HB;have HO265:=n0_;have HB:=n1_;clear n0_ n1_;clear hb ho19))
     go_ret
     exact ⟨_,zmb9_7,by (with_reducible repeat (first|apply Kd.R_alloc|apply Kd.R_drewN|apply Kd.R_drew));exact HO265.out,zmb9_6⟩
def rushlightref05_size.f (k:Nat) (a0_0:Int) (a0_1:Int) (a0_2:Int) (a0_3:Int) (a0_4:Int) (a0_5:Int) (a0_6:Int) (a1:Bool):Option (Int):=if a0_0 = 2 then (some 0) else (if a0_0 = 5 then ((rushlightref05_Number.f k a0_2 a0_5).bind fun t267=>(some (wrap64 (4 * (t267.length:Int))))) else (if a1 = true then (some 8) else (some 4)))
set_option maxHeartbeats 8000000 in
set_option maxRecDepth 100000 in
theorem rushlightref05_size.calls (k:Nat) (a0_0:Int) (a0_1:Int) (a0_2:Int) (a0_3:Int) (a0_4:Int) (a0_5:Int) (a0_6:Int) (a1:Bool) (r:Int) (w:World) (h:rushlightref05_size.f k a0_0 a0_1 a0_2 a0_3 a0_4 a0_5 a0_6 a1 = some r) :
  Calls Try.prog 51 #[.agg #[.int .i64 a0_0,.int .i64 a0_1,.int .i64 a0_2,.int .i64 a0_3,.int .i64 a0_4,.int .i64 a0_5,.int .i64 a0_6],.bool a1] w fun e w'=>e = .returned (.int .i64 r)∧Below w.heap.size w w':=by
 have hu48:=Try.underlying48
 have HB:=Aside0.mk (Below.refl w.heap.size w)
 have H:(if a0_0 = 2 then (some 0) else (if a0_0 = 5 then ((rushlightref05_Number.f k a0_2 a0_5).bind fun t267=>(some (wrap64 (4 * (t267.length:Int))))) else (if a1 = true then (some 8) else (some 4)))) = some r:=h
 clear h
 by_cases c3:a0_0 = 2
 ·rw [if_pos c3] at H
  have c3b0:(a0_0 == 2) = true:=beq_iff_eq.mpr c3
  have c3b1:(a0_0 != 2) = false:=bne_eq_false_iff_eq.mpr c3
  clear c3
  obtain rfl:=Option.some.inj H
  go_enter Try.func51,Try.ntmps51
  go_wp2_with (first|((with_reducible refine gate_dst (N:=2) rfl ?_);refine box_event ?hg (N:=2) ?hd (cs:=#[.int .i64 a0_0,.int .i64 a0_1,.int .i64 a0_2,.int .i64 a0_3,.int .i64 a0_4,.int .i64 a0_5,.int .i64 a0_6]) (t:=48) ?hr ?_;(case hd=>rfl);(case hg=>rfl);(case hr=>first|(go_simp;done)|(go_simp;rfl));intro gb266 hg w4 hbox hb;have n0_:=Aside0.mk (below_step zmb9_6 hb);have n1_:=Aside0.mk (hbox);have n2_:=Aside0.mk ((by rw [hg];exact (below_size zmb9_6):w.heap.size≤gb266));have n3_:=Aside0.mk ((by rw [hg];exact (below_size zmb9_6):w.heap.size≤gb266));clear HB;have HB:=n0_;have BK266:=n1_;have GW266:=n2_;have GE266:=n3_;clear n0_ n1_ n2_ n3_;clear hb hbox hg;have hcz5_0:w4.cell? ⟨gb266,0,none⟩ = some (.int .i64 a0_0):=(blk_cell BK266.out 0).trans rfl;have hcz5_1:w4.cell? ⟨gb266,1,none⟩ = some (.int .i64 a0_1):=(blk_cell BK266.out 1).trans rfl;have hcz5_2:w4.cell? ⟨gb266,2,none⟩ = some (.int .i64 a0_2):=(blk_cell BK266.out 2).trans rfl;have hcz5_3:w4.cell? ⟨gb266,3,none⟩ = some (.int .i64 a0_3):=(blk_cell BK266.out 3).trans rfl;have hcz5_4:w4.cell? ⟨gb266,4,none⟩ = some (.int .i64 a0_4):=(blk_cell BK266.out 4).trans rfl;have hcz5_5:w4.cell? ⟨gb266,5,none⟩ = some (.int .i64 a0_5):=(blk_cell BK266.out 5).trans rfl;have hcz5_6:w4.cell? ⟨gb266,6,none⟩ = some (.int .i64 a0_6):=(blk_cell BK266.out 6).trans rfl;have hfz5_0:=blk_frozen BK266.out 0;have hfz5_1:=blk_frozen BK266.out 1;have hfz5_2:=blk_frozen BK266.out 2;have hfz5_3:=blk_frozen BK266.out 3;have hfz5_4:=blk_frozen BK266.out 4;have hfz5_5:=blk_frozen BK266.out 5;have hfz5_6:=blk_frozen BK266.out 6))
  go_ret
  exact ⟨zmb9_7,zmb9_8⟩
 ·rw [if_neg c3] at H
  have c3b0:(a0_0 == 2) = false:=beq_eq_false_iff_ne.mpr c3
  have c3b1:(a0_0 != 2) = true:=bne_iff_ne.mpr c3
  by_cases c6:a0_0 = 5
  ·rw [if_pos c6] at H
   have c6b0:(a0_0 == 5) = true:=beq_iff_eq.mpr c6
   have c6b1:(a0_0 != 5) = false:=bne_eq_false_iff_eq.mpr c6
   clear c6
   replace H:=Option.bind_eq_some_iff.mp H
   obtain ⟨t267,A70,H⟩:=H
   replace H:(some (wrap64 (4 * (t267.length:Int)))) = some r:=H
   have A7:=Aside0.mk A70
   clear A70
   obtain rfl:=Option.some.inj H
   go_enter Try.func51,Try.ntmps51
   go_wp2_with (first|((with_reducible refine gate_dst (N:=2) rfl ?_);refine box_event ?hg (N:=2) ?hd (cs:=#[.int .i64 a0_0,.int .i64 a0_1,.int .i64 a0_2,.int .i64 a0_3,.int .i64 a0_4,.int .i64 a0_5,.int .i64 a0_6]) (t:=48) ?hr ?_;(case hd=>rfl);(case hg=>rfl);(case hr=>first|(go_simp;done)|(go_simp;rfl));intro gb266 hg w8 hbox hb;have n0_:=Aside0.mk (below_step zmb9_6 hb);have n1_:=Aside0.mk (hbox);have n2_:=Aside0.mk ((by rw [hg];exact (below_size zmb9_6):w.heap.size≤gb266));have n3_:=Aside0.mk ((by rw [hg];exact (below_size zmb9_6):w.heap.size≤gb266));clear HB;have HB:=n0_;have BK266:=n1_;have GW266:=n2_;have GE266:=n3_;clear n0_ n1_ n2_ n3_;clear hb hbox hg;have hcz9_0:w8.cell? ⟨gb266,0,none⟩ = some (.int .i64 a0_0):=(blk_cell BK266.out 0).trans rfl;have hcz9_1:w8.cell? ⟨gb266,1,none⟩ = some (.int .i64 a0_1):=(blk_cell BK266.out 1).trans rfl;have hcz9_2:w8.cell? ⟨gb266,2,none⟩ = some (.int .i64 a0_2):=(blk_cell BK266.out 2).trans rfl;have hcz9_3:w8.cell? ⟨gb266,3,none⟩ = some (.int .i64 a0_3):=(blk_cell BK266.out 3).trans rfl;have hcz9_4:w8.cell? ⟨gb266,4,none⟩ = some (.int .i64 a0_4):=(blk_cell BK266.out 4).trans rfl;have hcz9_5:w8.cell? ⟨gb266,5,none⟩ = some (.int .i64 a0_5):=(blk_cell BK266.out 5).trans rfl;have hcz9_6:w8.cell? ⟨gb266,6,none⟩ = some (.int .i64 a0_6):=(blk_cell BK266.out 6).trans rfl;have hfz9_0:=blk_frozen BK266.out 0;have hfz9_1:=blk_frozen BK266.out 1;have hfz9_2:=blk_frozen BK266.out 2;have hfz9_3:=blk_frozen BK266.out 3;have hfz9_4:=blk_frozen BK266.out 4;have hfz9_5:=blk_frozen BK266.out 5;have hfz9_6:=blk_frozen BK266.out 6)|((with_reducible refine gate_callee (f:=24) rfl ?_);refine goesL_ (some 17) rfl rfl Try.func24 (by kernel_rfl) rfl #[.int .i64 a0_2,.int .i64 a0_5] rfl zmb9_5 ?_;(with_reducible refine (rushlightref05_Number.calls k a0_2 a0_5 t267 _ A7.out).mono ?_);rintro e w10 ⟨v268,rfl,ho0,hb⟩;refine ⟨_,rfl,?_⟩;have n0_:=Aside0.mk (Kd.R_lower ho0 (below_size zmb9_8));have n1_:=Aside0.mk (blk_below (g:=gb266) (o:=.cells #[.int .i64 a0_0,.int .i64 a0_1,.int .i64 a0_2,.int .i64 a0_3,.int .i64 a0_4,.int .i64 a0_5,.int .i64 a0_6] 48 (0,0)) (by (with_reducible repeat (first|refine blk_drewN ?_ _|refine blk_drew ?_|refine blk_alloc ?_ _));exact BK266.out) hb);have n2_:=Aside0.mk (below_step zmb9_8 hb);clear BK266 HB;have HO269:=n0_;have BK266:=n1_;have HB:=n2_;clear n0_ n1_ n2_;(try clear hb);(try clear hb2);(try clear hk);(try clear hi);(try clear ho0);obtain ⟨Ao11,co11,eo11⟩:=Kd.R_slice HO269.out;subst eo11))
   go_ret
   exact ⟨zmb9_7,zmb9_8⟩
  ·rw [if_neg c6] at H
   have c6b0:(a0_0 == 5) = false:=beq_eq_false_iff_ne.mpr c6
   have c6b1:(a0_0 != 5) = true:=bne_iff_ne.mpr c6
   by_cases c12:a1 = true
   ·subst c12
    have H1:(some 8) = some r:=by rw [if_pos rfl] at H;exact H
    clear H
    have H:=H1
    clear H1
    obtain rfl:=Option.some.inj H
    go_enter Try.func51,Try.ntmps51
    go_wp2_with (first|((with_reducible refine gate_dst (N:=2) rfl ?_);refine box_event ?hg (N:=2) ?hd (cs:=#[.int .i64 a0_0,.int .i64 a0_1,.int .i64 a0_2,.int .i64 a0_3,.int .i64 a0_4,.int .i64 a0_5,.int .i64 a0_6]) (t:=48) ?hr ?_;(case hd=>rfl);(case hg=>rfl);(case hr=>first|(go_simp;done)|(go_simp;rfl));intro gb266 hg w13 hbox hb;have n0_:=Aside0.mk (below_step zmb9_6 hb);have n1_:=Aside0.mk (hbox);have n2_:=Aside0.mk ((by rw [hg];exact (below_size zmb9_6):w.heap.size≤gb266));have n3_:=Aside0.mk ((by rw [hg];exact (below_size zmb9_6):w.heap.size≤gb266));clear HB;have HB:=n0_;have BK266:=n1_;have GW266:=n2_;have GE266:=n3_;clear n0_ n1_ n2_ n3_;clear hb hbox hg;have hcz14_0:w13.cell? ⟨gb266,0,none⟩ = some (.int .i64 a0_0):=(blk_cell BK266.out 0).trans rfl;have hcz14_1:w13.cell? ⟨gb266,1,none⟩ = some (.int .i64 a0_1):=(blk_cell BK266.out 1).trans rfl;have hcz14_2:w13.cell? ⟨gb266,2,none⟩ = some (.int .i64 a0_2):=(blk_cell BK266.out 2).trans rfl;have hcz14_3:w13.cell? ⟨gb266,3,none⟩ = some (.int .i64 a0_3):=(blk_cell BK266.out 3).trans rfl;have hcz14_4:w13.cell? ⟨gb266,4,none⟩ = some (.int .i64 a0_4):=(blk_cell BK266.out 4).trans rfl;have hcz14_5:w13.cell? ⟨gb266,5,none⟩ = some (.int .i64 a0_5):=(blk_cell BK266.out 5).trans rfl;have hcz14_6:w13.cell? ⟨gb266,6,none⟩ = some (.int .i64 a0_6):=(blk_cell BK266.out 6).trans rfl;have hfz14_0:=blk_frozen BK266.out 0;have hfz14_1:=blk_frozen BK266.out 1;have hfz14_2:=blk_frozen BK266.out 2;have hfz14_3:=blk_frozen BK266.out 3;have hfz14_4:=blk_frozen BK266.out 4;have hfz14_5:=blk_frozen BK266.out 5;have hfz14_6:=blk_frozen BK266.out 6))
    go_ret
    exact ⟨zmb9_7,zmb9_8⟩
   ·replace c12:=Bool.eq_false_iff.mpr c12
    subst c12
    have H1:(some 4) = some r:=by rw [if_neg (show ¬ (false = true) by decide)] at H;exact H
    clear H
    have H:=H1
    clear H1
    obtain rfl:=Option.some.inj H
    go_enter Try.func51,Try.ntmps51
    go_wp2_with (first|((with_reducible refine gate_dst (N:=2) rfl ?_);refine box_event ?hg (N:=2) ?hd (cs:=#[.int .i64 a0_0,.int .i64 a0_1,.int .i64 a0_2,.int .i64 a0_3,.int .i64 a0_4,.int .i64 a0_5,.int .i64 a0_6]) (t:=48) ?hr ?_;(case hd=>rfl);(case hg=>rfl);(case hr=>first|(go_simp;done)|(go_simp;rfl));intro gb266 hg w15 hbox hb;have n0_:=Aside0.mk (below_step zmb9_6 hb);have n1_:=Aside0.mk (hbox);have n2_:=Aside0.mk ((by rw [hg];exact (below_size zmb9_6):w.heap.size≤gb266));have n3_:=Aside0.mk ((by rw [hg];exact (below_size zmb9_6):w.heap.size≤gb266));clear HB;have HB:=n0_;have BK266:=n1_;have GW266:=n2_;have GE266:=n3_;clear n0_ n1_ n2_ n3_;clear hb hbox hg;have hcz16_0:w15.cell? ⟨gb266,0,none⟩ = some (.int .i64 a0_0):=(blk_cell BK266.out 0).trans rfl;have hcz16_1:w15.cell? ⟨gb266,1,none⟩ = some (.int .i64 a0_1):=(blk_cell BK266.out 1).trans rfl;have hcz16_2:w15.cell? ⟨gb266,2,none⟩ = some (.int .i64 a0_2):=(blk_cell BK266.out 2).trans rfl;have hcz16_3:w15.cell? ⟨gb266,3,none⟩ = some (.int .i64 a0_3):=(blk_cell BK266.out 3).trans rfl;have hcz16_4:w15.cell? ⟨gb266,4,none⟩ = some (.int .i64 a0_4):=(blk_cell BK266.out 4).trans rfl;have hcz16_5:w15.cell? ⟨gb266,5,none⟩ = some (.int .i64 a0_5):=(blk_cell BK266.out 5).trans rfl;have hcz16_6:w15.cell? ⟨gb266,6,none⟩ = some (.int .i64 a0_6):=(blk_cell BK266.out 6).trans rfl;have hfz16_0:=blk_frozen BK266.out 0;have hfz16_1:=blk_frozen BK266.out 1;have hfz16_2:=blk_frozen BK266.out 2;have hfz16_3:=blk_frozen BK266.out 3;have hfz16_4:=blk_frozen BK266.out 4;have hfz16_5:=blk_frozen BK266.out 5;have hfz16_6:=blk_frozen BK266.out 6))
    go_ret
    exact ⟨zmb9_7,zmb9_8⟩
def rushlightref05_places.l0:Nat→List (S48)→List Bool→List Int→Int→Int→Option (List Int)
 | 0,_,_,_,_,_=>none
 | k + 1,x0,x1,x5,x6,x7=>if x7 < (x0.length:Int) then (if x5.length < 17592186044416 then (if 0≤x7 then (if x7 < (x1.length:Int) then ((rushlightref05_size.f k ((rd_T48 x0 x7).f0) ((rd_T48 x0 x7).f1.f0) ((rd_T48 x0 x7).f1.f1) ((rd_T48 x0 x7).f1.f2) ((rd_T48 x0 x7).f1.f3) ((rd_T48 x0 x7).f1.f4) ((rd_T48 x0 x7).f2) (rdOf false x1 x7)).bind fun t275=>(rushlightref05_places.l0 k x0 x1 (x5 ++ [x6]) (wrap64 (x6 + t275)) (wrap64 (x7 + 1)))) else (none)) else (none)) else (none)) else (if x5.length < 17592186044416 then (some (x5 ++ [x6])) else (none))
def rushlightref05_places.f (k:Nat) (l0:List (S48)) (l1:List Bool):Option (List Int):=rushlightref05_places.l0 k l0 l1 ([]:List Int) 0 0
def rushlightref05_places.T7:Bool × List (List Nat × List Nat):=(true,[([],[]),([],[]),([],[]),([1,2],[1,2]),([3],[3]),([],[]),([],[]),([5,6],[5,6]),([7],[7]),([4,8],[4,8]),([0,9],[0,9]),([10,9,0,1,2,3,4,5,6,7,8,9,10],[0,10])])
def rushlightref05_places.B7:List Nat:=[0,0,0,6,14,0,0,96,224,510,1023,2047]
theorem rushlightref05_places.tab7:rtab .any (opsOf Try.f32 7) = rushlightref05_places.T7:=by kernel_rfl
theorem rushlightref05_places.bits7:waitsOk rushlightref05_places.T7.2 rushlightref05_places.B7 = true:=by kernel_rfl
set_option maxHeartbeats 8000000 in
set_option maxRecDepth 100000 in
theorem rushlightref05_places.calls (k:Nat) (A0:Option Addr) (c0:Nat) (l0:List (S48)) (A1:Option Addr) (c1:Nat) (l1:List Bool) (r:List Int) (w:World) (hr0:Kd.C k48 w A0 l0.length l0) (hc0:l0.length≤c0) (hr1:Kd.C Kd.bool w A1 l1.length l1) (hc1:l1.length≤c1) (h:rushlightref05_places.f k l0 l1 = some r) :
  Calls Try.prog 32 #[.slice A0 l0.length c0,.slice A1 l1.length c1] w fun e w'=>∃ v0_:Value,e = .returned (v0_)∧Kd.R (Kd.int .i64) 3 w' w.heap.size (fun _=>True) v0_ r∧Below w.heap.size w w':=by
 have hu48:=Try.underlying48
 have HR0:=Aside0.mk hr0
 have HC0:=Aside0.mk hc0
 clear hr0 hc0
 have HR1:=Aside0.mk hr1
 have HC1:=Aside0.mk hc1
 clear hr1 hc1
 have HB:=Aside0.mk (Below.refl w.heap.size w)
 have H:(rushlightref05_places.l0 k l0 l1 ([]:List Int) 0 0) = some r:=h
 clear h
 have H':=Aside0.mk H
 clear H
 go_enter Try.func32,Try.ntmps32
 go_wp2
 go_loopg [5,6,7] k (fun kq v5 v6 v7 w'=>∃ (x5_1:List Int) (x6_1:Int) (x7_1:Int),v6 = .int .i64 x6_1∧v7 = .int .i64 x7_1∧Aside0 (rushlightref05_places.l0 kq l0 l1 x5_1 x6_1 x7_1 = some r)∧Aside0 (kq≤k)∧Aside0 (Kd.R (Kd.int .i64) 3 w' w.heap.size (fun _=>True) v5 x5_1)∧Aside0 (Below w.heap.size w w'))
 case atStart=>exact ⟨(([]:List Int)),(0),(0),zmb9_0,zmb9_0,H',⟨Nat.le_refl _⟩,⟨by first|exact Kd.R_nil _ _ _ _ _|exact Kd.N_nil _ _ _ _ _|exact Kd.V_nil _ _ _ _ _|exact Kd.Q_nil _ _ _ _ _|exact Kd.S_nil _ _ _ _ _⟩,⟨zmb9_6⟩⟩
 case round =>
  clear H'
  try clear c1
  try clear p2
  obtain ⟨x5_1,x6_1,x7_1,rfl,rfl,HA,HK1,HO_5,HB⟩:=hrel
  cases gk with
  | zero=>exact absurd HA.out (by simp [rushlightref05_places.l0])
  | succ k1 =>
   have H:=HA.out
   clear HA
   simp only [rushlightref05_places.l0] at H
   by_cases c3:x7_1 < (l0.length:Int)
   ·rw [if_pos c3] at H
    have c3b0:decide (x7_1 < (l0.length:Int)) = true:=decide_eq_true c3
    clear c3
    by_cases c4:x5_1.length < 17592186044416
    ·rw [if_pos c4] at H
     have LMc4:=Aside0.mk c4
     clear c4
     obtain ⟨y270,hy270⟩:∃ y_:List Int,y_ = (x5_1 ++ [x6_1]):=⟨_,rfl⟩
     replace H:(if 0≤x7_1 then (if x7_1 < (l1.length:Int) then ((rushlightref05_size.f k1 ((rd_T48 l0 x7_1).f0) ((rd_T48 l0 x7_1).f1.f0) ((rd_T48 l0 x7_1).f1.f1) ((rd_T48 l0 x7_1).f1.f2) ((rd_T48 l0 x7_1).f1.f3) ((rd_T48 l0 x7_1).f1.f4) ((rd_T48 l0 x7_1).f2) (rdOf false l1 x7_1)).bind fun t275=>(rushlightref05_places.l0 k1 l0 l1 y270 (wrap64 (x6_1 + t275)) (wrap64 (x7_1 + 1)))) else (none)) else (none)) = some r:=by first|(rw [hy270];with_reducible exact H)|(have H2_:=(Option.bind_some _ _).symm.trans H;rw [hy270];with_reducible exact H2_)|(have H2_:=(Option.bind_some _ _).symm.trans H;with_reducible exact H2_)|with_reducible exact H|(rw [hy270];exact H)|exact H
     have Ny270:=Aside0.mk hy270
     clear hy270
     by_cases c5:0≤x7_1
     ·rw [if_pos c5] at H
      have c5b0:decide (0≤x7_1) = true:=decide_eq_true c5
      clear c5
      by_cases c6:x7_1 < (l1.length:Int)
      ·rw [if_pos c6] at H
       have c6b0:decide (x7_1 < (l1.length:Int)) = true:=decide_eq_true c6
       clear c6
       replace H:=Option.bind_eq_some_iff.mp H
       obtain ⟨t275,A70,H⟩:=H
       replace H:(rushlightref05_places.l0 k1 l0 l1 y270 (wrap64 (x6_1 + t275)) (wrap64 (x7_1 + 1))) = some r:=H
       have A7:=Aside0.mk A70
       clear A70
       have H':=Aside0.mk H
       clear H
       try go_wp2_with (first|((with_reducible refine gate_builtin (b:=.append) (xs:=#[.tmp 14,.tmp 16]) rfl ?_);at_builtin;refine Kd.R_append (Kd.int .i64) (w0:=w) w.heap.size rfl (.tmp 14) (.tmp 16) 26 3 (.int .i64 0) 8 rfl Try.underlying26 info3 rfl (by decide) (by omega) u5 x5_1 x6_1 [.int .i64 x6_1] (fun _=>True) (fun _=>False) rfl rfl ?aP (fun _ hk=>hk.elim) ?aF ?aO ?aB ?aS ?aL ?_;(case aP=>exact rfl);(case aB=>exact zmb9_6);(case aF=>exact (fun _ _=>trivial));(case aO=>exact zmb9_9);(case aS=>exact (below_size zmb9_6));(case aL=>have:=LMc4.out;omega);intro v271 w8 ho hb hg hat;rw [← Ny270.out] at ho;have n0_:=Aside0.mk (hb);have n1_:=Aside0.mk (ho);clear HB HO_5;have HB:=n0_;have HO272:=n1_;clear n0_ n1_;clear ho hb hg hat))
       have n0_:=Aside0.mk (Kd.R_drew HO272.out)
       have n1_:=Aside0.mk (below_drew1 HB.out)
       clear HO272
       clear HB
       have HO272:=n0_
       have HB:=n1_
       clear n0_ n1_
       have p273:0≤(x7_1:Int):=of_decide_eq_true zmb9_4
       have q273:x7_1 < (l0.length:Int):=of_decide_eq_true zmb9_4
       obtain ⟨ad273,e273,hx273_0,hx273_1,hx273_2,hx273_3,hx273_4,hx273_5,hx273_6⟩:=at_T48 HR0.out x7_1 p273 q273
       have hw273_6:=hx273_6
       have hw273_5:=hx273_5
       have hw273_4:=hx273_4
       have hw273_3:=hx273_3
       have hw273_2:=hx273_2
       have hw273_1:=hx273_1
       have hw273_0:=hx273_0
       cases e273
       replace hx273_0:=(HB.out.cell (World.block_lt_of_cell? w _ hx273_0)).trans hx273_0
       replace hx273_1:=(HB.out.cell (World.block_lt_of_cell? w _ hx273_1)).trans hx273_1
       replace hx273_2:=(HB.out.cell (World.block_lt_of_cell? w _ hx273_2)).trans hx273_2
       replace hx273_3:=(HB.out.cell (World.block_lt_of_cell? w _ hx273_3)).trans hx273_3
       replace hx273_4:=(HB.out.cell (World.block_lt_of_cell? w _ hx273_4)).trans hx273_4
       replace hx273_5:=(HB.out.cell (World.block_lt_of_cell? w _ hx273_5)).trans hx273_5
       replace hx273_6:=(HB.out.cell (World.block_lt_of_cell? w _ hx273_6)).trans hx273_6
       replace p273:=eq_true p273
       replace q273:=eq_true q273
       have p274:0≤(x7_1:Int):=of_decide_eq_true zmb9_4
       have q274:x7_1 < (l1.length:Int):=of_decide_eq_true zmb9_4
       obtain ⟨ad274,e274,hx274_0⟩:=Kd.at_bool HR1.out x7_1 p274 q274
       have hw274_0:=hx274_0
       cases e274
       replace hx274_0:=(HB.out.cell (World.block_lt_of_cell? w _ hx274_0)).trans hx274_0
       replace p274:=eq_true p274
       replace q274:=eq_true q274
       refine start_ (n:=12) (S:=fun w'=>w'.cell? (ad273.add ((x7_1).toNat * 7)) = some (.int .i64 ((rd_T48 l0 x7_1).f0))∧w'.cell? ⟨(ad273.add ((x7_1).toNat * 7)).block,(ad273.add ((x7_1).toNat * 7)).off + 1,none⟩ = some (.int .i64 ((rd_T48 l0 x7_1).f1.f0))∧w'.cell? ⟨(ad273.add ((x7_1).toNat * 7)).block,(ad273.add ((x7_1).toNat * 7)).off + 2,none⟩ = some (.int .i64 ((rd_T48 l0 x7_1).f1.f1))∧w'.cell? ⟨(ad273.add ((x7_1).toNat * 7)).block,(ad273.add ((x7_1).toNat * 7)).off + 3,none⟩ = some (.int .i64 ((rd_T48 l0 x7_1).f1.f2))∧w'.cell? ⟨(ad273.add ((x7_1).toNat * 7)).block,(ad273.add ((x7_1).toNat * 7)).off + 4,none⟩ = some (.int .i64 ((rd_T48 l0 x7_1).f1.f3))∧w'.cell? ⟨(ad273.add ((x7_1).toNat * 7)).block,(ad273.add ((x7_1).toNat * 7)).off + 5,none⟩ = some (.int .i64 ((rd_T48 l0 x7_1).f1.f4))∧w'.cell? ⟨(ad273.add ((x7_1).toNat * 7)).block,(ad273.add ((x7_1).toNat * 7)).off + 6,none⟩ = some (.int .i64 ((rd_T48 l0 x7_1).f2))∧w'.cell? (ad274.add (x7_1).toNat) = some (.bool (rdOf false l1 x7_1))) (ds:=[]) #[false,false,false,false,false,false,false,false,false,false,false,false] (by kernel_rfl) rfl rfl ⟨((HB.out.cell (World.block_lt_of_cell? w _ hw273_0)).trans hw273_0),((HB.out.cell (World.block_lt_of_cell? w _ hw273_1)).trans hw273_1),((HB.out.cell (World.block_lt_of_cell? w _ hw273_2)).trans hw273_2),((HB.out.cell (World.block_lt_of_cell? w _ hw273_3)).trans hw273_3),((HB.out.cell (World.block_lt_of_cell? w _ hw273_4)).trans hw273_4),((HB.out.cell (World.block_lt_of_cell? w _ hw273_5)).trans hw273_5),((HB.out.cell (World.block_lt_of_cell? w _ hw273_6)).trans hw273_6),((HB.out.cell (World.block_lt_of_cell? w _ hw274_0)).trans hw274_0)⟩ (fun hHeld=>?_);refine with_tabW rushlightref05_places.tab7 rushlightref05_places.bits7 (fun HT_ HW_=>?_)
       generalize w8.drew = w9 at HO272 HB hx273_0 hx273_1 hx273_2 hx273_3 hx273_4 hx273_5 hx273_6 hx274_0 hHeld ⊢
       refine pure_ (i:=0) (N:=some 18) (v:=?_) (a':=?_) #[true,false,false,false,false,false,false,false,false,false,false,false] rfl rfl (any_of HT_.out (by kernel_rfl)) (fun _ _ _ h=>h) (Or.inl ⟨by rfl,?_⟩) ?_ ?_
       rotate_left
       ·intro w'
        go_simp
        with_reducible rfl
       rotate_left
       ·simp only [Act.put,List.setIfInBounds_toArray,List.set_cons_zero,List.set_cons_succ,i64_w,i32_w]
        rfl
       refine pure_ (i:=1) (N:=some 19) (v:=?_) (a':=?_) #[true,true,false,false,false,false,false,false,false,false,false,false] rfl rfl (any_of HT_.out (by kernel_rfl)) (fun _ _ _ h=>h) (Or.inl ⟨by rfl,?_⟩) ?_ ?_
       rotate_left
       ·intro w'
        go_simp
        with_reducible rfl
       rotate_left
       ·simp only [Act.put,List.setIfInBounds_toArray,List.set_cons_zero,List.set_cons_succ,i64_w,i32_w]
        rfl
       refine pure_ (i:=2) (N:=some 20) (v:=?_) (a':=?_) #[true,true,true,false,false,false,false,false,false,false,false,false] rfl rfl (any_of HT_.out (by kernel_rfl)) (fun _ _ _ h=>h) (Or.inl ⟨by rfl,?_⟩) ?_ ?_
       rotate_left
       ·intro w'
        go_simp
        with_reducible rfl
       rotate_left
       ·simp only [Act.put,List.setIfInBounds_toArray,List.set_cons_zero,List.set_cons_succ,i64_w,i32_w]
        rfl
       refine pure_ (i:=3) (N:=some 21) (v:=?_) (a':=?_) #[true,true,true,true,false,false,false,false,false,false,false,false] rfl rfl (any_of HT_.out (by kernel_rfl)) (fun _ _ _ h=>h) (Or.inl ⟨by rfl,?_⟩) ?_ ?_
       rotate_left
       ·intro w'
        go_simp
        with_reducible rfl
       rotate_left
       ·simp only [Act.put,List.setIfInBounds_toArray,List.set_cons_zero,List.set_cons_succ,i64_w,i32_w]
        rfl
       refine pure_ (i:=5) (N:=some 23) (v:=?_) (a':=?_) #[true,true,true,true,false,true,false,false,false,false,false,false] rfl rfl (any_of HT_.out (by kernel_rfl)) (fun _ _ _ h=>h) (Or.inl ⟨by rfl,?_⟩) ?_ ?_
       rotate_left
       ·intro w'
        go_simp
        with_reducible rfl
       rotate_left
       ·simp only [Act.put,List.setIfInBounds_toArray,List.set_cons_zero,List.set_cons_succ,i64_w,i32_w]
        rfl
       refine pure_ (i:=6) (N:=some 24) (v:=?_) (a':=?_) #[true,true,true,true,false,true,true,false,false,false,false,false] rfl rfl (any_of HT_.out (by kernel_rfl)) (fun _ _ _ h=>h) (Or.inl ⟨by rfl,?_⟩) ?_ ?_
       rotate_left
       ·intro w'
        go_simp
        with_reducible rfl
       rotate_left
       ·simp only [Act.put,List.setIfInBounds_toArray,List.set_cons_zero,List.set_cons_succ,i64_w,i32_w]
        rfl
       refine pure_ (i:=7) (N:=some 25) (v:=?_) (a':=?_) #[true,true,true,true,false,true,true,true,false,false,false,false] rfl rfl (any_of HT_.out (by kernel_rfl)) (fun _ _ _ h=>h) (Or.inl ⟨by rfl,?_⟩) ?_ ?_
       rotate_left
       ·intro w'
        go_simp
        with_reducible rfl
       rotate_left
       ·simp only [Act.put,List.setIfInBounds_toArray,List.set_cons_zero,List.set_cons_succ,i64_w,i32_w]
        rfl
       refine take_ (i:=4) (N:=some 22) (v:=?_) (a':=?_) #[true,true,true,true,true,true,true,true,false,false,false,false] rfl rfl (take_ofW HT_.out HW_.out (by kernel_rfl)) (fun _ _ _ h=>h) (Or.inl ⟨by rfl,?_⟩) hHeld ?_ ?_
       rotate_left
       ·rintro w' ⟨s0,s1,s2,s3,s4,s5,s6,s7⟩
        go_simp
        with_reducible rfl
       rotate_left
       ·simp only [Act.put,List.setIfInBounds_toArray,List.set_cons_zero,List.set_cons_succ,i64_w,i32_w]
        rfl
       refine take_ (i:=8) (N:=some 26) (v:=?_) (a':=?_) #[true,true,true,true,true,true,true,true,true,false,false,false] rfl rfl (take_ofW HT_.out HW_.out (by kernel_rfl)) (fun _ _ _ h=>h) (Or.inl ⟨by rfl,?_⟩) hHeld ?_ ?_
       rotate_left
       ·rintro w' ⟨s0,s1,s2,s3,s4,s5,s6,s7⟩
        go_simp
        with_reducible rfl
       rotate_left
       ·simp only [Act.put,List.setIfInBounds_toArray,List.set_cons_zero,List.set_cons_succ,i64_w,i32_w]
        rfl
       refine one_ (i:=9) (N:=some 27) #[true,true,true,true,true,true,true,true,true,true,false,false] rfl rfl (one_of HT_.out (by kernel_rfl)) (by decide) (fun K hK=>?_)
       refine goes_ Try.func51 (by kernel_rfl) rfl #[.agg #[.int .i64 ((rd_T48 l0 x7_1).f0),.int .i64 ((rd_T48 l0 x7_1).f1.f0),.int .i64 ((rd_T48 l0 x7_1).f1.f1),.int .i64 ((rd_T48 l0 x7_1).f1.f2),.int .i64 ((rd_T48 l0 x7_1).f1.f3),.int .i64 ((rd_T48 l0 x7_1).f1.f4),.int .i64 ((rd_T48 l0 x7_1).f2)],.bool (rdOf false l1 x7_1)] (by rfl) rfl rfl zmb9_5 ?_
       with_reducible refine (rushlightref05_size.calls k1 ((rd_T48 l0 x7_1).f0) ((rd_T48 l0 x7_1).f1.f0) ((rd_T48 l0 x7_1).f1.f1) ((rd_T48 l0 x7_1).f1.f2) ((rd_T48 l0 x7_1).f1.f3) ((rd_T48 l0 x7_1).f1.f4) ((rd_T48 l0 x7_1).f2) (rdOf false l1 x7_1) t275 _ A7.out).mono ?_
       rintro e w10 ⟨rfl,hb⟩
       refine ⟨_,rfl,?_⟩
       have n0_:=Aside0.mk (Kd.R_below zmb9_10 hb)
       have n1_:=Aside0.mk (below_step zmb9_6 hb)
       clear HO272
       clear HB
       have HO272:=n0_
       have HB:=n1_
       clear n0_ n1_
       (try clear hb)
       (try clear hb2)
       (try clear hk)
       (try clear hi)
       refine hK.out _ _ ⟨((HB.out.cell (World.block_lt_of_cell? w _ hw273_0)).trans hw273_0),((HB.out.cell (World.block_lt_of_cell? w _ hw273_1)).trans hw273_1),((HB.out.cell (World.block_lt_of_cell? w _ hw273_2)).trans hw273_2),((HB.out.cell (World.block_lt_of_cell? w _ hw273_3)).trans hw273_3),((HB.out.cell (World.block_lt_of_cell? w _ hw273_4)).trans hw273_4),((HB.out.cell (World.block_lt_of_cell? w _ hw273_5)).trans hw273_5),((HB.out.cell (World.block_lt_of_cell? w _ hw273_6)).trans hw273_6),((HB.out.cell (World.block_lt_of_cell? w _ hw274_0)).trans hw274_0)⟩ (fun hHeld=>?_)
       clear hK K
       refine norm_ (a':=?_) ?_ ?_
       rotate_left
       ·show Act.put _ (some 27) _ = _
        simp only [Act.put,List.setIfInBounds_toArray,List.set_cons_zero,List.set_cons_succ,i64_w,i32_w]
        rfl
       refine pure_ (i:=10) (N:=some 28) (v:=?_) (a':=?_) #[true,true,true,true,true,true,true,true,true,true,true,false] rfl rfl (any_of HT_.out (by kernel_rfl)) (fun _ _ _ h=>h) (Or.inl ⟨by rfl,?_⟩) ?_ ?_
       rotate_left
       ·intro w'
        go_simp
        with_reducible rfl
       rotate_left
       ·simp only [Act.put,List.setIfInBounds_toArray,List.set_cons_zero,List.set_cons_succ,i64_w,i32_w]
        rfl
       refine pure_ (i:=11) (N:=some 6) (v:=?_) (a':=?_) #[true,true,true,true,true,true,true,true,true,true,true,true] rfl rfl (any_of HT_.out (by kernel_rfl)) (fun _ _ _ h=>h) (Or.inl ⟨by rfl,?_⟩) ?_ ?_
       rotate_left
       ·intro w'
        go_simp
        with_reducible rfl
       rotate_left
       ·simp only [Act.put,List.setIfInBounds_toArray,List.set_cons_zero,List.set_cons_succ,i64_w,i32_w]
        rfl
       refine done_ (done_of HT_.out (by kernel_rfl)) ?_
       try go_wp2
       go_roundg k1
       case measure=>have:=HK1.out;omega
       case rel=>exact ⟨(y270),(wrap64 (x6_1 + t275)),(wrap64 (x7_1 + 1)),zmb9_0,zmb9_0,H',⟨by have:=HK1.out;omega⟩,⟨zmb9_10⟩,⟨zmb9_6⟩⟩
      ·rw [if_neg c6] at H
       exact absurd H (by simp)
     ·rw [if_neg c5] at H
      exact absurd H (by simp)
    ·rw [if_neg c4] at H
     exact absurd H (by simp)
   ·rw [if_neg c3] at H
    have c3b0:decide (x7_1 < (l0.length:Int)) = false:=decide_eq_false c3
    clear c3
    by_cases c11:x5_1.length < 17592186044416
    ·rw [if_pos c11] at H
     have LMc11:=Aside0.mk c11
     clear c11
     obtain ⟨y276,hy276⟩:∃ y_:List Int,y_ = (x5_1 ++ [x6_1]):=⟨_,rfl⟩
     replace H:(some y276) = some r:=by first|(rw [hy276];with_reducible exact H)|(have H2_:=(Option.bind_some _ _).symm.trans H;rw [hy276];with_reducible exact H2_)|(have H2_:=(Option.bind_some _ _).symm.trans H;with_reducible exact H2_)|with_reducible exact H|(rw [hy276];exact H)|exact H
     have Ny276:=Aside0.mk hy276
     clear hy276
     obtain rfl:=Option.some.inj H
     go_wp2_with (first|((with_reducible refine gate_builtin (b:=.append) (xs:=#[.tmp 29,.tmp 31]) rfl ?_);at_builtin;refine Kd.R_append (Kd.int .i64) (w0:=w) w.heap.size rfl (.tmp 29) (.tmp 31) 26 3 (.int .i64 0) 8 rfl Try.underlying26 info3 rfl (by decide) (by omega) u5 x5_1 x6_1 [.int .i64 x6_1] (fun _=>True) (fun _=>False) rfl rfl ?aP (fun _ hk=>hk.elim) ?aF ?aO ?aB ?aS ?aL ?_;(case aP=>exact rfl);(case aB=>exact zmb9_6);(case aF=>exact (fun _ _=>trivial));(case aO=>exact zmb9_9);(case aS=>exact (below_size zmb9_6));(case aL=>have:=LMc11.out;omega);intro v277 w12 ho hb hg hat;rw [← Ny276.out] at ho;have n0_:=Aside0.mk (hb);have n1_:=Aside0.mk (ho);clear HB HO_5;have HB:=n0_;have HO278:=n1_;clear n0_ n1_;clear ho hb hg hat))
     go_ret
     exact ⟨_,zmb9_7,by (with_reducible repeat (first|apply Kd.R_alloc|apply Kd.R_drewN|apply Kd.R_drew));exact HO278.out,zmb9_6⟩
    ·rw [if_neg c11] at H
     exact absurd H (by simp)
end Go.Proofs.Ytecbponmpinnoaa.P
end
section
namespace Go.Proofs.Ytecbponmpinnoaa.P
open Go.RowKit Go.Proofs.YtecbponmpinnoaaW.PrintWords Go.Proofs.YtecbponmpinnoaaW.PrintLast Go.Proofs.YtecbponmpinnoaaW.PrintMore
attribute [local go_sem] max2_int min2_int max_two min_two max_three min_three max_four min_four   
set_option linter.unusedVariables false
set_option linter.unusedSimpArgs false
mutual
def rushlightref05_Far.l0:Nat→List (S48)→List Bool→Int→Option (List Bool)
 | 0,_,_,_=>none
 | k + 1,x0,x3,x4=>if x4≤(x0.length:Int) then ((rushlightref05_places.f k x0 x3).bind fun t282=>(if 0≤(x0.length:Int) then (if ((x0.length:Int):Int).toNat≤281474976710656 then (rushlightref05_Far.l1 k x0 x3 x4 t282 (List.replicate ((x0.length:Int):Int).toNat false) 0) else (none)) else (none))) else (some x3)
def rushlightref05_Far.l1:Nat→List (S48)→List Bool→Int→List Int→List Bool→Int→Option (List Bool)
 | 0,_,_,_,_,_,_=>none
 | k + 1,x0,x3,x4,x5,x6,x7=>if x7 < (x0.length:Int) then (if 0≤x7 then (if x7 < (x3.length:Int) then (if x7 < (x6.length:Int) then ((some (x6.set (x7:Int).toNat (rdOf false x3 x7):List Bool)).bind fun y289=>(if ((rd_T48 x0 x7).f0) = 3 then ((rushlightref05_stands.f k x0 ((rd_T48 x0 x7).f2)).bind fun t292=>(if 0≤t292 then (if t292 < (x5.length:Int) then (if x7 < (x5.length:Int) then (if rdOf false x3 x7 = true then (rushlightref05_Far.l1 k x0 x3 x4 x5 (y289.set (x7:Int).toNat true) (wrap64 (x7 + 1))) else (if (wrap64 ((rd x5 t292) - (rd x5 x7))) < (-4096) then (rushlightref05_Far.l1 k x0 x3 x4 x5 (y289.set (x7:Int).toNat true) (wrap64 (x7 + 1))) else (rushlightref05_Far.l1 k x0 x3 x4 x5 (y289.set (x7:Int).toNat (decide ((wrap64 ((rd x5 t292) - (rd x5 x7))) > 4094))) (wrap64 (x7 + 1))))) else (none)) else (none)) else (none))) else (rushlightref05_Far.l1 k x0 x3 x4 x5 y289 (wrap64 (x7 + 1))))) else (none)) else (none)) else (none)) else (rushlightref05_Far.l0 k x0 x6 (wrap64 (x4 + 1)))
end
def rushlightref05_Far.f (k:Nat) (l0:List (S48)):Option (List Bool):=if 0≤(l0.length:Int) then (if ((l0.length:Int):Int).toNat≤281474976710656 then (rushlightref05_Far.l0 k l0 (List.replicate ((l0.length:Int):Int).toNat false) 0) else (none)) else (none)
set_option maxHeartbeats 8000000 in
set_option maxRecDepth 100000 in
theorem rushlightref05_Far.calls (k:Nat) (A0:Option Addr) (c0:Nat) (l0:List (S48)) (r:List Bool) (w:World) (hr0:Kd.C k48 w A0 l0.length l0) (hc0:l0.length≤c0) (h:rushlightref05_Far.f k l0 = some r) :
  Calls Try.prog 31 #[.slice A0 l0.length c0] w fun e w'=>∃ v0_:Value,e = .returned (v0_)∧Kd.R Kd.bool 4 w' w.heap.size (fun _=>True) v0_ r∧Below w.heap.size w w':=by
 have HR0:=Aside0.mk hr0
 have HC0:=Aside0.mk hc0
 clear hr0 hc0
 have HB:=Aside0.mk (Below.refl w.heap.size w)
 have H:(if 0≤(l0.length:Int) then (if ((l0.length:Int):Int).toNat≤281474976710656 then (rushlightref05_Far.l0 k l0 (List.replicate ((l0.length:Int):Int).toNat false) 0) else (none)) else (none)) = some r:=h
 clear h
 by_cases c2:0≤(l0.length:Int)
 ·rw [if_pos c2] at H
  have c2b0:=eq_true c2
  have c2b1:decide (0≤(l0.length:Int)) = true:=decide_eq_true c2
  clear c2
  by_cases c3:((l0.length:Int):Int).toNat≤281474976710656
  ·rw [if_pos c3] at H
   have c3b0:=eq_true c3
   have c3b1:decide (((l0.length:Int):Int).toNat≤281474976710656) = true:=decide_eq_true c3
   clear c3
   obtain ⟨y279,hy279⟩:∃ y_:List Bool,y_ = (List.replicate ((l0.length:Int):Int).toNat false):=⟨_,rfl⟩
   replace H:(rushlightref05_Far.l0 k l0 y279 0) = some r:=by first|(rw [hy279];with_reducible exact H)|(have H2_:=(Option.bind_some _ _).symm.trans H;rw [hy279];with_reducible exact H2_)|(have H2_:=(Option.bind_some _ _).symm.trans H;with_reducible exact H2_)|with_reducible exact H|(rw [hy279];exact H)|exact H
   have Ny279:=Aside0.mk hy279
   clear hy279
   have H':=Aside0.mk H
   clear H
   go_enter Try.func31,Try.ntmps31
   go_wp2_with (first|((with_reducible refine gate_dst (N:=11) rfl ?_);refine Kd.R_make Kd.bool _ 4 rfl (N:=11) rfl 63 _ _ rfl (l0.length:Int) rfl rfl Try.underlying63 (.bool false) 1 info4 rfl (by decide) (by omega) false (ok:=fun _=>True) (okp:=fun _=>True) rfl (fun _ hk=>hk) trivial (of_decide_eq_true zmb9_4) (Nat.le_trans (Nat.mul_le_mul_right _ (of_decide_eq_true zmb9_4:(l0.length:Int).toNat≤281474976710656)) (by omega)) (Below.refl _ _) (Nat.le_refl _) ?_;intro v280 w4 ho5 hb hg_ hnew_;clear hg_ hnew_;(first|rw [← Ny279.out] at ho5|(simp only [Int.reduceToNat] at ho5;rw [← Ny279.out] at ho5));have n0_:=Aside0.mk (Kd.R_lower ho5 (below_size zmb9_6));have n1_:=Aside0.mk (below_step zmb9_6 hb);clear HB;have HO281:=n0_;have HB:=n1_;clear n0_ n1_;clear hb ho5))
   repeat (go_quiet (first|((with_reducible refine gate_dst (N:=11) rfl ?_);refine Kd.R_make Kd.bool _ 4 rfl (N:=11) rfl 63 _ _ rfl (l0.length:Int) rfl rfl Try.underlying63 (.bool false) 1 info4 rfl (by decide) (by omega) false (ok:=fun _=>True) (okp:=fun _=>True) rfl (fun _ hk=>hk) trivial (of_decide_eq_true zmb9_4) (Nat.le_trans (Nat.mul_le_mul_right _ (of_decide_eq_true zmb9_4:(l0.length:Int).toNat≤281474976710656)) (by omega)) (Below.refl _ _) (Nat.le_refl _) ?_;intro v280 w4 ho5 hb hg_ hnew_;clear hg_ hnew_;(first|rw [← Ny279.out] at ho5|(simp only [Int.reduceToNat] at ho5;rw [← Ny279.out] at ho5));have n0_:=Aside0.mk (Kd.R_lower ho5 (below_size zmb9_6));have n1_:=Aside0.mk (below_step zmb9_6 hb);clear HB;have HO281:=n0_;have HB:=n1_;clear n0_ n1_;clear hb ho5));try go_wp2_with (first|((with_reducible refine gate_dst (N:=11) rfl ?_);refine Kd.R_make Kd.bool _ 4 rfl (N:=11) rfl 63 _ _ rfl (l0.length:Int) rfl rfl Try.underlying63 (.bool false) 1 info4 rfl (by decide) (by omega) false (ok:=fun _=>True) (okp:=fun _=>True) rfl (fun _ hk=>hk) trivial (of_decide_eq_true zmb9_4) (Nat.le_trans (Nat.mul_le_mul_right _ (of_decide_eq_true zmb9_4:(l0.length:Int).toNat≤281474976710656)) (by omega)) (Below.refl _ _) (Nat.le_refl _) ?_;intro v280 w4 ho5 hb hg_ hnew_;clear hg_ hnew_;(first|rw [← Ny279.out] at ho5|(simp only [Int.reduceToNat] at ho5;rw [← Ny279.out] at ho5));have n0_:=Aside0.mk (Kd.R_lower ho5 (below_size zmb9_6));have n1_:=Aside0.mk (below_step zmb9_6 hb);clear HB;have HO281:=n0_;have HB:=n1_;clear n0_ n1_;clear hb ho5)))
   go_loopg [3,4] k (fun kq v3 v4 w'=>∃ (x3_1:List Bool) (x4_1:Int),v4 = .int .i64 x4_1∧Aside0 (rushlightref05_Far.l0 kq l0 x3_1 x4_1 = some r)∧Aside0 (kq≤k)∧Aside0 (Kd.R Kd.bool 4 w' w.heap.size (fun _=>True) v3 x3_1)∧Aside0 (Below w.heap.size w w'))
   case atStart=>exact ⟨(y279),(0),zmb9_0,H',⟨Nat.le_refl _⟩,⟨by (with_reducible repeat (first|apply Kd.R_alloc|apply Kd.R_drewN|apply Kd.R_drew));exact HO281.out⟩,⟨zmb9_6⟩⟩
   case round =>
    clear H'
    try clear c2
    try clear c2b0
    try clear c2b1
    try clear p2
    try clear c3
    try clear c3b0
    try clear c3b1
    obtain ⟨x3_1,x4_1,rfl,HA,HK1,HO_3,HB⟩:=hrel
    cases gk with
    | zero=>exact absurd HA.out (by simp [rushlightref05_Far.l0])
    | succ k1 =>
     have H:=HA.out
     clear HA
     simp only [rushlightref05_Far.l0] at H
     by_cases c6:x4_1≤(l0.length:Int)
     ·rw [if_pos c6] at H
      have c6b0:decide (x4_1≤(l0.length:Int)) = true:=decide_eq_true c6
      clear c6
      replace H:=Option.bind_eq_some_iff.mp H
      obtain ⟨t282,A70,H⟩:=H
      replace H:(if 0≤(l0.length:Int) then (if ((l0.length:Int):Int).toNat≤281474976710656 then (rushlightref05_Far.l1 k1 l0 x3_1 x4_1 t282 (List.replicate ((l0.length:Int):Int).toNat false) 0) else (none)) else (none)) = some r:=H
      have A7:=Aside0.mk A70
      clear A70
      by_cases c8:0≤(l0.length:Int)
      ·rw [if_pos c8] at H
       have c8b0:=eq_true c8
       have c8b1:decide (0≤(l0.length:Int)) = true:=decide_eq_true c8
       clear c8
       by_cases c9:((l0.length:Int):Int).toNat≤281474976710656
       ·rw [if_pos c9] at H
        have c9b0:=eq_true c9
        have c9b1:decide (((l0.length:Int):Int).toNat≤281474976710656) = true:=decide_eq_true c9
        clear c9
        obtain ⟨y285,hy285⟩:∃ y_:List Bool,y_ = (List.replicate ((l0.length:Int):Int).toNat false):=⟨_,rfl⟩
        replace H:(rushlightref05_Far.l1 k1 l0 x3_1 x4_1 t282 y285 0) = some r:=by first|(rw [hy285];with_reducible exact H)|(have H2_:=(Option.bind_some _ _).symm.trans H;rw [hy285];with_reducible exact H2_)|(have H2_:=(Option.bind_some _ _).symm.trans H;with_reducible exact H2_)|with_reducible exact H|(rw [hy285];exact H)|exact H
        have Ny285:=Aside0.mk hy285
        clear hy285
        have H':=Aside0.mk H
        clear H
        obtain ⟨Ao10,co10,eo10⟩:=Kd.R_slice HO_3.out
        subst eo10
        go_wp2_with (first|(go_at_call 32;(with_reducible refine (rushlightref05_places.calls k1 _ _ l0 _ _ x3_1 t282 _ ?side1 ?side2 ?side3 ?side4 A7.out).mono ?_);(case side1=>repeat (first|exact (Kd.C_below HR0.out HB.out)|(with_reducible refine Kd.C_alloc ?_ _)|(with_reducible refine Kd.C_drewN ?_ _)|(with_reducible refine Kd.C_drew ?_)));(case side2=>exact HC0.out);(case side3=>repeat (first|exact (Kd.R_reads' HO_3.out).2.2|(with_reducible refine Kd.C_alloc ?_ _)|(with_reducible refine Kd.C_drewN ?_ _)|(with_reducible refine Kd.C_drew ?_)));(case side4=>exact (Kd.R_reads' HO_3.out).2.1);rintro e w11 ⟨v283,rfl,ho0,hb⟩;have n0_:=Aside0.mk (Kd.R_below zmb9_11 hb);have n1_:=Aside0.mk (Kd.R_lower ho0 (below_size zmb9_6));have n2_:=Aside0.mk (below_step zmb9_6 hb);clear HO_3 HB;have HO_3:=n0_;have HO284:=n1_;have HB:=n2_;clear n0_ n1_ n2_;(try clear hb);(try clear hb2);(try clear hk);(try clear hi);(try clear ho0))|((with_reducible refine gate_dst (N:=23) rfl ?_);refine Kd.R_make Kd.bool _ 4 rfl (N:=23) rfl 63 _ _ rfl (l0.length:Int) rfl rfl Try.underlying63 (.bool false) 1 info4 rfl (by decide) (by omega) false (ok:=fun _=>True) (okp:=fun _=>True) rfl (fun _ hk=>hk) trivial (of_decide_eq_true zmb9_4) (Nat.le_trans (Nat.mul_le_mul_right _ (of_decide_eq_true zmb9_4:(l0.length:Int).toNat≤281474976710656)) (by omega)) (Below.refl _ _) (Nat.le_refl _) ?_;intro v286 w12 ho13 hb hg_ hnew_;clear hg_ hnew_;(first|rw [← Ny285.out] at ho13|(simp only [Int.reduceToNat] at ho13;rw [← Ny285.out] at ho13));have n0_:=Aside0.mk (Kd.R_elder' zmb9_11 (Kd.R_base ho13) hb);have n1_:=Aside0.mk (Kd.R_below zmb9_12 hb);have n2_:=Aside0.mk (Kd.R_lower (Kd.R_new' ho13 (Kd.R_lt zmb9_11)) (below_size zmb9_6));have n3_:=Aside0.mk (below_step zmb9_6 hb);clear HO_3 HO284 HB;have HO_3:=n0_;have HO284:=n1_;have HO287:=n2_;have HB:=n3_;clear n0_ n1_ n2_ n3_;clear hb ho13))
        repeat (go_quiet (first|(go_at_call 32;(with_reducible refine (rushlightref05_places.calls k1 _ _ l0 _ _ x3_1 t282 _ ?side1 ?side2 ?side3 ?side4 A7.out).mono ?_);(case side1=>repeat (first|exact (Kd.C_below HR0.out HB.out)|(with_reducible refine Kd.C_alloc ?_ _)|(with_reducible refine Kd.C_drewN ?_ _)|(with_reducible refine Kd.C_drew ?_)));(case side2=>exact HC0.out);(case side3=>repeat (first|exact (Kd.R_reads' HO_3.out).2.2|(with_reducible refine Kd.C_alloc ?_ _)|(with_reducible refine Kd.C_drewN ?_ _)|(with_reducible refine Kd.C_drew ?_)));(case side4=>exact (Kd.R_reads' HO_3.out).2.1);rintro e w11 ⟨v283,rfl,ho0,hb⟩;have n0_:=Aside0.mk (Kd.R_below zmb9_11 hb);have n1_:=Aside0.mk (Kd.R_lower ho0 (below_size zmb9_6));have n2_:=Aside0.mk (below_step zmb9_6 hb);clear HO_3 HB;have HO_3:=n0_;have HO284:=n1_;have HB:=n2_;clear n0_ n1_ n2_;(try clear hb);(try clear hb2);(try clear hk);(try clear hi);(try clear ho0))|((with_reducible refine gate_dst (N:=23) rfl ?_);refine Kd.R_make Kd.bool _ 4 rfl (N:=23) rfl 63 _ _ rfl (l0.length:Int) rfl rfl Try.underlying63 (.bool false) 1 info4 rfl (by decide) (by omega) false (ok:=fun _=>True) (okp:=fun _=>True) rfl (fun _ hk=>hk) trivial (of_decide_eq_true zmb9_4) (Nat.le_trans (Nat.mul_le_mul_right _ (of_decide_eq_true zmb9_4:(l0.length:Int).toNat≤281474976710656)) (by omega)) (Below.refl _ _) (Nat.le_refl _) ?_;intro v286 w12 ho13 hb hg_ hnew_;clear hg_ hnew_;(first|rw [← Ny285.out] at ho13|(simp only [Int.reduceToNat] at ho13;rw [← Ny285.out] at ho13));have n0_:=Aside0.mk (Kd.R_elder' zmb9_11 (Kd.R_base ho13) hb);have n1_:=Aside0.mk (Kd.R_below zmb9_12 hb);have n2_:=Aside0.mk (Kd.R_lower (Kd.R_new' ho13 (Kd.R_lt zmb9_11)) (below_size zmb9_6));have n3_:=Aside0.mk (below_step zmb9_6 hb);clear HO_3 HO284 HB;have HO_3:=n0_;have HO284:=n1_;have HO287:=n2_;have HB:=n3_;clear n0_ n1_ n2_ n3_;clear hb ho13));try go_wp2_with (first|(go_at_call 32;(with_reducible refine (rushlightref05_places.calls k1 _ _ l0 _ _ x3_1 t282 _ ?side1 ?side2 ?side3 ?side4 A7.out).mono ?_);(case side1=>repeat (first|exact (Kd.C_below HR0.out HB.out)|(with_reducible refine Kd.C_alloc ?_ _)|(with_reducible refine Kd.C_drewN ?_ _)|(with_reducible refine Kd.C_drew ?_)));(case side2=>exact HC0.out);(case side3=>repeat (first|exact (Kd.R_reads' HO_3.out).2.2|(with_reducible refine Kd.C_alloc ?_ _)|(with_reducible refine Kd.C_drewN ?_ _)|(with_reducible refine Kd.C_drew ?_)));(case side4=>exact (Kd.R_reads' HO_3.out).2.1);rintro e w11 ⟨v283,rfl,ho0,hb⟩;have n0_:=Aside0.mk (Kd.R_below zmb9_11 hb);have n1_:=Aside0.mk (Kd.R_lower ho0 (below_size zmb9_6));have n2_:=Aside0.mk (below_step zmb9_6 hb);clear HO_3 HB;have HO_3:=n0_;have HO284:=n1_;have HB:=n2_;clear n0_ n1_ n2_;(try clear hb);(try clear hb2);(try clear hk);(try clear hi);(try clear ho0))|((with_reducible refine gate_dst (N:=23) rfl ?_);refine Kd.R_make Kd.bool _ 4 rfl (N:=23) rfl 63 _ _ rfl (l0.length:Int) rfl rfl Try.underlying63 (.bool false) 1 info4 rfl (by decide) (by omega) false (ok:=fun _=>True) (okp:=fun _=>True) rfl (fun _ hk=>hk) trivial (of_decide_eq_true zmb9_4) (Nat.le_trans (Nat.mul_le_mul_right _ (of_decide_eq_true zmb9_4:(l0.length:Int).toNat≤281474976710656)) (by omega)) (Below.refl _ _) (Nat.le_refl _) ?_;intro v286 w12 ho13 hb hg_ hnew_;clear hg_ hnew_;(first|rw [← Ny285.out] at ho13|(simp only [Int.reduceToNat] at ho13;rw [← Ny285.out] at ho13));have n0_:=Aside0.mk (Kd.R_elder' zmb9_11 (Kd.R_base ho13) hb);have n1_:=Aside0.mk (Kd.R_below zmb9_12 hb);have n2_:=Aside0.mk (Kd.R_lower (Kd.R_new' ho13 (Kd.R_lt zmb9_11)) (below_size zmb9_6));have n3_:=Aside0.mk (below_step zmb9_6 hb);clear HO_3 HO284 HB;have HO_3:=n0_;have HO284:=n1_;have HO287:=n2_;have HB:=n3_;clear n0_ n1_ n2_ n3_;clear hb ho13)))
        go_loopg [7] k1 (fun kq v7 w'=>∃ (x6_2:List Bool) (x7_2:Int),v7 = .int .i64 x7_2∧Aside0 (rushlightref05_Far.l1 kq l0 x3_1 x4_1 t282 x6_2 x7_2 = some r)∧Aside0 (kq≤k1)∧Aside0 (Kd.R Kd.bool 4 w' w.heap.size (fun k_=>some k_≠(v286:Value).ownBlock) (.slice Ao10 x3_1.length co10) x3_1)∧Aside0 (Kd.R (Kd.int .i64) 3 w' w.heap.size (fun _=>True) v283 t282)∧Aside0 (Kd.R Kd.bool 4 w' w.heap.size (fun k_=>some k_≠((.slice Ao10 x3_1.length co10):Value).ownBlock) v286 x6_2)∧Aside0 (Below w.heap.size w w'))
        case atStart=>exact ⟨(y285),(0),zmb9_0,H',⟨Nat.le_refl _⟩,⟨zmb9_13⟩,⟨zmb9_12⟩,⟨by (with_reducible repeat (first|apply Kd.R_alloc|apply Kd.R_drewN|apply Kd.R_drew));exact Kd.R_mono HO287.out (fun _ hk=>hk.2)⟩,⟨zmb9_6⟩⟩
        case round =>
         clear H'
         try clear c2
         try clear c2b0
         try clear c2b1
         try clear p2
         try clear c3
         try clear c3b0
         try clear c3b1
         try clear c6
         try clear c6b0
         try clear c8
         try clear c8b0
         try clear c8b1
         try clear c9
         try clear c9b0
         try clear c9b1
         try clear p2
         obtain ⟨x6_2,x7_2,rfl,HA,HK2,HO_3,HO_5,HO_6,HB⟩:=hrel
         cases gk with
         | zero=>exact absurd HA.out (by simp [rushlightref05_Far.l1])
         | succ k2 =>
          have H:=HA.out
          clear HA
          simp only [rushlightref05_Far.l1] at H
          by_cases c14:x7_2 < (l0.length:Int)
          ·rw [if_pos c14] at H
           have c14b0:decide (x7_2 < (l0.length:Int)) = true:=decide_eq_true c14
           clear c14
           by_cases c15:0≤x7_2
           ·rw [if_pos c15] at H
            have c15b0:decide (0≤x7_2) = true:=decide_eq_true c15
            clear c15
            by_cases c16:x7_2 < (x3_1.length:Int)
            ·rw [if_pos c16] at H
             have c16b0:decide (x7_2 < (x3_1.length:Int)) = true:=decide_eq_true c16
             clear c16
             by_cases c17:x7_2 < (x6_2.length:Int)
             ·rw [if_pos c17] at H
              have c17b0:decide (x7_2 < (x6_2.length:Int)) = true:=decide_eq_true c17
              clear c17
              obtain ⟨y289,hy289⟩:∃ y_:List Bool,y_ = (x6_2.set (x7_2:Int).toNat (rdOf false x3_1 x7_2)):=⟨_,rfl⟩
              replace H:(if ((rd_T48 l0 x7_2).f0) = 3 then ((rushlightref05_stands.f k2 l0 ((rd_T48 l0 x7_2).f2)).bind fun t292=>(if 0≤t292 then (if t292 < (t282.length:Int) then (if x7_2 < (t282.length:Int) then (if rdOf false x3_1 x7_2 = true then (rushlightref05_Far.l1 k2 l0 x3_1 x4_1 t282 (y289.set (x7_2:Int).toNat true) (wrap64 (x7_2 + 1))) else (if (wrap64 ((rd t282 t292) - (rd t282 x7_2))) < (-4096) then (rushlightref05_Far.l1 k2 l0 x3_1 x4_1 t282 (y289.set (x7_2:Int).toNat true) (wrap64 (x7_2 + 1))) else (rushlightref05_Far.l1 k2 l0 x3_1 x4_1 t282 (y289.set (x7_2:Int).toNat (decide ((wrap64 ((rd t282 t292) - (rd t282 x7_2))) > 4094))) (wrap64 (x7_2 + 1))))) else (none)) else (none)) else (none))) else (rushlightref05_Far.l1 k2 l0 x3_1 x4_1 t282 y289 (wrap64 (x7_2 + 1)))) = some r:=by first|(rw [hy289];with_reducible exact H)|(have H2_:=(Option.bind_some _ _).symm.trans H;rw [hy289];with_reducible exact H2_)|(have H2_:=(Option.bind_some _ _).symm.trans H;with_reducible exact H2_)|with_reducible exact H|(rw [hy289];exact H)|exact H
              have Ny289:=Aside0.mk hy289
              clear hy289
              by_cases c19:((rd_T48 l0 x7_2).f0) = 3
              ·rw [if_pos c19] at H
               have c19b0:(((rd_T48 l0 x7_2).f0) == 3) = true:=beq_iff_eq.mpr c19
               have c19b1:(((rd_T48 l0 x7_2).f0) != 3) = false:=bne_eq_false_iff_eq.mpr c19
               clear c19
               replace H:=Option.bind_eq_some_iff.mp H
               obtain ⟨t292,A200,H⟩:=H
               replace H:(if 0≤t292 then (if t292 < (t282.length:Int) then (if x7_2 < (t282.length:Int) then (if rdOf false x3_1 x7_2 = true then (rushlightref05_Far.l1 k2 l0 x3_1 x4_1 t282 (y289.set (x7_2:Int).toNat true) (wrap64 (x7_2 + 1))) else (if (wrap64 ((rd t282 t292) - (rd t282 x7_2))) < (-4096) then (rushlightref05_Far.l1 k2 l0 x3_1 x4_1 t282 (y289.set (x7_2:Int).toNat true) (wrap64 (x7_2 + 1))) else (rushlightref05_Far.l1 k2 l0 x3_1 x4_1 t282 (y289.set (x7_2:Int).toNat (decide ((wrap64 ((rd t282 t292) - (rd t282 x7_2))) > 4094))) (wrap64 (x7_2 + 1))))) else (none)) else (none)) else (none)) = some r:=H
               have A20:=Aside0.mk A200
               clear A200
               by_cases c21:0≤t292
               ·rw [if_pos c21] at H
                have c21b0:decide (0≤t292) = true:=decide_eq_true c21
                clear c21
                by_cases c22:t292 < (t282.length:Int)
                ·rw [if_pos c22] at H
                 have c22b0:decide (t292 < (t282.length:Int)) = true:=decide_eq_true c22
                 clear c22
                 by_cases c23:x7_2 < (t282.length:Int)
                 ·rw [if_pos c23] at H
                  have c23b0:decide (x7_2 < (t282.length:Int)) = true:=decide_eq_true c23
                  clear c23
                  obtain ⟨bq24,hbq24⟩:∃ b_:Bool,b_ = (rdOf false x3_1 x7_2):=⟨_,rfl⟩
                  replace H:(if bq24 = true then (rushlightref05_Far.l1 k2 l0 x3_1 x4_1 t282 (y289.set (x7_2:Int).toNat true) (wrap64 (x7_2 + 1))) else (if (wrap64 ((rd t282 t292) - (rd t282 x7_2))) < (-4096) then (rushlightref05_Far.l1 k2 l0 x3_1 x4_1 t282 (y289.set (x7_2:Int).toNat true) (wrap64 (x7_2 + 1))) else (rushlightref05_Far.l1 k2 l0 x3_1 x4_1 t282 (y289.set (x7_2:Int).toNat (decide ((wrap64 ((rd t282 t292) - (rd t282 x7_2))) > 4094))) (wrap64 (x7_2 + 1))))) = some r:=by rw [← hbq24] at H;exact H
                  have Nbq24:=Aside0.mk hbq24
                  clear hbq24
                  by_cases c25:bq24 = true
                  ·subst c25
                   have H1:(rushlightref05_Far.l1 k2 l0 x3_1 x4_1 t282 (y289.set (x7_2:Int).toNat true) (wrap64 (x7_2 + 1))) = some r:=by rw [if_pos rfl] at H;exact H
                   clear H
                   have H:=H1
                   clear H1
                   obtain ⟨y296,hy296⟩:∃ y_:List Bool,y_ = (y289.set (x7_2:Int).toNat true):=⟨_,rfl⟩
                   replace H:(rushlightref05_Far.l1 k2 l0 x3_1 x4_1 t282 y296 (wrap64 (x7_2 + 1))) = some r:=by first|(rw [hy296];with_reducible exact H)|(have H2_:=(Option.bind_some _ _).symm.trans H;rw [hy296];with_reducible exact H2_)|(have H2_:=(Option.bind_some _ _).symm.trans H;with_reducible exact H2_)|with_reducible exact H|(rw [hy296];exact H)|exact H
                   have Ny296:=Aside0.mk hy296
                   clear hy296
                   have H':=Aside0.mk H
                   clear H
                   have p288:0≤(x7_2:Int):=of_decide_eq_true zmb9_4
                   have q288:x7_2 < (x3_1.length:Int):=of_decide_eq_true zmb9_4
                   obtain ⟨ad288,e288,hx288_0⟩:=Kd.at_bool (Kd.R_reads' HO_3.out).2.2 x7_2 p288 q288
                   (try rw [← Nbq24.out] at hx288_0)
                   cases e288
                   replace p288:=eq_true p288
                   replace q288:=eq_true q288
                   have p18:0≤(x7_2:Int):=of_decide_eq_true zmb9_4
                   have q18:(x7_2:Int) < ((x6_2.length:Int):Int):=of_decide_eq_true zmb9_4
                   obtain ⟨go18,co18,eo18,gb18,gl18,cl18,HG18⟩:=Kd.R_form HO_6.out (by omega)
                   (first|cases eo18|(injection eo18 with ea_ en_ ec_;(first|subst ea_|(injection ea_ with ea_;subst ea_));subst ec_;clear en_))
                   have GB18:=Aside0.mk gb18
                   have GG18:=Aside0.mk HG18
                   clear gb18 gl18 HG18
                   obtain ⟨hx18_0,hf18_0⟩:=Kd.R_celln false HO_6.out (x7_2:Int) p18 q18
                   replace p18:=eq_true p18
                   replace q18:=eq_true q18
                   have HP27:=Kd.R_putg HO_6.out (x7_2:Int) true
                   go_wp2_with (first|((with_reducible refine gate_store (t:=4) (p:=36) rfl ?_);(try (rw [drewN_self wr];generalize hq_:World.drewN wr _ = wr;have n0_:=Aside0.mk (Kd.R_at hq_ HO_3.out);have n1_:=Aside0.mk (Kd.R_at hq_ HO_5.out);have n2_:=Aside0.mk (Kd.R_at hq_ HO_6.out);have n3_:=Aside0.mk (below_at hq_ HB.out);clear hq_ HO_3 HO_5 HO_6 HB;have HO_3:=n0_;have HO_5:=n1_;have HO_6:=n2_;have HB:=n3_;clear n0_ n1_ n2_ n3_;(try (have HP27:=Kd.R_putg HO_6.out (x7_2:Int) true))));refine store_event (t:=4) (p:=36) (v:=?vo_w28) (w1:=(wr.setCell ⟨go18,(x7_2:Int).toNat,none⟩ (.bool true))) ?hg ?ho ?hn ?hr ?_;(case ho=>rfl);(case hg=>rfl);(case hn=>rfl);(case hr=>first|(go_simp;done)|(go_simp;rfl));intro w28 hw;have hg:wr.grownBy w28 (some go18):=(by rw [hw];exact HP27.2);have hp_:Kd.R Kd.bool 4 w28 w.heap.size (fun k_=>some k_≠(.slice (some ad288) x3_1.length co10:Value).ownBlock) (.slice (some ⟨go18,0,none⟩) x6_2.length co18) y289:=zmb9_14;clear HP27;have n0_:=Aside0.mk (Kd.R_after (v:=(.slice (some ⟨go18,0,none⟩) x6_2.length co18)) (v1:=(.slice (some ⟨go18,0,none⟩) x6_2.length co18)) (ok:=(fun _=>True)) zmb9_15 hg (.inl rfl));have n1_:=Aside0.mk (Kd.R_over' (v:=(.slice (some ⟨go18,0,none⟩) x6_2.length co18)) zmb9_9 (Kd.R_typed HO_6.out) (by decide) hg);have n2_:=Aside0.mk (hp_);have n3_:=Aside0.mk ((by rw [hw];exact below_set (HB.out) GB18.out:Below w.heap.size w w28));clear HO_3 HO_5 HO_6 HB;have HO_3:=n0_;have HO_5:=n1_;have HO_6:=n2_;have HB:=n3_;clear n0_ n1_ n2_ n3_;clear hg hw hp_;have p290:0≤(x7_2:Int):=of_decide_eq_true zmb9_4;have q290:x7_2 < (l0.length:Int):=of_decide_eq_true zmb9_4;obtain ⟨ad290,e290,hx290_0,hx290_1,hx290_2,hx290_3,hx290_4,hx290_5,hx290_6⟩:=at_T48 HR0.out x7_2 p290 q290;cases e290;replace hx290_0:=(HB.out.cell (World.block_lt_of_cell? w _ hx290_0)).trans hx290_0;replace hx290_1:=(HB.out.cell (World.block_lt_of_cell? w _ hx290_1)).trans hx290_1;replace hx290_2:=(HB.out.cell (World.block_lt_of_cell? w _ hx290_2)).trans hx290_2;replace hx290_3:=(HB.out.cell (World.block_lt_of_cell? w _ hx290_3)).trans hx290_3;replace hx290_4:=(HB.out.cell (World.block_lt_of_cell? w _ hx290_4)).trans hx290_4;replace hx290_5:=(HB.out.cell (World.block_lt_of_cell? w _ hx290_5)).trans hx290_5;replace hx290_6:=(HB.out.cell (World.block_lt_of_cell? w _ hx290_6)).trans hx290_6;replace p290:=eq_true p290;replace q290:=eq_true q290;have p291:0≤(x7_2:Int):=of_decide_eq_true zmb9_4;have q291:x7_2 < (l0.length:Int):=of_decide_eq_true zmb9_4;obtain ⟨ad291,e291,hx291_0,hx291_1,hx291_2,hx291_3,hx291_4,hx291_5,hx291_6⟩:=at_T48 HR0.out x7_2 p291 q291;obtain rfl:ad290 = ad291:=zmb9_16;replace hx291_0:=(HB.out.cell (World.block_lt_of_cell? w _ hx291_0)).trans hx291_0;replace hx291_1:=(HB.out.cell (World.block_lt_of_cell? w _ hx291_1)).trans hx291_1;replace hx291_2:=(HB.out.cell (World.block_lt_of_cell? w _ hx291_2)).trans hx291_2;replace hx291_3:=(HB.out.cell (World.block_lt_of_cell? w _ hx291_3)).trans hx291_3;replace hx291_4:=(HB.out.cell (World.block_lt_of_cell? w _ hx291_4)).trans hx291_4;replace hx291_5:=(HB.out.cell (World.block_lt_of_cell? w _ hx291_5)).trans hx291_5;replace hx291_6:=(HB.out.cell (World.block_lt_of_cell? w _ hx291_6)).trans hx291_6;replace p291:=eq_true p291;replace q291:=eq_true q291)|(go_at_call 50;(with_reducible refine (rushlightref05_stands.calls k2 _ _ l0 ((rd_T48 l0 x7_2).f2) t292 _ ?side1 ?side2 A20.out).mono ?_);(case side1=>repeat (first|exact (Kd.C_below HR0.out HB.out)|(with_reducible refine Kd.C_alloc ?_ _)|(with_reducible refine Kd.C_drewN ?_ _)|(with_reducible refine Kd.C_drew ?_)));(case side2=>exact HC0.out);rintro e w' ⟨rfl,⟨nd,rfl⟩⟩;(try first|exact ⟨rfl,_,World.drewN_drewN _ _ _⟩|exact ⟨rfl,_,Eq.trans (World.drewN_drewN _ _ _) (congrArg (World.drewN _) (Nat.add_assoc _ _ _))⟩);obtain ⟨Ao29,co29,eo29⟩:=Kd.R_slice HO_5.out;subst eo29;have p293:0≤(t292:Int):=of_decide_eq_true zmb9_4;have q293:t292 < (t282.length:Int):=of_decide_eq_true zmb9_4;obtain ⟨ad293,e293,hx293_0⟩:=Kd.at_int (Kd.R_reads' HO_5.out).2.2 t292 p293 q293;cases e293;replace p293:=eq_true p293;replace q293:=eq_true q293;have p294:0≤(x7_2:Int):=of_decide_eq_true zmb9_4;have q294:x7_2 < (t282.length:Int):=of_decide_eq_true zmb9_4;obtain ⟨ad294,e294,hx294_0⟩:=Kd.at_int (Kd.R_reads' HO_5.out).2.2 x7_2 p294 q294;obtain rfl:ad293 = ad294:=zmb9_17;replace p294:=eq_true p294;replace q294:=eq_true q294;have p295:0≤(x7_2:Int):=of_decide_eq_true zmb9_4;have q295:x7_2 < (x3_1.length:Int):=of_decide_eq_true zmb9_4;obtain ⟨ad295,e295,hx295_0⟩:=Kd.at_bool (Kd.R_reads' HO_3.out).2.2 x7_2 p295 q295;(try rw [← Nbq24.out] at hx295_0);obtain rfl:ad288 = ad295:=zmb9_18;replace p295:=eq_true p295;replace q295:=eq_true q295;have p26:0≤(x7_2:Int):=of_decide_eq_true zmb9_4;have q26:(x7_2:Int) < ((x6_2.length:Int):Int):=of_decide_eq_true zmb9_4;obtain ⟨hx26_0,hf26_0⟩:=Kd.R_celln false HO_6.out (x7_2:Int) p26 q26;replace p26:=eq_true p26;replace q26:=eq_true q26;obtain ⟨hy30_,hz30_⟩:=Kd.R_celln false HO_6.out (x7_2:Int) (of_decide_eq_true zmb9_4) (of_decide_eq_true zmb9_4);have HP30:=Kd.R_putg HO_6.out (x7_2:Int) true)|((with_reducible refine gate_store (t:=4) (p:=72) rfl ?_);(try (rw [drewN_self w28];generalize hq_:World.drewN w28 _ = w28;have n0_:=Aside0.mk (Kd.R_at hq_ HO_3.out);have n1_:=Aside0.mk (Kd.R_at hq_ HO_5.out);have n2_:=Aside0.mk (Kd.R_at hq_ HO_6.out);have n3_:=Aside0.mk (below_at hq_ HB.out);clear hq_ HO_3 HO_5 HO_6 HB;have HO_3:=n0_;have HO_5:=n1_;have HO_6:=n2_;have HB:=n3_;clear n0_ n1_ n2_ n3_;(try (obtain ⟨hy30_,hz30_⟩:=Kd.R_celln false HO_6.out (x7_2:Int) (of_decide_eq_true zmb9_4) (of_decide_eq_true zmb9_4)));(try (have HP30:=Kd.R_putg HO_6.out (x7_2:Int) true))));refine store_event (t:=4) (p:=72) (v:=?vo_w31) (w1:=(w28.setCell ⟨go18,(x7_2:Int).toNat,none⟩ (.bool true))) ?hg ?ho ?hn ?hr ?_;(case ho=>rfl);(case hg=>rfl);(case hn=>rfl);(case hr=>first|(go_simp;done)|(go_simp;rfl));intro w31 hw;have hg:w28.grownBy w31 (some go18):=(by rw [hw];exact HP30.2);have hp_:Kd.R Kd.bool 4 w31 w.heap.size (fun k_=>some k_≠(.slice (some ad288) x3_1.length co10:Value).ownBlock) (.slice (some ⟨go18,0,none⟩) x6_2.length co18) y296:=zmb9_19;clear HP30;have n0_:=Aside0.mk (Kd.R_after (v:=(.slice (some ⟨go18,0,none⟩) x6_2.length co18)) (v1:=(.slice (some ⟨go18,0,none⟩) x6_2.length co18)) (ok:=(fun _=>True)) zmb9_11 hg (.inl rfl));have n1_:=Aside0.mk (Kd.R_over' (v:=(.slice (some ⟨go18,0,none⟩) x6_2.length co18)) zmb9_9 (Kd.R_typed HO_6.out) (by decide) hg);have n2_:=Aside0.mk (hp_);have n3_:=Aside0.mk ((by rw [hw];exact below_set (HB.out) GB18.out:Below w.heap.size w w31));clear HO_3 HO_5 HO_6 HB;have HO_3:=n0_;have HO_5:=n1_;have HO_6:=n2_;have HB:=n3_;clear n0_ n1_ n2_ n3_;clear hg hw hp_))
                   repeat (go_quiet (first|((with_reducible refine gate_store (t:=4) (p:=36) rfl ?_);(try (rw [drewN_self wr];generalize hq_:World.drewN wr _ = wr;have n0_:=Aside0.mk (Kd.R_at hq_ HO_3.out);have n1_:=Aside0.mk (Kd.R_at hq_ HO_5.out);have n2_:=Aside0.mk (Kd.R_at hq_ HO_6.out);have n3_:=Aside0.mk (below_at hq_ HB.out);clear hq_ HO_3 HO_5 HO_6 HB;have HO_3:=n0_;have HO_5:=n1_;have HO_6:=n2_;have HB:=n3_;clear n0_ n1_ n2_ n3_;(try (have HP27:=Kd.R_putg HO_6.out (x7_2:Int) true))));refine store_event (t:=4) (p:=36) (v:=?vo_w28) (w1:=(wr.setCell ⟨go18,(x7_2:Int).toNat,none⟩ (.bool true))) ?hg ?ho ?hn ?hr ?_;(case ho=>rfl);(case hg=>rfl);(case hn=>rfl);(case hr=>first|(go_simp;done)|(go_simp;rfl));intro w28 hw;have hg:wr.grownBy w28 (some go18):=(by rw [hw];exact HP27.2);have hp_:Kd.R Kd.bool 4 w28 w.heap.size (fun k_=>some k_≠(.slice (some ad288) x3_1.length co10:Value).ownBlock) (.slice (some ⟨go18,0,none⟩) x6_2.length co18) y289:=zmb9_14;clear HP27;have n0_:=Aside0.mk (Kd.R_after (v:=(.slice (some ⟨go18,0,none⟩) x6_2.length co18)) (v1:=(.slice (some ⟨go18,0,none⟩) x6_2.length co18)) (ok:=(fun _=>True)) zmb9_15 hg (.inl rfl));have n1_:=Aside0.mk (Kd.R_over' (v:=(.slice (some ⟨go18,0,none⟩) x6_2.length co18)) zmb9_9 (Kd.R_typed HO_6.out) (by decide) hg);have n2_:=Aside0.mk (hp_);have n3_:=Aside0.mk ((by rw [hw];exact below_set (HB.out) GB18.out:Below w.heap.size w w28));clear HO_3 HO_5 HO_6 HB;have HO_3:=n0_;have HO_5:=n1_;have HO_6:=n2_;have HB:=n3_;clear n0_ n1_ n2_ n3_;clear hg hw hp_;have p290:0≤(x7_2:Int):=of_decide_eq_true zmb9_4;have q290:x7_2 < (l0.length:Int):=of_decide_eq_true zmb9_4;obtain ⟨ad290,e290,hx290_0,hx290_1,hx290_2,hx290_3,hx290_4,hx290_5,hx290_6⟩:=at_T48 HR0.out x7_2 p290 q290;cases e290;replace hx290_0:=(HB.out.cell (World.block_lt_of_cell? w _ hx290_0)).trans hx290_0;replace hx290_1:=(HB.out.cell (World.block_lt_of_cell? w _ hx290_1)).trans hx290_1;replace hx290_2:=(HB.out.cell (World.block_lt_of_cell? w _ hx290_2)).trans hx290_2;replace hx290_3:=(HB.out.cell (World.block_lt_of_cell? w _ hx290_3)).trans hx290_3;replace hx290_4:=(HB.out.cell (World.block_lt_of_cell? w _ hx290_4)).trans hx290_4;replace hx290_5:=(HB.out.cell (World.block_lt_of_cell? w _ hx290_5)).trans hx290_5;replace hx290_6:=(HB.out.cell (World.block_lt_of_cell? w _ hx290_6)).trans hx290_6;replace p290:=eq_true p290;replace q290:=eq_true q290;have p291:0≤(x7_2:Int):=of_decide_eq_true zmb9_4;have q291:x7_2 < (l0.length:Int):=of_decide_eq_true zmb9_4;obtain ⟨ad291,e291,hx291_0,hx291_1,hx291_2,hx291_3,hx291_4,hx291_5,hx291_6⟩:=at_T48 HR0.out x7_2 p291 q291;obtain rfl:ad290 = ad291:=zmb9_16;replace hx291_0:=(HB.out.cell (World.block_lt_of_cell? w _ hx291_0)).trans hx291_0;replace hx291_1:=(HB.out.cell (World.block_lt_of_cell? w _ hx291_1)).trans hx291_1;replace hx291_2:=(HB.out.cell (World.block_lt_of_cell? w _ hx291_2)).trans hx291_2;replace hx291_3:=(HB.out.cell (World.block_lt_of_cell? w _ hx291_3)).trans hx291_3;replace hx291_4:=(HB.out.cell (World.block_lt_of_cell? w _ hx291_4)).trans hx291_4;replace hx291_5:=(HB.out.cell (World.block_lt_of_cell? w _ hx291_5)).trans hx291_5;replace hx291_6:=(HB.out.cell (World.block_lt_of_cell? w _ hx291_6)).trans hx291_6;replace p291:=eq_true p291;replace q291:=eq_true q291)|(go_at_call 50;(with_reducible refine (rushlightref05_stands.calls k2 _ _ l0 ((rd_T48 l0 x7_2).f2) t292 _ ?side1 ?side2 A20.out).mono ?_);(case side1=>repeat (first|exact (Kd.C_below HR0.out HB.out)|(with_reducible refine Kd.C_alloc ?_ _)|(with_reducible refine Kd.C_drewN ?_ _)|(with_reducible refine Kd.C_drew ?_)));(case side2=>exact HC0.out);rintro e w' ⟨rfl,⟨nd,rfl⟩⟩;(try first|exact ⟨rfl,_,World.drewN_drewN _ _ _⟩|exact ⟨rfl,_,Eq.trans (World.drewN_drewN _ _ _) (congrArg (World.drewN _) (Nat.add_assoc _ _ _))⟩);obtain ⟨Ao29,co29,eo29⟩:=Kd.R_slice HO_5.out;subst eo29;have p293:0≤(t292:Int):=of_decide_eq_true zmb9_4;have q293:t292 < (t282.length:Int):=of_decide_eq_true zmb9_4;obtain ⟨ad293,e293,hx293_0⟩:=Kd.at_int (Kd.R_reads' HO_5.out).2.2 t292 p293 q293;cases e293;replace p293:=eq_true p293;replace q293:=eq_true q293;have p294:0≤(x7_2:Int):=of_decide_eq_true zmb9_4;have q294:x7_2 < (t282.length:Int):=of_decide_eq_true zmb9_4;obtain ⟨ad294,e294,hx294_0⟩:=Kd.at_int (Kd.R_reads' HO_5.out).2.2 x7_2 p294 q294;obtain rfl:ad293 = ad294:=zmb9_17;replace p294:=eq_true p294;replace q294:=eq_true q294;have p295:0≤(x7_2:Int):=of_decide_eq_true zmb9_4;have q295:x7_2 < (x3_1.length:Int):=of_decide_eq_true zmb9_4;obtain ⟨ad295,e295,hx295_0⟩:=Kd.at_bool (Kd.R_reads' HO_3.out).2.2 x7_2 p295 q295;(try rw [← Nbq24.out] at hx295_0);obtain rfl:ad288 = ad295:=zmb9_18;replace p295:=eq_true p295;replace q295:=eq_true q295;have p26:0≤(x7_2:Int):=of_decide_eq_true zmb9_4;have q26:(x7_2:Int) < ((x6_2.length:Int):Int):=of_decide_eq_true zmb9_4;obtain ⟨hx26_0,hf26_0⟩:=Kd.R_celln false HO_6.out (x7_2:Int) p26 q26;replace p26:=eq_true p26;replace q26:=eq_true q26;obtain ⟨hy30_,hz30_⟩:=Kd.R_celln false HO_6.out (x7_2:Int) (of_decide_eq_true zmb9_4) (of_decide_eq_true zmb9_4);have HP30:=Kd.R_putg HO_6.out (x7_2:Int) true)|((with_reducible refine gate_store (t:=4) (p:=72) rfl ?_);(try (rw [drewN_self w28];generalize hq_:World.drewN w28 _ = w28;have n0_:=Aside0.mk (Kd.R_at hq_ HO_3.out);have n1_:=Aside0.mk (Kd.R_at hq_ HO_5.out);have n2_:=Aside0.mk (Kd.R_at hq_ HO_6.out);have n3_:=Aside0.mk (below_at hq_ HB.out);clear hq_ HO_3 HO_5 HO_6 HB;have HO_3:=n0_;have HO_5:=n1_;have HO_6:=n2_;have HB:=n3_;clear n0_ n1_ n2_ n3_;(try (obtain ⟨hy30_,hz30_⟩:=Kd.R_celln false HO_6.out (x7_2:Int) (of_decide_eq_true zmb9_4) (of_decide_eq_true zmb9_4)));(try (have HP30:=Kd.R_putg HO_6.out (x7_2:Int) true))));refine store_event (t:=4) (p:=72) (v:=?vo_w31) (w1:=(w28.setCell ⟨go18,(x7_2:Int).toNat,none⟩ (.bool true))) ?hg ?ho ?hn ?hr ?_;(case ho=>rfl);(case hg=>rfl);(case hn=>rfl);(case hr=>first|(go_simp;done)|(go_simp;rfl));intro w31 hw;have hg:w28.grownBy w31 (some go18):=(by rw [hw];exact HP30.2);have hp_:Kd.R Kd.bool 4 w31 w.heap.size (fun k_=>some k_≠(.slice (some ad288) x3_1.length co10:Value).ownBlock) (.slice (some ⟨go18,0,none⟩) x6_2.length co18) y296:=zmb9_19;clear HP30;have n0_:=Aside0.mk (Kd.R_after (v:=(.slice (some ⟨go18,0,none⟩) x6_2.length co18)) (v1:=(.slice (some ⟨go18,0,none⟩) x6_2.length co18)) (ok:=(fun _=>True)) zmb9_11 hg (.inl rfl));have n1_:=Aside0.mk (Kd.R_over' (v:=(.slice (some ⟨go18,0,none⟩) x6_2.length co18)) zmb9_9 (Kd.R_typed HO_6.out) (by decide) hg);have n2_:=Aside0.mk (hp_);have n3_:=Aside0.mk ((by rw [hw];exact below_set (HB.out) GB18.out:Below w.heap.size w w31));clear HO_3 HO_5 HO_6 HB;have HO_3:=n0_;have HO_5:=n1_;have HO_6:=n2_;have HB:=n3_;clear n0_ n1_ n2_ n3_;clear hg hw hp_));try go_wp2_with (first|((with_reducible refine gate_store (t:=4) (p:=36) rfl ?_);(try (rw [drewN_self wr];generalize hq_:World.drewN wr _ = wr;have n0_:=Aside0.mk (Kd.R_at hq_ HO_3.out);have n1_:=Aside0.mk (Kd.R_at hq_ HO_5.out);have n2_:=Aside0.mk (Kd.R_at hq_ HO_6.out);have n3_:=Aside0.mk (below_at hq_ HB.out);clear hq_ HO_3 HO_5 HO_6 HB;have HO_3:=n0_;have HO_5:=n1_;have HO_6:=n2_;have HB:=n3_;clear n0_ n1_ n2_ n3_;(try (have HP27:=Kd.R_putg HO_6.out (x7_2:Int) true))));refine store_event (t:=4) (p:=36) (v:=?vo_w28) (w1:=(wr.setCell ⟨go18,(x7_2:Int).toNat,none⟩ (.bool true))) ?hg ?ho ?hn ?hr ?_;(case ho=>rfl);(case hg=>rfl);(case hn=>rfl);(case hr=>first|(go_simp;done)|(go_simp;rfl));intro w28 hw;have hg:wr.grownBy w28 (some go18):=(by rw [hw];exact HP27.2);have hp_:Kd.R Kd.bool 4 w28 w.heap.size (fun k_=>some k_≠(.slice (some ad288) x3_1.length co10:Value).ownBlock) (.slice (some ⟨go18,0,none⟩) x6_2.length co18) y289:=zmb9_14;clear HP27;have n0_:=Aside0.mk (Kd.R_after (v:=(.slice (some ⟨go18,0,none⟩) x6_2.length co18)) (v1:=(.slice (some ⟨go18,0,none⟩) x6_2.length co18)) (ok:=(fun _=>True)) zmb9_15 hg (.inl rfl));have n1_:=Aside0.mk (Kd.R_over' (v:=(.slice (some ⟨go18,0,none⟩) x6_2.length co18)) zmb9_9 (Kd.R_typed HO_6.out) (by decide) hg);have n2_:=Aside0.mk (hp_);have n3_:=Aside0.mk ((by rw [hw];exact below_set (HB.out) GB18.out:Below w.heap.size w w28));clear HO_3 HO_5 HO_6 HB;have HO_3:=n0_;have HO_5:=n1_;have HO_6:=n2_;have HB:=n3_;clear n0_ n1_ n2_ n3_;clear hg hw hp_;have p290:0≤(x7_2:Int):=of_decide_eq_true zmb9_4;have q290:x7_2 < (l0.length:Int):=of_decide_eq_true zmb9_4;obtain ⟨ad290,e290,hx290_0,hx290_1,hx290_2,hx290_3,hx290_4,hx290_5,hx290_6⟩:=at_T48 HR0.out x7_2 p290 q290;cases e290;replace hx290_0:=(HB.out.cell (World.block_lt_of_cell? w _ hx290_0)).trans hx290_0;replace hx290_1:=(HB.out.cell (World.block_lt_of_cell? w _ hx290_1)).trans hx290_1;replace hx290_2:=(HB.out.cell (World.block_lt_of_cell? w _ hx290_2)).trans hx290_2;replace hx290_3:=(HB.out.cell (World.block_lt_of_cell? w _ hx290_3)).trans hx290_3;replace hx290_4:=(HB.out.cell (World.block_lt_of_cell? w _ hx290_4)).trans hx290_4;replace hx290_5:=(HB.out.cell (World.block_lt_of_cell? w _ hx290_5)).trans hx290_5;replace hx290_6:=(HB.out.cell (World.block_lt_of_cell? w _ hx290_6)).trans hx290_6;replace p290:=eq_true p290;replace q290:=eq_true q290;have p291:0≤(x7_2:Int):=of_decide_eq_true zmb9_4;have q291:x7_2 < (l0.length:Int):=of_decide_eq_true zmb9_4;obtain ⟨ad291,e291,hx291_0,hx291_1,hx291_2,hx291_3,hx291_4,hx291_5,hx291_6⟩:=at_T48 HR0.out x7_2 p291 q291;obtain rfl:ad290 = ad291:=zmb9_16;replace hx291_0:=(HB.out.cell (World.block_lt_of_cell? w _ hx291_0)).trans hx291_0;replace hx291_1:=(HB.out.cell (World.block_lt_of_cell? w _ hx291_1)).trans hx291_1;replace hx291_2:=(HB.out.cell (World.block_lt_of_cell? w _ hx291_2)).trans hx291_2;replace hx291_3:=(HB.out.cell (World.block_lt_of_cell? w _ hx291_3)).trans hx291_3;replace hx291_4:=(HB.out.cell (World.block_lt_of_cell? w _ hx291_4)).trans hx291_4;replace hx291_5:=(HB.out.cell (World.block_lt_of_cell? w _ hx291_5)).trans hx291_5;replace hx291_6:=(HB.out.cell (World.block_lt_of_cell? w _ hx291_6)).trans hx291_6;replace p291:=eq_true p291;replace q291:=eq_true q291)|(go_at_call 50;(with_reducible refine (rushlightref05_stands.calls k2 _ _ l0 ((rd_T48 l0 x7_2).f2) t292 _ ?side1 ?side2 A20.out).mono ?_);(case side1=>repeat (first|exact (Kd.C_below HR0.out HB.out)|(with_reducible refine Kd.C_alloc ?_ _)|(with_reducible refine Kd.C_drewN ?_ _)|(with_reducible refine Kd.C_drew ?_)));(case side2=>exact HC0.out);rintro e w' ⟨rfl,⟨nd,rfl⟩⟩;(try first|exact ⟨rfl,_,World.drewN_drewN _ _ _⟩|exact ⟨rfl,_,Eq.trans (World.drewN_drewN _ _ _) (congrArg (World.drewN _) (Nat.add_assoc _ _ _))⟩);obtain ⟨Ao29,co29,eo29⟩:=Kd.R_slice HO_5.out;subst eo29;have p293:0≤(t292:Int):=of_decide_eq_true zmb9_4;have q293:t292 < (t282.length:Int):=of_decide_eq_true zmb9_4;obtain ⟨ad293,e293,hx293_0⟩:=Kd.at_int (Kd.R_reads' HO_5.out).2.2 t292 p293 q293;cases e293;replace p293:=eq_true p293;replace q293:=eq_true q293;have p294:0≤(x7_2:Int):=of_decide_eq_true zmb9_4;have q294:x7_2 < (t282.length:Int):=of_decide_eq_true zmb9_4;obtain ⟨ad294,e294,hx294_0⟩:=Kd.at_int (Kd.R_reads' HO_5.out).2.2 x7_2 p294 q294;obtain rfl:ad293 = ad294:=zmb9_17;replace p294:=eq_true p294;replace q294:=eq_true q294;have p295:0≤(x7_2:Int):=of_decide_eq_true zmb9_4;have q295:x7_2 < (x3_1.length:Int):=of_decide_eq_true zmb9_4;obtain ⟨ad295,e295,hx295_0⟩:=Kd.at_bool (Kd.R_reads' HO_3.out).2.2 x7_2 p295 q295;(try rw [← Nbq24.out] at hx295_0);obtain rfl:ad288 = ad295:=zmb9_18;replace p295:=eq_true p295;replace q295:=eq_true q295;have p26:0≤(x7_2:Int):=of_decide_eq_true zmb9_4;have q26:(x7_2:Int) < ((x6_2.length:Int):Int):=of_decide_eq_true zmb9_4;obtain ⟨hx26_0,hf26_0⟩:=Kd.R_celln false HO_6.out (x7_2:Int) p26 q26;replace p26:=eq_true p26;replace q26:=eq_true q26;obtain ⟨hy30_,hz30_⟩:=Kd.R_celln false HO_6.out (x7_2:Int) (of_decide_eq_true zmb9_4) (of_decide_eq_true zmb9_4);have HP30:=Kd.R_putg HO_6.out (x7_2:Int) true)|((with_reducible refine gate_store (t:=4) (p:=72) rfl ?_);(try (rw [drewN_self w28];generalize hq_:World.drewN w28 _ = w28;have n0_:=Aside0.mk (Kd.R_at hq_ HO_3.out);have n1_:=Aside0.mk (Kd.R_at hq_ HO_5.out);have n2_:=Aside0.mk (Kd.R_at hq_ HO_6.out);have n3_:=Aside0.mk (below_at hq_ HB.out);clear hq_ HO_3 HO_5 HO_6 HB;have HO_3:=n0_;have HO_5:=n1_;have HO_6:=n2_;have HB:=n3_;clear n0_ n1_ n2_ n3_;(try (obtain ⟨hy30_,hz30_⟩:=Kd.R_celln false HO_6.out (x7_2:Int) (of_decide_eq_true zmb9_4) (of_decide_eq_true zmb9_4)));(try (have HP30:=Kd.R_putg HO_6.out (x7_2:Int) true))));refine store_event (t:=4) (p:=72) (v:=?vo_w31) (w1:=(w28.setCell ⟨go18,(x7_2:Int).toNat,none⟩ (.bool true))) ?hg ?ho ?hn ?hr ?_;(case ho=>rfl);(case hg=>rfl);(case hn=>rfl);(case hr=>first|(go_simp;done)|(go_simp;rfl));intro w31 hw;have hg:w28.grownBy w31 (some go18):=(by rw [hw];exact HP30.2);have hp_:Kd.R Kd.bool 4 w31 w.heap.size (fun k_=>some k_≠(.slice (some ad288) x3_1.length co10:Value).ownBlock) (.slice (some ⟨go18,0,none⟩) x6_2.length co18) y296:=zmb9_19;clear HP30;have n0_:=Aside0.mk (Kd.R_after (v:=(.slice (some ⟨go18,0,none⟩) x6_2.length co18)) (v1:=(.slice (some ⟨go18,0,none⟩) x6_2.length co18)) (ok:=(fun _=>True)) zmb9_11 hg (.inl rfl));have n1_:=Aside0.mk (Kd.R_over' (v:=(.slice (some ⟨go18,0,none⟩) x6_2.length co18)) zmb9_9 (Kd.R_typed HO_6.out) (by decide) hg);have n2_:=Aside0.mk (hp_);have n3_:=Aside0.mk ((by rw [hw];exact below_set (HB.out) GB18.out:Below w.heap.size w w31));clear HO_3 HO_5 HO_6 HB;have HO_3:=n0_;have HO_5:=n1_;have HO_6:=n2_;have HB:=n3_;clear n0_ n1_ n2_ n3_;clear hg hw hp_)))
                   go_roundg k2
                   case measure=>have:=HK1.out;have:=HK2.out;omega
                   case rel=>exact ⟨(y296),(wrap64 (x7_2 + 1)),zmb9_0,H',⟨zmb9_20⟩,⟨zmb9_13⟩,⟨zmb9_9⟩,⟨zmb9_21⟩,⟨zmb9_6⟩⟩
                  ·replace c25:=Bool.eq_false_iff.mpr c25
                   subst c25
                   have H1:(if (wrap64 ((rd t282 t292) - (rd t282 x7_2))) < (-4096) then (rushlightref05_Far.l1 k2 l0 x3_1 x4_1 t282 (y289.set (x7_2:Int).toNat true) (wrap64 (x7_2 + 1))) else (rushlightref05_Far.l1 k2 l0 x3_1 x4_1 t282 (y289.set (x7_2:Int).toNat (decide ((wrap64 ((rd t282 t292) - (rd t282 x7_2))) > 4094))) (wrap64 (x7_2 + 1)))) = some r:=by rw [if_neg (show ¬ (false = true) by decide)] at H;exact H
                   clear H
                   have H:=H1
                   clear H1
                   by_cases c32:(wrap64 ((rd t282 t292) - (rd t282 x7_2))) < (-4096)
                   ·rw [if_pos c32] at H
                    have c32b0:decide ((wrap64 ((rd t282 t292) - (rd t282 x7_2))) < (-4096)) = true:=decide_eq_true c32
                    clear c32
                    obtain ⟨y297,hy297⟩:∃ y_:List Bool,y_ = (y289.set (x7_2:Int).toNat true):=⟨_,rfl⟩
                    replace H:(rushlightref05_Far.l1 k2 l0 x3_1 x4_1 t282 y297 (wrap64 (x7_2 + 1))) = some r:=by first|(rw [hy297];with_reducible exact H)|(have H2_:=(Option.bind_some _ _).symm.trans H;rw [hy297];with_reducible exact H2_)|(have H2_:=(Option.bind_some _ _).symm.trans H;with_reducible exact H2_)|with_reducible exact H|(rw [hy297];exact H)|exact H
                    have Ny297:=Aside0.mk hy297
                    clear hy297
                    have H':=Aside0.mk H
                    clear H
                    have p288:0≤(x7_2:Int):=of_decide_eq_true zmb9_4
                    have q288:x7_2 < (x3_1.length:Int):=of_decide_eq_true zmb9_4
                    obtain ⟨ad288,e288,hx288_0⟩:=Kd.at_bool (Kd.R_reads' HO_3.out).2.2 x7_2 p288 q288
                    (try rw [← Nbq24.out] at hx288_0)
                    cases e288
                    replace p288:=eq_true p288
                    replace q288:=eq_true q288
                    have p18:0≤(x7_2:Int):=of_decide_eq_true zmb9_4
                    have q18:(x7_2:Int) < ((x6_2.length:Int):Int):=of_decide_eq_true zmb9_4
                    obtain ⟨go18,co18,eo18,gb18,gl18,cl18,HG18⟩:=Kd.R_form HO_6.out (by omega)
                    (first|cases eo18|(injection eo18 with ea_ en_ ec_;(first|subst ea_|(injection ea_ with ea_;subst ea_));subst ec_;clear en_))
                    have GB18:=Aside0.mk gb18
                    have GG18:=Aside0.mk HG18
                    clear gb18 gl18 HG18
                    obtain ⟨hx18_0,hf18_0⟩:=Kd.R_celln false HO_6.out (x7_2:Int) p18 q18
                    replace p18:=eq_true p18
                    replace q18:=eq_true q18
                    have HP34:=Kd.R_putg HO_6.out (x7_2:Int) false
                    go_wp2_with (first|((with_reducible refine gate_store (t:=4) (p:=36) rfl ?_);(try (rw [drewN_self wr];generalize hq_:World.drewN wr _ = wr;have n0_:=Aside0.mk (Kd.R_at hq_ HO_3.out);have n1_:=Aside0.mk (Kd.R_at hq_ HO_5.out);have n2_:=Aside0.mk (Kd.R_at hq_ HO_6.out);have n3_:=Aside0.mk (below_at hq_ HB.out);clear hq_ HO_3 HO_5 HO_6 HB;have HO_3:=n0_;have HO_5:=n1_;have HO_6:=n2_;have HB:=n3_;clear n0_ n1_ n2_ n3_;(try (have HP34:=Kd.R_putg HO_6.out (x7_2:Int) false))));refine store_event (t:=4) (p:=36) (v:=?vo_w35) (w1:=(wr.setCell ⟨go18,(x7_2:Int).toNat,none⟩ (.bool false))) ?hg ?ho ?hn ?hr ?_;(case ho=>rfl);(case hg=>rfl);(case hn=>rfl);(case hr=>first|(go_simp;done)|(go_simp;rfl));intro w35 hw;have hg:wr.grownBy w35 (some go18):=(by rw [hw];exact HP34.2);have hp_:Kd.R Kd.bool 4 w35 w.heap.size (fun k_=>some k_≠(.slice (some ad288) x3_1.length co10:Value).ownBlock) (.slice (some ⟨go18,0,none⟩) x6_2.length co18) y289:=zmb9_22;clear HP34;have n0_:=Aside0.mk (Kd.R_after (v:=(.slice (some ⟨go18,0,none⟩) x6_2.length co18)) (v1:=(.slice (some ⟨go18,0,none⟩) x6_2.length co18)) (ok:=(fun _=>True)) zmb9_15 hg (.inl rfl));have n1_:=Aside0.mk (Kd.R_over' (v:=(.slice (some ⟨go18,0,none⟩) x6_2.length co18)) zmb9_9 (Kd.R_typed HO_6.out) (by decide) hg);have n2_:=Aside0.mk (hp_);have n3_:=Aside0.mk ((by rw [hw];exact below_set (HB.out) GB18.out:Below w.heap.size w w35));clear HO_3 HO_5 HO_6 HB;have HO_3:=n0_;have HO_5:=n1_;have HO_6:=n2_;have HB:=n3_;clear n0_ n1_ n2_ n3_;clear hg hw hp_;have p290:0≤(x7_2:Int):=of_decide_eq_true zmb9_4;have q290:x7_2 < (l0.length:Int):=of_decide_eq_true zmb9_4;obtain ⟨ad290,e290,hx290_0,hx290_1,hx290_2,hx290_3,hx290_4,hx290_5,hx290_6⟩:=at_T48 HR0.out x7_2 p290 q290;cases e290;replace hx290_0:=(HB.out.cell (World.block_lt_of_cell? w _ hx290_0)).trans hx290_0;replace hx290_1:=(HB.out.cell (World.block_lt_of_cell? w _ hx290_1)).trans hx290_1;replace hx290_2:=(HB.out.cell (World.block_lt_of_cell? w _ hx290_2)).trans hx290_2;replace hx290_3:=(HB.out.cell (World.block_lt_of_cell? w _ hx290_3)).trans hx290_3;replace hx290_4:=(HB.out.cell (World.block_lt_of_cell? w _ hx290_4)).trans hx290_4;replace hx290_5:=(HB.out.cell (World.block_lt_of_cell? w _ hx290_5)).trans hx290_5;replace hx290_6:=(HB.out.cell (World.block_lt_of_cell? w _ hx290_6)).trans hx290_6;replace p290:=eq_true p290;replace q290:=eq_true q290;have p291:0≤(x7_2:Int):=of_decide_eq_true zmb9_4;have q291:x7_2 < (l0.length:Int):=of_decide_eq_true zmb9_4;obtain ⟨ad291,e291,hx291_0,hx291_1,hx291_2,hx291_3,hx291_4,hx291_5,hx291_6⟩:=at_T48 HR0.out x7_2 p291 q291;obtain rfl:ad290 = ad291:=zmb9_16;replace hx291_0:=(HB.out.cell (World.block_lt_of_cell? w _ hx291_0)).trans hx291_0;replace hx291_1:=(HB.out.cell (World.block_lt_of_cell? w _ hx291_1)).trans hx291_1;replace hx291_2:=(HB.out.cell (World.block_lt_of_cell? w _ hx291_2)).trans hx291_2;replace hx291_3:=(HB.out.cell (World.block_lt_of_cell? w _ hx291_3)).trans hx291_3;replace hx291_4:=(HB.out.cell (World.block_lt_of_cell? w _ hx291_4)).trans hx291_4;replace hx291_5:=(HB.out.cell (World.block_lt_of_cell? w _ hx291_5)).trans hx291_5;replace hx291_6:=(HB.out.cell (World.block_lt_of_cell? w _ hx291_6)).trans hx291_6;replace p291:=eq_true p291;replace q291:=eq_true q291)|(go_at_call 50;(with_reducible refine (rushlightref05_stands.calls k2 _ _ l0 ((rd_T48 l0 x7_2).f2) t292 _ ?side1 ?side2 A20.out).mono ?_);(case side1=>repeat (first|exact (Kd.C_below HR0.out HB.out)|(with_reducible refine Kd.C_alloc ?_ _)|(with_reducible refine Kd.C_drewN ?_ _)|(with_reducible refine Kd.C_drew ?_)));(case side2=>exact HC0.out);rintro e w' ⟨rfl,⟨nd,rfl⟩⟩;(try first|exact ⟨rfl,_,World.drewN_drewN _ _ _⟩|exact ⟨rfl,_,Eq.trans (World.drewN_drewN _ _ _) (congrArg (World.drewN _) (Nat.add_assoc _ _ _))⟩);obtain ⟨Ao36,co36,eo36⟩:=Kd.R_slice HO_5.out;subst eo36;have p293:0≤(t292:Int):=of_decide_eq_true zmb9_4;have q293:t292 < (t282.length:Int):=of_decide_eq_true zmb9_4;obtain ⟨ad293,e293,hx293_0⟩:=Kd.at_int (Kd.R_reads' HO_5.out).2.2 t292 p293 q293;cases e293;replace p293:=eq_true p293;replace q293:=eq_true q293;have p294:0≤(x7_2:Int):=of_decide_eq_true zmb9_4;have q294:x7_2 < (t282.length:Int):=of_decide_eq_true zmb9_4;obtain ⟨ad294,e294,hx294_0⟩:=Kd.at_int (Kd.R_reads' HO_5.out).2.2 x7_2 p294 q294;obtain rfl:ad293 = ad294:=zmb9_17;replace p294:=eq_true p294;replace q294:=eq_true q294;have p295:0≤(x7_2:Int):=of_decide_eq_true zmb9_4;have q295:x7_2 < (x3_1.length:Int):=of_decide_eq_true zmb9_4;obtain ⟨ad295,e295,hx295_0⟩:=Kd.at_bool (Kd.R_reads' HO_3.out).2.2 x7_2 p295 q295;(try rw [← Nbq24.out] at hx295_0);obtain rfl:ad288 = ad295:=zmb9_18;replace p295:=eq_true p295;replace q295:=eq_true q295;have p33:0≤(x7_2:Int):=of_decide_eq_true zmb9_4;have q33:(x7_2:Int) < ((x6_2.length:Int):Int):=of_decide_eq_true zmb9_4;obtain ⟨hx33_0,hf33_0⟩:=Kd.R_celln false HO_6.out (x7_2:Int) p33 q33;replace p33:=eq_true p33;replace q33:=eq_true q33;obtain ⟨hy37_,hz37_⟩:=Kd.R_celln false HO_6.out (x7_2:Int) (of_decide_eq_true zmb9_4) (of_decide_eq_true zmb9_4);have HP37:=Kd.R_putg HO_6.out (x7_2:Int) true)|((with_reducible refine gate_store (t:=4) (p:=72) rfl ?_);(try (rw [drewN_self w35];generalize hq_:World.drewN w35 _ = w35;have n0_:=Aside0.mk (Kd.R_at hq_ HO_3.out);have n1_:=Aside0.mk (Kd.R_at hq_ HO_5.out);have n2_:=Aside0.mk (Kd.R_at hq_ HO_6.out);have n3_:=Aside0.mk (below_at hq_ HB.out);clear hq_ HO_3 HO_5 HO_6 HB;have HO_3:=n0_;have HO_5:=n1_;have HO_6:=n2_;have HB:=n3_;clear n0_ n1_ n2_ n3_;(try (obtain ⟨hy37_,hz37_⟩:=Kd.R_celln false HO_6.out (x7_2:Int) (of_decide_eq_true zmb9_4) (of_decide_eq_true zmb9_4)));(try (have HP37:=Kd.R_putg HO_6.out (x7_2:Int) true))));refine store_event (t:=4) (p:=72) (v:=?vo_w38) (w1:=(w35.setCell ⟨go18,(x7_2:Int).toNat,none⟩ (.bool true))) ?hg ?ho ?hn ?hr ?_;(case ho=>rfl);(case hg=>rfl);(case hn=>rfl);(case hr=>first|(go_simp;done)|(go_simp;rfl));intro w38 hw;have hg:w35.grownBy w38 (some go18):=(by rw [hw];exact HP37.2);have hp_:Kd.R Kd.bool 4 w38 w.heap.size (fun k_=>some k_≠(.slice (some ad288) x3_1.length co10:Value).ownBlock) (.slice (some ⟨go18,0,none⟩) x6_2.length co18) y297:=zmb9_23;clear HP37;have n0_:=Aside0.mk (Kd.R_after (v:=(.slice (some ⟨go18,0,none⟩) x6_2.length co18)) (v1:=(.slice (some ⟨go18,0,none⟩) x6_2.length co18)) (ok:=(fun _=>True)) zmb9_11 hg (.inl rfl));have n1_:=Aside0.mk (Kd.R_over' (v:=(.slice (some ⟨go18,0,none⟩) x6_2.length co18)) zmb9_9 (Kd.R_typed HO_6.out) (by decide) hg);have n2_:=Aside0.mk (hp_);have n3_:=Aside0.mk ((by rw [hw];exact below_set (HB.out) GB18.out:Below w.heap.size w w38));clear HO_3 HO_5 HO_6 HB;have HO_3:=n0_;have HO_5:=n1_;have HO_6:=n2_;have HB:=n3_;clear n0_ n1_ n2_ n3_;clear hg hw hp_))
                    repeat (go_quiet (first|((with_reducible refine gate_store (t:=4) (p:=36) rfl ?_);(try (rw [drewN_self wr];generalize hq_:World.drewN wr _ = wr;have n0_:=Aside0.mk (Kd.R_at hq_ HO_3.out);have n1_:=Aside0.mk (Kd.R_at hq_ HO_5.out);have n2_:=Aside0.mk (Kd.R_at hq_ HO_6.out);have n3_:=Aside0.mk (below_at hq_ HB.out);clear hq_ HO_3 HO_5 HO_6 HB;have HO_3:=n0_;have HO_5:=n1_;have HO_6:=n2_;have HB:=n3_;clear n0_ n1_ n2_ n3_;(try (have HP34:=Kd.R_putg HO_6.out (x7_2:Int) false))));refine store_event (t:=4) (p:=36) (v:=?vo_w35) (w1:=(wr.setCell ⟨go18,(x7_2:Int).toNat,none⟩ (.bool false))) ?hg ?ho ?hn ?hr ?_;(case ho=>rfl);(case hg=>rfl);(case hn=>rfl);(case hr=>first|(go_simp;done)|(go_simp;rfl));intro w35 hw;have hg:wr.grownBy w35 (some go18):=(by rw [hw];exact HP34.2);have hp_:Kd.R Kd.bool 4 w35 w.heap.size (fun k_=>some k_≠(.slice (some ad288) x3_1.length co10:Value).ownBlock) (.slice (some ⟨go18,0,none⟩) x6_2.length co18) y289:=zmb9_22;clear HP34;have n0_:=Aside0.mk (Kd.R_after (v:=(.slice (some ⟨go18,0,none⟩) x6_2.length co18)) (v1:=(.slice (some ⟨go18,0,none⟩) x6_2.length co18)) (ok:=(fun _=>True)) zmb9_15 hg (.inl rfl));have n1_:=Aside0.mk (Kd.R_over' (v:=(.slice (some ⟨go18,0,none⟩) x6_2.length co18)) zmb9_9 (Kd.R_typed HO_6.out) (by decide) hg);have n2_:=Aside0.mk (hp_);have n3_:=Aside0.mk ((by rw [hw];exact below_set (HB.out) GB18.out:Below w.heap.size w w35));clear HO_3 HO_5 HO_6 HB;have HO_3:=n0_;have HO_5:=n1_;have HO_6:=n2_;have HB:=n3_;clear n0_ n1_ n2_ n3_;clear hg hw hp_;have p290:0≤(x7_2:Int):=of_decide_eq_true zmb9_4;have q290:x7_2 < (l0.length:Int):=of_decide_eq_true zmb9_4;obtain ⟨ad290,e290,hx290_0,hx290_1,hx290_2,hx290_3,hx290_4,hx290_5,hx290_6⟩:=at_T48 HR0.out x7_2 p290 q290;cases e290;replace hx290_0:=(HB.out.cell (World.block_lt_of_cell? w _ hx290_0)).trans hx290_0;replace hx290_1:=(HB.out.cell (World.block_lt_of_cell? w _ hx290_1)).trans hx290_1;replace hx290_2:=(HB.out.cell (World.block_lt_of_cell? w _ hx290_2)).trans hx290_2;replace hx290_3:=(HB.out.cell (World.block_lt_of_cell? w _ hx290_3)).trans hx290_3;replace hx290_4:=(HB.out.cell (World.block_lt_of_cell? w _ hx290_4)).trans hx290_4;replace hx290_5:=(HB.out.cell (World.block_lt_of_cell? w _ hx290_5)).trans hx290_5;replace hx290_6:=(HB.out.cell (World.block_lt_of_cell? w _ hx290_6)).trans hx290_6;replace p290:=eq_true p290;replace q290:=eq_true q290;have p291:0≤(x7_2:Int):=of_decide_eq_true zmb9_4;have q291:x7_2 < (l0.length:Int):=of_decide_eq_true zmb9_4;obtain ⟨ad291,e291,hx291_0,hx291_1,hx291_2,hx291_3,hx291_4,hx291_5,hx291_6⟩:=at_T48 HR0.out x7_2 p291 q291;obtain rfl:ad290 = ad291:=zmb9_16;replace hx291_0:=(HB.out.cell (World.block_lt_of_cell? w _ hx291_0)).trans hx291_0;replace hx291_1:=(HB.out.cell (World.block_lt_of_cell? w _ hx291_1)).trans hx291_1;replace hx291_2:=(HB.out.cell (World.block_lt_of_cell? w _ hx291_2)).trans hx291_2;replace hx291_3:=(HB.out.cell (World.block_lt_of_cell? w _ hx291_3)).trans hx291_3;replace hx291_4:=(HB.out.cell (World.block_lt_of_cell? w _ hx291_4)).trans hx291_4;replace hx291_5:=(HB.out.cell (World.block_lt_of_cell? w _ hx291_5)).trans hx291_5;replace hx291_6:=(HB.out.cell (World.block_lt_of_cell? w _ hx291_6)).trans hx291_6;replace p291:=eq_true p291;replace q291:=eq_true q291)|(go_at_call 50;(with_reducible refine (rushlightref05_stands.calls k2 _ _ l0 ((rd_T48 l0 x7_2).f2) t292 _ ?side1 ?side2 A20.out).mono ?_);(case side1=>repeat (first|exact (Kd.C_below HR0.out HB.out)|(with_reducible refine Kd.C_alloc ?_ _)|(with_reducible refine Kd.C_drewN ?_ _)|(with_reducible refine Kd.C_drew ?_)));(case side2=>exact HC0.out);rintro e w' ⟨rfl,⟨nd,rfl⟩⟩;(try first|exact ⟨rfl,_,World.drewN_drewN _ _ _⟩|exact ⟨rfl,_,Eq.trans (World.drewN_drewN _ _ _) (congrArg (World.drewN _) (Nat.add_assoc _ _ _))⟩);obtain ⟨Ao36,co36,eo36⟩:=Kd.R_slice HO_5.out;subst eo36;have p293:0≤(t292:Int):=of_decide_eq_true zmb9_4;have q293:t292 < (t282.length:Int):=of_decide_eq_true zmb9_4;obtain ⟨ad293,e293,hx293_0⟩:=Kd.at_int (Kd.R_reads' HO_5.out).2.2 t292 p293 q293;cases e293;replace p293:=eq_true p293;replace q293:=eq_true q293;have p294:0≤(x7_2:Int):=of_decide_eq_true zmb9_4;have q294:x7_2 < (t282.length:Int):=of_decide_eq_true zmb9_4;obtain ⟨ad294,e294,hx294_0⟩:=Kd.at_int (Kd.R_reads' HO_5.out).2.2 x7_2 p294 q294;obtain rfl:ad293 = ad294:=zmb9_17;replace p294:=eq_true p294;replace q294:=eq_true q294;have p295:0≤(x7_2:Int):=of_decide_eq_true zmb9_4;have q295:x7_2 < (x3_1.length:Int):=of_decide_eq_true zmb9_4;obtain ⟨ad295,e295,hx295_0⟩:=Kd.at_bool (Kd.R_reads' HO_3.out).2.2 x7_2 p295 q295;(try rw [← Nbq24.out] at hx295_0);obtain rfl:ad288 = ad295:=zmb9_18;replace p295:=eq_true p295;replace q295:=eq_true q295;have p33:0≤(x7_2:Int):=of_decide_eq_true zmb9_4;have q33:(x7_2:Int) < ((x6_2.length:Int):Int):=of_decide_eq_true zmb9_4;obtain ⟨hx33_0,hf33_0⟩:=Kd.R_celln false HO_6.out (x7_2:Int) p33 q33;replace p33:=eq_true p33;replace q33:=eq_true q33;obtain ⟨hy37_,hz37_⟩:=Kd.R_celln false HO_6.out (x7_2:Int) (of_decide_eq_true zmb9_4) (of_decide_eq_true zmb9_4);have HP37:=Kd.R_putg HO_6.out (x7_2:Int) true)|((with_reducible refine gate_store (t:=4) (p:=72) rfl ?_);(try (rw [drewN_self w35];generalize hq_:World.drewN w35 _ = w35;have n0_:=Aside0.mk (Kd.R_at hq_ HO_3.out);have n1_:=Aside0.mk (Kd.R_at hq_ HO_5.out);have n2_:=Aside0.mk (Kd.R_at hq_ HO_6.out);have n3_:=Aside0.mk (below_at hq_ HB.out);clear hq_ HO_3 HO_5 HO_6 HB;have HO_3:=n0_;have HO_5:=n1_;have HO_6:=n2_;have HB:=n3_;clear n0_ n1_ n2_ n3_;(try (obtain ⟨hy37_,hz37_⟩:=Kd.R_celln false HO_6.out (x7_2:Int) (of_decide_eq_true zmb9_4) (of_decide_eq_true zmb9_4)));(try (have HP37:=Kd.R_putg HO_6.out (x7_2:Int) true))));refine store_event (t:=4) (p:=72) (v:=?vo_w38) (w1:=(w35.setCell ⟨go18,(x7_2:Int).toNat,none⟩ (.bool true))) ?hg ?ho ?hn ?hr ?_;(case ho=>rfl);(case hg=>rfl);(case hn=>rfl);(case hr=>first|(go_simp;done)|(go_simp;rfl));intro w38 hw;have hg:w35.grownBy w38 (some go18):=(by rw [hw];exact HP37.2);have hp_:Kd.R Kd.bool 4 w38 w.heap.size (fun k_=>some k_≠(.slice (some ad288) x3_1.length co10:Value).ownBlock) (.slice (some ⟨go18,0,none⟩) x6_2.length co18) y297:=zmb9_23;clear HP37;have n0_:=Aside0.mk (Kd.R_after (v:=(.slice (some ⟨go18,0,none⟩) x6_2.length co18)) (v1:=(.slice (some ⟨go18,0,none⟩) x6_2.length co18)) (ok:=(fun _=>True)) zmb9_11 hg (.inl rfl));have n1_:=Aside0.mk (Kd.R_over' (v:=(.slice (some ⟨go18,0,none⟩) x6_2.length co18)) zmb9_9 (Kd.R_typed HO_6.out) (by decide) hg);have n2_:=Aside0.mk (hp_);have n3_:=Aside0.mk ((by rw [hw];exact below_set (HB.out) GB18.out:Below w.heap.size w w38));clear HO_3 HO_5 HO_6 HB;have HO_3:=n0_;have HO_5:=n1_;have HO_6:=n2_;have HB:=n3_;clear n0_ n1_ n2_ n3_;clear hg hw hp_));try go_wp2_with (first|((with_reducible refine gate_store (t:=4) (p:=36) rfl ?_);(try (rw [drewN_self wr];generalize hq_:World.drewN wr _ = wr;have n0_:=Aside0.mk (Kd.R_at hq_ HO_3.out);have n1_:=Aside0.mk (Kd.R_at hq_ HO_5.out);have n2_:=Aside0.mk (Kd.R_at hq_ HO_6.out);have n3_:=Aside0.mk (below_at hq_ HB.out);clear hq_ HO_3 HO_5 HO_6 HB;have HO_3:=n0_;have HO_5:=n1_;have HO_6:=n2_;have HB:=n3_;clear n0_ n1_ n2_ n3_;(try (have HP34:=Kd.R_putg HO_6.out (x7_2:Int) false))));refine store_event (t:=4) (p:=36) (v:=?vo_w35) (w1:=(wr.setCell ⟨go18,(x7_2:Int).toNat,none⟩ (.bool false))) ?hg ?ho ?hn ?hr ?_;(case ho=>rfl);(case hg=>rfl);(case hn=>rfl);(case hr=>first|(go_simp;done)|(go_simp;rfl));intro w35 hw;have hg:wr.grownBy w35 (some go18):=(by rw [hw];exact HP34.2);have hp_:Kd.R Kd.bool 4 w35 w.heap.size (fun k_=>some k_≠(.slice (some ad288) x3_1.length co10:Value).ownBlock) (.slice (some ⟨go18,0,none⟩) x6_2.length co18) y289:=zmb9_22;clear HP34;have n0_:=Aside0.mk (Kd.R_after (v:=(.slice (some ⟨go18,0,none⟩) x6_2.length co18)) (v1:=(.slice (some ⟨go18,0,none⟩) x6_2.length co18)) (ok:=(fun _=>True)) zmb9_15 hg (.inl rfl));have n1_:=Aside0.mk (Kd.R_over' (v:=(.slice (some ⟨go18,0,none⟩) x6_2.length co18)) zmb9_9 (Kd.R_typed HO_6.out) (by decide) hg);have n2_:=Aside0.mk (hp_);have n3_:=Aside0.mk ((by rw [hw];exact below_set (HB.out) GB18.out:Below w.heap.size w w35));clear HO_3 HO_5 HO_6 HB;have HO_3:=n0_;have HO_5:=n1_;have HO_6:=n2_;have HB:=n3_;clear n0_ n1_ n2_ n3_;clear hg hw hp_;have p290:0≤(x7_2:Int):=of_decide_eq_true zmb9_4;have q290:x7_2 < (l0.length:Int):=of_decide_eq_true zmb9_4;obtain ⟨ad290,e290,hx290_0,hx290_1,hx290_2,hx290_3,hx290_4,hx290_5,hx290_6⟩:=at_T48 HR0.out x7_2 p290 q290;cases e290;replace hx290_0:=(HB.out.cell (World.block_lt_of_cell? w _ hx290_0)).trans hx290_0;replace hx290_1:=(HB.out.cell (World.block_lt_of_cell? w _ hx290_1)).trans hx290_1;replace hx290_2:=(HB.out.cell (World.block_lt_of_cell? w _ hx290_2)).trans hx290_2;replace hx290_3:=(HB.out.cell (World.block_lt_of_cell? w _ hx290_3)).trans hx290_3;replace hx290_4:=(HB.out.cell (World.block_lt_of_cell? w _ hx290_4)).trans hx290_4;replace hx290_5:=(HB.out.cell (World.block_lt_of_cell? w _ hx290_5)).trans hx290_5;replace hx290_6:=(HB.out.cell (World.block_lt_of_cell? w _ hx290_6)).trans hx290_6;replace p290:=eq_true p290;replace q290:=eq_true q290;have p291:0≤(x7_2:Int):=of_decide_eq_true zmb9_4;have q291:x7_2 < (l0.length:Int):=of_decide_eq_true zmb9_4;obtain ⟨ad291,e291,hx291_0,hx291_1,hx291_2,hx291_3,hx291_4,hx291_5,hx291_6⟩:=at_T48 HR0.out x7_2 p291 q291;obtain rfl:ad290 = ad291:=zmb9_16;replace hx291_0:=(HB.out.cell (World.block_lt_of_cell? w _ hx291_0)).trans hx291_0;replace hx291_1:=(HB.out.cell (World.block_lt_of_cell? w _ hx291_1)).trans hx291_1;replace hx291_2:=(HB.out.cell (World.block_lt_of_cell? w _ hx291_2)).trans hx291_2;replace hx291_3:=(HB.out.cell (World.block_lt_of_cell? w _ hx291_3)).trans hx291_3;replace hx291_4:=(HB.out.cell (World.block_lt_of_cell? w _ hx291_4)).trans hx291_4;replace hx291_5:=(HB.out.cell (World.block_lt_of_cell? w _ hx291_5)).trans hx291_5;replace hx291_6:=(HB.out.cell (World.block_lt_of_cell? w _ hx291_6)).trans hx291_6;replace p291:=eq_true p291;replace q291:=eq_true q291)|(go_at_call 50;(with_reducible refine (rushlightref05_stands.calls k2 _ _ l0 ((rd_T48 l0 x7_2).f2) t292 _ ?side1 ?side2 A20.out).mono ?_);(case side1=>repeat (first|exact (Kd.C_below HR0.out HB.out)|(with_reducible refine Kd.C_alloc ?_ _)|(with_reducible refine Kd.C_drewN ?_ _)|(with_reducible refine Kd.C_drew ?_)));(case side2=>exact HC0.out);rintro e w' ⟨rfl,⟨nd,rfl⟩⟩;(try first|exact ⟨rfl,_,World.drewN_drewN _ _ _⟩|exact ⟨rfl,_,Eq.trans (World.drewN_drewN _ _ _) (congrArg (World.drewN _) (Nat.add_assoc _ _ _))⟩);obtain ⟨Ao36,co36,eo36⟩:=Kd.R_slice HO_5.out;subst eo36;have p293:0≤(t292:Int):=of_decide_eq_true zmb9_4;have q293:t292 < (t282.length:Int):=of_decide_eq_true zmb9_4;obtain ⟨ad293,e293,hx293_0⟩:=Kd.at_int (Kd.R_reads' HO_5.out).2.2 t292 p293 q293;cases e293;replace p293:=eq_true p293;replace q293:=eq_true q293;have p294:0≤(x7_2:Int):=of_decide_eq_true zmb9_4;have q294:x7_2 < (t282.length:Int):=of_decide_eq_true zmb9_4;obtain ⟨ad294,e294,hx294_0⟩:=Kd.at_int (Kd.R_reads' HO_5.out).2.2 x7_2 p294 q294;obtain rfl:ad293 = ad294:=zmb9_17;replace p294:=eq_true p294;replace q294:=eq_true q294;have p295:0≤(x7_2:Int):=of_decide_eq_true zmb9_4;have q295:x7_2 < (x3_1.length:Int):=of_decide_eq_true zmb9_4;obtain ⟨ad295,e295,hx295_0⟩:=Kd.at_bool (Kd.R_reads' HO_3.out).2.2 x7_2 p295 q295;(try rw [← Nbq24.out] at hx295_0);obtain rfl:ad288 = ad295:=zmb9_18;replace p295:=eq_true p295;replace q295:=eq_true q295;have p33:0≤(x7_2:Int):=of_decide_eq_true zmb9_4;have q33:(x7_2:Int) < ((x6_2.length:Int):Int):=of_decide_eq_true zmb9_4;obtain ⟨hx33_0,hf33_0⟩:=Kd.R_celln false HO_6.out (x7_2:Int) p33 q33;replace p33:=eq_true p33;replace q33:=eq_true q33;obtain ⟨hy37_,hz37_⟩:=Kd.R_celln false HO_6.out (x7_2:Int) (of_decide_eq_true zmb9_4) (of_decide_eq_true zmb9_4);have HP37:=Kd.R_putg HO_6.out (x7_2:Int) true)|((with_reducible refine gate_store (t:=4) (p:=72) rfl ?_);(try (rw [drewN_self w35];generalize hq_:World.drewN w35 _ = w35;have n0_:=Aside0.mk (Kd.R_at hq_ HO_3.out);have n1_:=Aside0.mk (Kd.R_at hq_ HO_5.out);have n2_:=Aside0.mk (Kd.R_at hq_ HO_6.out);have n3_:=Aside0.mk (below_at hq_ HB.out);clear hq_ HO_3 HO_5 HO_6 HB;have HO_3:=n0_;have HO_5:=n1_;have HO_6:=n2_;have HB:=n3_;clear n0_ n1_ n2_ n3_;(try (obtain ⟨hy37_,hz37_⟩:=Kd.R_celln false HO_6.out (x7_2:Int) (of_decide_eq_true zmb9_4) (of_decide_eq_true zmb9_4)));(try (have HP37:=Kd.R_putg HO_6.out (x7_2:Int) true))));refine store_event (t:=4) (p:=72) (v:=?vo_w38) (w1:=(w35.setCell ⟨go18,(x7_2:Int).toNat,none⟩ (.bool true))) ?hg ?ho ?hn ?hr ?_;(case ho=>rfl);(case hg=>rfl);(case hn=>rfl);(case hr=>first|(go_simp;done)|(go_simp;rfl));intro w38 hw;have hg:w35.grownBy w38 (some go18):=(by rw [hw];exact HP37.2);have hp_:Kd.R Kd.bool 4 w38 w.heap.size (fun k_=>some k_≠(.slice (some ad288) x3_1.length co10:Value).ownBlock) (.slice (some ⟨go18,0,none⟩) x6_2.length co18) y297:=zmb9_23;clear HP37;have n0_:=Aside0.mk (Kd.R_after (v:=(.slice (some ⟨go18,0,none⟩) x6_2.length co18)) (v1:=(.slice (some ⟨go18,0,none⟩) x6_2.length co18)) (ok:=(fun _=>True)) zmb9_11 hg (.inl rfl));have n1_:=Aside0.mk (Kd.R_over' (v:=(.slice (some ⟨go18,0,none⟩) x6_2.length co18)) zmb9_9 (Kd.R_typed HO_6.out) (by decide) hg);have n2_:=Aside0.mk (hp_);have n3_:=Aside0.mk ((by rw [hw];exact below_set (HB.out) GB18.out:Below w.heap.size w w38));clear HO_3 HO_5 HO_6 HB;have HO_3:=n0_;have HO_5:=n1_;have HO_6:=n2_;have HB:=n3_;clear n0_ n1_ n2_ n3_;clear hg hw hp_)))
                    go_roundg k2
                    case measure=>have:=HK1.out;have:=HK2.out;omega
                    case rel=>exact ⟨(y297),(wrap64 (x7_2 + 1)),zmb9_0,H',⟨zmb9_20⟩,⟨zmb9_13⟩,⟨zmb9_9⟩,⟨zmb9_21⟩,⟨zmb9_6⟩⟩
                   ·rw [if_neg c32] at H
                    have c32b0:decide ((wrap64 ((rd t282 t292) - (rd t282 x7_2))) < (-4096)) = false:=decide_eq_false c32
                    clear c32
                    obtain ⟨y298,hy298⟩:∃ y_:List Bool,y_ = (y289.set (x7_2:Int).toNat (decide ((wrap64 ((rd t282 t292) - (rd t282 x7_2))) > 4094))):=⟨_,rfl⟩
                    replace H:(rushlightref05_Far.l1 k2 l0 x3_1 x4_1 t282 y298 (wrap64 (x7_2 + 1))) = some r:=by first|(rw [hy298];with_reducible exact H)|(have H2_:=(Option.bind_some _ _).symm.trans H;rw [hy298];with_reducible exact H2_)|(have H2_:=(Option.bind_some _ _).symm.trans H;with_reducible exact H2_)|with_reducible exact H|(rw [hy298];exact H)|exact H
                    have Ny298:=Aside0.mk hy298
                    clear hy298
                    have H':=Aside0.mk H
                    clear H
                    have p288:0≤(x7_2:Int):=of_decide_eq_true zmb9_4
                    have q288:x7_2 < (x3_1.length:Int):=of_decide_eq_true zmb9_4
                    obtain ⟨ad288,e288,hx288_0⟩:=Kd.at_bool (Kd.R_reads' HO_3.out).2.2 x7_2 p288 q288
                    (try rw [← Nbq24.out] at hx288_0)
                    cases e288
                    replace p288:=eq_true p288
                    replace q288:=eq_true q288
                    have p18:0≤(x7_2:Int):=of_decide_eq_true zmb9_4
                    have q18:(x7_2:Int) < ((x6_2.length:Int):Int):=of_decide_eq_true zmb9_4
                    obtain ⟨go18,co18,eo18,gb18,gl18,cl18,HG18⟩:=Kd.R_form HO_6.out (by omega)
                    (first|cases eo18|(injection eo18 with ea_ en_ ec_;(first|subst ea_|(injection ea_ with ea_;subst ea_));subst ec_;clear en_))
                    have GB18:=Aside0.mk gb18
                    have GG18:=Aside0.mk HG18
                    clear gb18 gl18 HG18
                    obtain ⟨hx18_0,hf18_0⟩:=Kd.R_celln false HO_6.out (x7_2:Int) p18 q18
                    replace p18:=eq_true p18
                    replace q18:=eq_true q18
                    have HP40:=Kd.R_putg HO_6.out (x7_2:Int) false
                    go_wp2_with (first|((with_reducible refine gate_store (t:=4) (p:=36) rfl ?_);(try (rw [drewN_self wr];generalize hq_:World.drewN wr _ = wr;have n0_:=Aside0.mk (Kd.R_at hq_ HO_3.out);have n1_:=Aside0.mk (Kd.R_at hq_ HO_5.out);have n2_:=Aside0.mk (Kd.R_at hq_ HO_6.out);have n3_:=Aside0.mk (below_at hq_ HB.out);clear hq_ HO_3 HO_5 HO_6 HB;have HO_3:=n0_;have HO_5:=n1_;have HO_6:=n2_;have HB:=n3_;clear n0_ n1_ n2_ n3_;(try (have HP40:=Kd.R_putg HO_6.out (x7_2:Int) false))));refine store_event (t:=4) (p:=36) (v:=?vo_w41) (w1:=(wr.setCell ⟨go18,(x7_2:Int).toNat,none⟩ (.bool false))) ?hg ?ho ?hn ?hr ?_;(case ho=>rfl);(case hg=>rfl);(case hn=>rfl);(case hr=>first|(go_simp;done)|(go_simp;rfl));intro w41 hw;have hg:wr.grownBy w41 (some go18):=(by rw [hw];exact HP40.2);have hp_:Kd.R Kd.bool 4 w41 w.heap.size (fun k_=>some k_≠(.slice (some ad288) x3_1.length co10:Value).ownBlock) (.slice (some ⟨go18,0,none⟩) x6_2.length co18) y289:=zmb9_24;clear HP40;have n0_:=Aside0.mk (Kd.R_after (v:=(.slice (some ⟨go18,0,none⟩) x6_2.length co18)) (v1:=(.slice (some ⟨go18,0,none⟩) x6_2.length co18)) (ok:=(fun _=>True)) zmb9_15 hg (.inl rfl));have n1_:=Aside0.mk (Kd.R_over' (v:=(.slice (some ⟨go18,0,none⟩) x6_2.length co18)) zmb9_9 (Kd.R_typed HO_6.out) (by decide) hg);have n2_:=Aside0.mk (hp_);have n3_:=Aside0.mk ((by rw [hw];exact below_set (HB.out) GB18.out:Below w.heap.size w w41));clear HO_3 HO_5 HO_6 HB;have HO_3:=n0_;have HO_5:=n1_;have HO_6:=n2_;have HB:=n3_;clear n0_ n1_ n2_ n3_;clear hg hw hp_;have p290:0≤(x7_2:Int):=of_decide_eq_true zmb9_4;have q290:x7_2 < (l0.length:Int):=of_decide_eq_true zmb9_4;obtain ⟨ad290,e290,hx290_0,hx290_1,hx290_2,hx290_3,hx290_4,hx290_5,hx290_6⟩:=at_T48 HR0.out x7_2 p290 q290;cases e290;replace hx290_0:=(HB.out.cell (World.block_lt_of_cell? w _ hx290_0)).trans hx290_0;replace hx290_1:=(HB.out.cell (World.block_lt_of_cell? w _ hx290_1)).trans hx290_1;replace hx290_2:=(HB.out.cell (World.block_lt_of_cell? w _ hx290_2)).trans hx290_2;replace hx290_3:=(HB.out.cell (World.block_lt_of_cell? w _ hx290_3)).trans hx290_3;replace hx290_4:=(HB.out.cell (World.block_lt_of_cell? w _ hx290_4)).trans hx290_4;replace hx290_5:=(HB.out.cell (World.block_lt_of_cell? w _ hx290_5)).trans hx290_5;replace hx290_6:=(HB.out.cell (World.block_lt_of_cell? w _ hx290_6)).trans hx290_6;replace p290:=eq_true p290;replace q290:=eq_true q290;have p291:0≤(x7_2:Int):=of_decide_eq_true zmb9_4;have q291:x7_2 < (l0.length:Int):=of_decide_eq_true zmb9_4;obtain ⟨ad291,e291,hx291_0,hx291_1,hx291_2,hx291_3,hx291_4,hx291_5,hx291_6⟩:=at_T48 HR0.out x7_2 p291 q291;obtain rfl:ad290 = ad291:=zmb9_16;replace hx291_0:=(HB.out.cell (World.block_lt_of_cell? w _ hx291_0)).trans hx291_0;replace hx291_1:=(HB.out.cell (World.block_lt_of_cell? w _ hx291_1)).trans hx291_1;replace hx291_2:=(HB.out.cell (World.block_lt_of_cell? w _ hx291_2)).trans hx291_2;replace hx291_3:=(HB.out.cell (World.block_lt_of_cell? w _ hx291_3)).trans hx291_3;replace hx291_4:=(HB.out.cell (World.block_lt_of_cell? w _ hx291_4)).trans hx291_4;replace hx291_5:=(HB.out.cell (World.block_lt_of_cell? w _ hx291_5)).trans hx291_5;replace hx291_6:=(HB.out.cell (World.block_lt_of_cell? w _ hx291_6)).trans hx291_6;replace p291:=eq_true p291;replace q291:=eq_true q291)|(go_at_call 50;(with_reducible refine (rushlightref05_stands.calls k2 _ _ l0 ((rd_T48 l0 x7_2).f2) t292 _ ?side1 ?side2 A20.out).mono ?_);(case side1=>repeat (first|exact (Kd.C_below HR0.out HB.out)|(with_reducible refine Kd.C_alloc ?_ _)|(with_reducible refine Kd.C_drewN ?_ _)|(with_reducible refine Kd.C_drew ?_)));(case side2=>exact HC0.out);rintro e w' ⟨rfl,⟨nd,rfl⟩⟩;(try first|exact ⟨rfl,_,World.drewN_drewN _ _ _⟩|exact ⟨rfl,_,Eq.trans (World.drewN_drewN _ _ _) (congrArg (World.drewN _) (Nat.add_assoc _ _ _))⟩);obtain ⟨Ao42,co42,eo42⟩:=Kd.R_slice HO_5.out;subst eo42;have p293:0≤(t292:Int):=of_decide_eq_true zmb9_4;have q293:t292 < (t282.length:Int):=of_decide_eq_true zmb9_4;obtain ⟨ad293,e293,hx293_0⟩:=Kd.at_int (Kd.R_reads' HO_5.out).2.2 t292 p293 q293;cases e293;replace p293:=eq_true p293;replace q293:=eq_true q293;have p294:0≤(x7_2:Int):=of_decide_eq_true zmb9_4;have q294:x7_2 < (t282.length:Int):=of_decide_eq_true zmb9_4;obtain ⟨ad294,e294,hx294_0⟩:=Kd.at_int (Kd.R_reads' HO_5.out).2.2 x7_2 p294 q294;obtain rfl:ad293 = ad294:=zmb9_17;replace p294:=eq_true p294;replace q294:=eq_true q294;have p295:0≤(x7_2:Int):=of_decide_eq_true zmb9_4;have q295:x7_2 < (x3_1.length:Int):=of_decide_eq_true zmb9_4;obtain ⟨ad295,e295,hx295_0⟩:=Kd.at_bool (Kd.R_reads' HO_3.out).2.2 x7_2 p295 q295;(try rw [← Nbq24.out] at hx295_0);obtain rfl:ad288 = ad295:=zmb9_18;replace p295:=eq_true p295;replace q295:=eq_true q295;have p39:0≤(x7_2:Int):=of_decide_eq_true zmb9_4;have q39:(x7_2:Int) < ((x6_2.length:Int):Int):=of_decide_eq_true zmb9_4;obtain ⟨hx39_0,hf39_0⟩:=Kd.R_celln false HO_6.out (x7_2:Int) p39 q39;replace p39:=eq_true p39;replace q39:=eq_true q39;obtain ⟨hy43_,hz43_⟩:=Kd.R_celln false HO_6.out (x7_2:Int) (of_decide_eq_true zmb9_4) (of_decide_eq_true zmb9_4);have HP43:=Kd.R_putg HO_6.out (x7_2:Int) (decide ((wrap64 ((rd t282 t292) - (rd t282 x7_2))) > 4094)))|((with_reducible refine gate_store (t:=4) (p:=72) rfl ?_);(try (rw [drewN_self w41];generalize hq_:World.drewN w41 _ = w41;have n0_:=Aside0.mk (Kd.R_at hq_ HO_3.out);have n1_:=Aside0.mk (Kd.R_at hq_ HO_5.out);have n2_:=Aside0.mk (Kd.R_at hq_ HO_6.out);have n3_:=Aside0.mk (below_at hq_ HB.out);clear hq_ HO_3 HO_5 HO_6 HB;have HO_3:=n0_;have HO_5:=n1_;have HO_6:=n2_;have HB:=n3_;clear n0_ n1_ n2_ n3_;(try (obtain ⟨hy43_,hz43_⟩:=Kd.R_celln false HO_6.out (x7_2:Int) (of_decide_eq_true zmb9_4) (of_decide_eq_true zmb9_4)));(try (have HP43:=Kd.R_putg HO_6.out (x7_2:Int) (decide ((wrap64 ((rd t282 t292) - (rd t282 x7_2))) > 4094))))));refine store_event (t:=4) (p:=72) (v:=?vo_w44) (w1:=(w41.setCell ⟨go18,(x7_2:Int).toNat,none⟩ (.bool (decide ((wrap64 ((rd t282 t292) - (rd t282 x7_2))) > 4094))))) ?hg ?ho ?hn ?hr ?_;(case ho=>rfl);(case hg=>rfl);(case hn=>rfl);(case hr=>first|(go_simp;done)|(go_simp;rfl));intro w44 hw;have hg:w41.grownBy w44 (some go18):=(by rw [hw];exact HP43.2);have hp_:Kd.R Kd.bool 4 w44 w.heap.size (fun k_=>some k_≠(.slice (some ad288) x3_1.length co10:Value).ownBlock) (.slice (some ⟨go18,0,none⟩) x6_2.length co18) y298:=zmb9_25;clear HP43;have n0_:=Aside0.mk (Kd.R_after (v:=(.slice (some ⟨go18,0,none⟩) x6_2.length co18)) (v1:=(.slice (some ⟨go18,0,none⟩) x6_2.length co18)) (ok:=(fun _=>True)) zmb9_11 hg (.inl rfl));have n1_:=Aside0.mk (Kd.R_over' (v:=(.slice (some ⟨go18,0,none⟩) x6_2.length co18)) zmb9_9 (Kd.R_typed HO_6.out) (by decide) hg);have n2_:=Aside0.mk (hp_);have n3_:=Aside0.mk ((by rw [hw];exact below_set (HB.out) GB18.out:Below w.heap.size w w44));clear HO_3 HO_5 HO_6 HB;have HO_3:=n0_;have HO_5:=n1_;have HO_6:=n2_;have HB:=n3_;clear n0_ n1_ n2_ n3_;clear hg hw hp_))
                    repeat (go_quiet (first|((with_reducible refine gate_store (t:=4) (p:=36) rfl ?_);(try (rw [drewN_self wr];generalize hq_:World.drewN wr _ = wr;have n0_:=Aside0.mk (Kd.R_at hq_ HO_3.out);have n1_:=Aside0.mk (Kd.R_at hq_ HO_5.out);have n2_:=Aside0.mk (Kd.R_at hq_ HO_6.out);have n3_:=Aside0.mk (below_at hq_ HB.out);clear hq_ HO_3 HO_5 HO_6 HB;have HO_3:=n0_;have HO_5:=n1_;have HO_6:=n2_;have HB:=n3_;clear n0_ n1_ n2_ n3_;(try (have HP40:=Kd.R_putg HO_6.out (x7_2:Int) false))));refine store_event (t:=4) (p:=36) (v:=?vo_w41) (w1:=(wr.setCell ⟨go18,(x7_2:Int).toNat,none⟩ (.bool false))) ?hg ?ho ?hn ?hr ?_;(case ho=>rfl);(case hg=>rfl);(case hn=>rfl);(case hr=>first|(go_simp;done)|(go_simp;rfl));intro w41 hw;have hg:wr.grownBy w41 (some go18):=(by rw [hw];exact HP40.2);have hp_:Kd.R Kd.bool 4 w41 w.heap.size (fun k_=>some k_≠(.slice (some ad288) x3_1.length co10:Value).ownBlock) (.slice (some ⟨go18,0,none⟩) x6_2.length co18) y289:=zmb9_24;clear HP40;have n0_:=Aside0.mk (Kd.R_after (v:=(.slice (some ⟨go18,0,none⟩) x6_2.length co18)) (v1:=(.slice (some ⟨go18,0,none⟩) x6_2.length co18)) (ok:=(fun _=>True)) zmb9_15 hg (.inl rfl));have n1_:=Aside0.mk (Kd.R_over' (v:=(.slice (some ⟨go18,0,none⟩) x6_2.length co18)) zmb9_9 (Kd.R_typed HO_6.out) (by decide) hg);have n2_:=Aside0.mk (hp_);have n3_:=Aside0.mk ((by rw [hw];exact below_set (HB.out) GB18.out:Below w.heap.size w w41));clear HO_3 HO_5 HO_6 HB;have HO_3:=n0_;have HO_5:=n1_;have HO_6:=n2_;have HB:=n3_;clear n0_ n1_ n2_ n3_;clear hg hw hp_;have p290:0≤(x7_2:Int):=of_decide_eq_true zmb9_4;have q290:x7_2 < (l0.length:Int):=of_decide_eq_true zmb9_4;obtain ⟨ad290,e290,hx290_0,hx290_1,hx290_2,hx290_3,hx290_4,hx290_5,hx290_6⟩:=at_T48 HR0.out x7_2 p290 q290;cases e290;replace hx290_0:=(HB.out.cell (World.block_lt_of_cell? w _ hx290_0)).trans hx290_0;replace hx290_1:=(HB.out.cell (World.block_lt_of_cell? w _ hx290_1)).trans hx290_1;replace hx290_2:=(HB.out.cell (World.block_lt_of_cell? w _ hx290_2)).trans hx290_2;replace hx290_3:=(HB.out.cell (World.block_lt_of_cell? w _ hx290_3)).trans hx290_3;replace hx290_4:=(HB.out.cell (World.block_lt_of_cell? w _ hx290_4)).trans hx290_4;replace hx290_5:=(HB.out.cell (World.block_lt_of_cell? w _ hx290_5)).trans hx290_5;replace hx290_6:=(HB.out.cell (World.block_lt_of_cell? w _ hx290_6)).trans hx290_6;replace p290:=eq_true p290;replace q290:=eq_true q290;have p291:0≤(x7_2:Int):=of_decide_eq_true zmb9_4;have q291:x7_2 < (l0.length:Int):=of_decide_eq_true zmb9_4;obtain ⟨ad291,e291,hx291_0,hx291_1,hx291_2,hx291_3,hx291_4,hx291_5,hx291_6⟩:=at_T48 HR0.out x7_2 p291 q291;obtain rfl:ad290 = ad291:=zmb9_16;replace hx291_0:=(HB.out.cell (World.block_lt_of_cell? w _ hx291_0)).trans hx291_0;replace hx291_1:=(HB.out.cell (World.block_lt_of_cell? w _ hx291_1)).trans hx291_1;replace hx291_2:=(HB.out.cell (World.block_lt_of_cell? w _ hx291_2)).trans hx291_2;replace hx291_3:=(HB.out.cell (World.block_lt_of_cell? w _ hx291_3)).trans hx291_3;replace hx291_4:=(HB.out.cell (World.block_lt_of_cell? w _ hx291_4)).trans hx291_4;replace hx291_5:=(HB.out.cell (World.block_lt_of_cell? w _ hx291_5)).trans hx291_5;replace hx291_6:=(HB.out.cell (World.block_lt_of_cell? w _ hx291_6)).trans hx291_6;replace p291:=eq_true p291;replace q291:=eq_true q291)|(go_at_call 50;(with_reducible refine (rushlightref05_stands.calls k2 _ _ l0 ((rd_T48 l0 x7_2).f2) t292 _ ?side1 ?side2 A20.out).mono ?_);(case side1=>repeat (first|exact (Kd.C_below HR0.out HB.out)|(with_reducible refine Kd.C_alloc ?_ _)|(with_reducible refine Kd.C_drewN ?_ _)|(with_reducible refine Kd.C_drew ?_)));(case side2=>exact HC0.out);rintro e w' ⟨rfl,⟨nd,rfl⟩⟩;(try first|exact ⟨rfl,_,World.drewN_drewN _ _ _⟩|exact ⟨rfl,_,Eq.trans (World.drewN_drewN _ _ _) (congrArg (World.drewN _) (Nat.add_assoc _ _ _))⟩);obtain ⟨Ao42,co42,eo42⟩:=Kd.R_slice HO_5.out;subst eo42;have p293:0≤(t292:Int):=of_decide_eq_true zmb9_4;have q293:t292 < (t282.length:Int):=of_decide_eq_true zmb9_4;obtain ⟨ad293,e293,hx293_0⟩:=Kd.at_int (Kd.R_reads' HO_5.out).2.2 t292 p293 q293;cases e293;replace p293:=eq_true p293;replace q293:=eq_true q293;have p294:0≤(x7_2:Int):=of_decide_eq_true zmb9_4;have q294:x7_2 < (t282.length:Int):=of_decide_eq_true zmb9_4;obtain ⟨ad294,e294,hx294_0⟩:=Kd.at_int (Kd.R_reads' HO_5.out).2.2 x7_2 p294 q294;obtain rfl:ad293 = ad294:=zmb9_17;replace p294:=eq_true p294;replace q294:=eq_true q294;have p295:0≤(x7_2:Int):=of_decide_eq_true zmb9_4;have q295:x7_2 < (x3_1.length:Int):=of_decide_eq_true zmb9_4;obtain ⟨ad295,e295,hx295_0⟩:=Kd.at_bool (Kd.R_reads' HO_3.out).2.2 x7_2 p295 q295;(try rw [← Nbq24.out] at hx295_0);obtain rfl:ad288 = ad295:=zmb9_18;replace p295:=eq_true p295;replace q295:=eq_true q295;have p39:0≤(x7_2:Int):=of_decide_eq_true zmb9_4;have q39:(x7_2:Int) < ((x6_2.length:Int):Int):=of_decide_eq_true zmb9_4;obtain ⟨hx39_0,hf39_0⟩:=Kd.R_celln false HO_6.out (x7_2:Int) p39 q39;replace p39:=eq_true p39;replace q39:=eq_true q39;obtain ⟨hy43_,hz43_⟩:=Kd.R_celln false HO_6.out (x7_2:Int) (of_decide_eq_true zmb9_4) (of_decide_eq_true zmb9_4);have HP43:=Kd.R_putg HO_6.out (x7_2:Int) (decide ((wrap64 ((rd t282 t292) - (rd t282 x7_2))) > 4094)))|((with_reducible refine gate_store (t:=4) (p:=72) rfl ?_);(try (rw [drewN_self w41];generalize hq_:World.drewN w41 _ = w41;have n0_:=Aside0.mk (Kd.R_at hq_ HO_3.out);have n1_:=Aside0.mk (Kd.R_at hq_ HO_5.out);have n2_:=Aside0.mk (Kd.R_at hq_ HO_6.out);have n3_:=Aside0.mk (below_at hq_ HB.out);clear hq_ HO_3 HO_5 HO_6 HB;have HO_3:=n0_;have HO_5:=n1_;have HO_6:=n2_;have HB:=n3_;clear n0_ n1_ n2_ n3_;(try (obtain ⟨hy43_,hz43_⟩:=Kd.R_celln false HO_6.out (x7_2:Int) (of_decide_eq_true zmb9_4) (of_decide_eq_true zmb9_4)));(try (have HP43:=Kd.R_putg HO_6.out (x7_2:Int) (decide ((wrap64 ((rd t282 t292) - (rd t282 x7_2))) > 4094))))));refine store_event (t:=4) (p:=72) (v:=?vo_w44) (w1:=(w41.setCell ⟨go18,(x7_2:Int).toNat,none⟩ (.bool (decide ((wrap64 ((rd t282 t292) - (rd t282 x7_2))) > 4094))))) ?hg ?ho ?hn ?hr ?_;(case ho=>rfl);(case hg=>rfl);(case hn=>rfl);(case hr=>first|(go_simp;done)|(go_simp;rfl));intro w44 hw;have hg:w41.grownBy w44 (some go18):=(by rw [hw];exact HP43.2);have hp_:Kd.R Kd.bool 4 w44 w.heap.size (fun k_=>some k_≠(.slice (some ad288) x3_1.length co10:Value).ownBlock) (.slice (some ⟨go18,0,none⟩) x6_2.length co18) y298:=zmb9_25;clear HP43;have n0_:=Aside0.mk (Kd.R_after (v:=(.slice (some ⟨go18,0,none⟩) x6_2.length co18)) (v1:=(.slice (some ⟨go18,0,none⟩) x6_2.length co18)) (ok:=(fun _=>True)) zmb9_11 hg (.inl rfl));have n1_:=Aside0.mk (Kd.R_over' (v:=(.slice (some ⟨go18,0,none⟩) x6_2.length co18)) zmb9_9 (Kd.R_typed HO_6.out) (by decide) hg);have n2_:=Aside0.mk (hp_);have n3_:=Aside0.mk ((by rw [hw];exact below_set (HB.out) GB18.out:Below w.heap.size w w44));clear HO_3 HO_5 HO_6 HB;have HO_3:=n0_;have HO_5:=n1_;have HO_6:=n2_;have HB:=n3_;clear n0_ n1_ n2_ n3_;clear hg hw hp_));try go_wp2_with (first|((with_reducible refine gate_store (t:=4) (p:=36) rfl ?_);(try (rw [drewN_self wr];generalize hq_:World.drewN wr _ = wr;have n0_:=Aside0.mk (Kd.R_at hq_ HO_3.out);have n1_:=Aside0.mk (Kd.R_at hq_ HO_5.out);have n2_:=Aside0.mk (Kd.R_at hq_ HO_6.out);have n3_:=Aside0.mk (below_at hq_ HB.out);clear hq_ HO_3 HO_5 HO_6 HB;have HO_3:=n0_;have HO_5:=n1_;have HO_6:=n2_;have HB:=n3_;clear n0_ n1_ n2_ n3_;(try (have HP40:=Kd.R_putg HO_6.out (x7_2:Int) false))));refine store_event (t:=4) (p:=36) (v:=?vo_w41) (w1:=(wr.setCell ⟨go18,(x7_2:Int).toNat,none⟩ (.bool false))) ?hg ?ho ?hn ?hr ?_;(case ho=>rfl);(case hg=>rfl);(case hn=>rfl);(case hr=>first|(go_simp;done)|(go_simp;rfl));intro w41 hw;have hg:wr.grownBy w41 (some go18):=(by rw [hw];exact HP40.2);have hp_:Kd.R Kd.bool 4 w41 w.heap.size (fun k_=>some k_≠(.slice (some ad288) x3_1.length co10:Value).ownBlock) (.slice (some ⟨go18,0,none⟩) x6_2.length co18) y289:=zmb9_24;clear HP40;have n0_:=Aside0.mk (Kd.R_after (v:=(.slice (some ⟨go18,0,none⟩) x6_2.length co18)) (v1:=(.slice (some ⟨go18,0,none⟩) x6_2.length co18)) (ok:=(fun _=>True)) zmb9_15 hg (.inl rfl));have n1_:=Aside0.mk (Kd.R_over' (v:=(.slice (some ⟨go18,0,none⟩) x6_2.length co18)) zmb9_9 (Kd.R_typed HO_6.out) (by decide) hg);have n2_:=Aside0.mk (hp_);have n3_:=Aside0.mk ((by rw [hw];exact below_set (HB.out) GB18.out:Below w.heap.size w w41));clear HO_3 HO_5 HO_6 HB;have HO_3:=n0_;have HO_5:=n1_;have HO_6:=n2_;have HB:=n3_;clear n0_ n1_ n2_ n3_;clear hg hw hp_;have p290:0≤(x7_2:Int):=of_decide_eq_true zmb9_4;have q290:x7_2 < (l0.length:Int):=of_decide_eq_true zmb9_4;obtain ⟨ad290,e290,hx290_0,hx290_1,hx290_2,hx290_3,hx290_4,hx290_5,hx290_6⟩:=at_T48 HR0.out x7_2 p290 q290;cases e290;replace hx290_0:=(HB.out.cell (World.block_lt_of_cell? w _ hx290_0)).trans hx290_0;replace hx290_1:=(HB.out.cell (World.block_lt_of_cell? w _ hx290_1)).trans hx290_1;replace hx290_2:=(HB.out.cell (World.block_lt_of_cell? w _ hx290_2)).trans hx290_2;replace hx290_3:=(HB.out.cell (World.block_lt_of_cell? w _ hx290_3)).trans hx290_3;replace hx290_4:=(HB.out.cell (World.block_lt_of_cell? w _ hx290_4)).trans hx290_4;replace hx290_5:=(HB.out.cell (World.block_lt_of_cell? w _ hx290_5)).trans hx290_5;replace hx290_6:=(HB.out.cell (World.block_lt_of_cell? w _ hx290_6)).trans hx290_6;replace p290:=eq_true p290;replace q290:=eq_true q290;have p291:0≤(x7_2:Int):=of_decide_eq_true zmb9_4;have q291:x7_2 < (l0.length:Int):=of_decide_eq_true zmb9_4;obtain ⟨ad291,e291,hx291_0,hx291_1,hx291_2,hx291_3,hx291_4,hx291_5,hx291_6⟩:=at_T48 HR0.out x7_2 p291 q291;obtain rfl:ad290 = ad291:=zmb9_16;replace hx291_0:=(HB.out.cell (World.block_lt_of_cell? w _ hx291_0)).trans hx291_0;replace hx291_1:=(HB.out.cell (World.block_lt_of_cell? w _ hx291_1)).trans hx291_1;replace hx291_2:=(HB.out.cell (World.block_lt_of_cell? w _ hx291_2)).trans hx291_2;replace hx291_3:=(HB.out.cell (World.block_lt_of_cell? w _ hx291_3)).trans hx291_3;replace hx291_4:=(HB.out.cell (World.block_lt_of_cell? w _ hx291_4)).trans hx291_4;replace hx291_5:=(HB.out.cell (World.block_lt_of_cell? w _ hx291_5)).trans hx291_5;replace hx291_6:=(HB.out.cell (World.block_lt_of_cell? w _ hx291_6)).trans hx291_6;replace p291:=eq_true p291;replace q291:=eq_true q291)|(go_at_call 50;(with_reducible refine (rushlightref05_stands.calls k2 _ _ l0 ((rd_T48 l0 x7_2).f2) t292 _ ?side1 ?side2 A20.out).mono ?_);(case side1=>repeat (first|exact (Kd.C_below HR0.out HB.out)|(with_reducible refine Kd.C_alloc ?_ _)|(with_reducible refine Kd.C_drewN ?_ _)|(with_reducible refine Kd.C_drew ?_)));(case side2=>exact HC0.out);rintro e w' ⟨rfl,⟨nd,rfl⟩⟩;(try first|exact ⟨rfl,_,World.drewN_drewN _ _ _⟩|exact ⟨rfl,_,Eq.trans (World.drewN_drewN _ _ _) (congrArg (World.drewN _) (Nat.add_assoc _ _ _))⟩);obtain ⟨Ao42,co42,eo42⟩:=Kd.R_slice HO_5.out;subst eo42;have p293:0≤(t292:Int):=of_decide_eq_true zmb9_4;have q293:t292 < (t282.length:Int):=of_decide_eq_true zmb9_4;obtain ⟨ad293,e293,hx293_0⟩:=Kd.at_int (Kd.R_reads' HO_5.out).2.2 t292 p293 q293;cases e293;replace p293:=eq_true p293;replace q293:=eq_true q293;have p294:0≤(x7_2:Int):=of_decide_eq_true zmb9_4;have q294:x7_2 < (t282.length:Int):=of_decide_eq_true zmb9_4;obtain ⟨ad294,e294,hx294_0⟩:=Kd.at_int (Kd.R_reads' HO_5.out).2.2 x7_2 p294 q294;obtain rfl:ad293 = ad294:=zmb9_17;replace p294:=eq_true p294;replace q294:=eq_true q294;have p295:0≤(x7_2:Int):=of_decide_eq_true zmb9_4;have q295:x7_2 < (x3_1.length:Int):=of_decide_eq_true zmb9_4;obtain ⟨ad295,e295,hx295_0⟩:=Kd.at_bool (Kd.R_reads' HO_3.out).2.2 x7_2 p295 q295;(try rw [← Nbq24.out] at hx295_0);obtain rfl:ad288 = ad295:=zmb9_18;replace p295:=eq_true p295;replace q295:=eq_true q295;have p39:0≤(x7_2:Int):=of_decide_eq_true zmb9_4;have q39:(x7_2:Int) < ((x6_2.length:Int):Int):=of_decide_eq_true zmb9_4;obtain ⟨hx39_0,hf39_0⟩:=Kd.R_celln false HO_6.out (x7_2:Int) p39 q39;replace p39:=eq_true p39;replace q39:=eq_true q39;obtain ⟨hy43_,hz43_⟩:=Kd.R_celln false HO_6.out (x7_2:Int) (of_decide_eq_true zmb9_4) (of_decide_eq_true zmb9_4);have HP43:=Kd.R_putg HO_6.out (x7_2:Int) (decide ((wrap64 ((rd t282 t292) - (rd t282 x7_2))) > 4094)))|((with_reducible refine gate_store (t:=4) (p:=72) rfl ?_);(try (rw [drewN_self w41];generalize hq_:World.drewN w41 _ = w41;have n0_:=Aside0.mk (Kd.R_at hq_ HO_3.out);have n1_:=Aside0.mk (Kd.R_at hq_ HO_5.out);have n2_:=Aside0.mk (Kd.R_at hq_ HO_6.out);have n3_:=Aside0.mk (below_at hq_ HB.out);clear hq_ HO_3 HO_5 HO_6 HB;have HO_3:=n0_;have HO_5:=n1_;have HO_6:=n2_;have HB:=n3_;clear n0_ n1_ n2_ n3_;(try (obtain ⟨hy43_,hz43_⟩:=Kd.R_celln false HO_6.out (x7_2:Int) (of_decide_eq_true zmb9_4) (of_decide_eq_true zmb9_4)));(try (have HP43:=Kd.R_putg HO_6.out (x7_2:Int) (decide ((wrap64 ((rd t282 t292) - (rd t282 x7_2))) > 4094))))));refine store_event (t:=4) (p:=72) (v:=?vo_w44) (w1:=(w41.setCell ⟨go18,(x7_2:Int).toNat,none⟩ (.bool (decide ((wrap64 ((rd t282 t292) - (rd t282 x7_2))) > 4094))))) ?hg ?ho ?hn ?hr ?_;(case ho=>rfl);(case hg=>rfl);(case hn=>rfl);(case hr=>first|(go_simp;done)|(go_simp;rfl));intro w44 hw;have hg:w41.grownBy w44 (some go18):=(by rw [hw];exact HP43.2);have hp_:Kd.R Kd.bool 4 w44 w.heap.size (fun k_=>some k_≠(.slice (some ad288) x3_1.length co10:Value).ownBlock) (.slice (some ⟨go18,0,none⟩) x6_2.length co18) y298:=zmb9_25;clear HP43;have n0_:=Aside0.mk (Kd.R_after (v:=(.slice (some ⟨go18,0,none⟩) x6_2.length co18)) (v1:=(.slice (some ⟨go18,0,none⟩) x6_2.length co18)) (ok:=(fun _=>True)) zmb9_11 hg (.inl rfl));have n1_:=Aside0.mk (Kd.R_over' (v:=(.slice (some ⟨go18,0,none⟩) x6_2.length co18)) zmb9_9 (Kd.R_typed HO_6.out) (by decide) hg);have n2_:=Aside0.mk (hp_);have n3_:=Aside0.mk ((by rw [hw];exact below_set (HB.out) GB18.out:Below w.heap.size w w44));clear HO_3 HO_5 HO_6 HB;have HO_3:=n0_;have HO_5:=n1_;have HO_6:=n2_;have HB:=n3_;clear n0_ n1_ n2_ n3_;clear hg hw hp_)))
                    go_roundg k2
                    case measure=>have:=HK1.out;have:=HK2.out;omega
                    case rel=>exact ⟨(y298),(wrap64 (x7_2 + 1)),zmb9_0,H',⟨zmb9_20⟩,⟨zmb9_13⟩,⟨zmb9_9⟩,⟨zmb9_21⟩,⟨zmb9_6⟩⟩
                 ·rw [if_neg c23] at H
                  exact absurd H (by simp)
                ·rw [if_neg c22] at H
                 exact absurd H (by simp)
               ·rw [if_neg c21] at H
                exact absurd H (by simp)
              ·rw [if_neg c19] at H
               have c19b0:(((rd_T48 l0 x7_2).f0) == 3) = false:=beq_eq_false_iff_ne.mpr c19
               have c19b1:(((rd_T48 l0 x7_2).f0) != 3) = true:=bne_iff_ne.mpr c19
               have H':=Aside0.mk H
               clear H
               have p288:0≤(x7_2:Int):=of_decide_eq_true zmb9_4
               have q288:x7_2 < (x3_1.length:Int):=of_decide_eq_true zmb9_4
               obtain ⟨ad288,e288,hx288_0⟩:=Kd.at_bool (Kd.R_reads' HO_3.out).2.2 x7_2 p288 q288
               cases e288
               replace p288:=eq_true p288
               replace q288:=eq_true q288
               have p18:0≤(x7_2:Int):=of_decide_eq_true zmb9_4
               have q18:(x7_2:Int) < ((x6_2.length:Int):Int):=of_decide_eq_true zmb9_4
               obtain ⟨go18,co18,eo18,gb18,gl18,cl18,HG18⟩:=Kd.R_form HO_6.out (by omega)
               (first|cases eo18|(injection eo18 with ea_ en_ ec_;(first|subst ea_|(injection ea_ with ea_;subst ea_));subst ec_;clear en_))
               have GB18:=Aside0.mk gb18
               have GG18:=Aside0.mk HG18
               clear gb18 gl18 HG18
               obtain ⟨hx18_0,hf18_0⟩:=Kd.R_celln false HO_6.out (x7_2:Int) p18 q18
               replace p18:=eq_true p18
               replace q18:=eq_true q18
               have HP45:=Kd.R_putg HO_6.out (x7_2:Int) (rdOf false x3_1 x7_2)
               go_wp2_with (first|((with_reducible refine gate_store (t:=4) (p:=36) rfl ?_);(try (rw [drewN_self wr];generalize hq_:World.drewN wr _ = wr;have n0_:=Aside0.mk (Kd.R_at hq_ HO_3.out);have n1_:=Aside0.mk (Kd.R_at hq_ HO_5.out);have n2_:=Aside0.mk (Kd.R_at hq_ HO_6.out);have n3_:=Aside0.mk (below_at hq_ HB.out);clear hq_ HO_3 HO_5 HO_6 HB;have HO_3:=n0_;have HO_5:=n1_;have HO_6:=n2_;have HB:=n3_;clear n0_ n1_ n2_ n3_;(try (have HP45:=Kd.R_putg HO_6.out (x7_2:Int) (rdOf false x3_1 x7_2)))));refine store_event (t:=4) (p:=36) (v:=?vo_w46) (w1:=(wr.setCell ⟨go18,(x7_2:Int).toNat,none⟩ (.bool (rdOf false x3_1 x7_2)))) ?hg ?ho ?hn ?hr ?_;(case ho=>rfl);(case hg=>rfl);(case hn=>rfl);(case hr=>first|(go_simp;done)|(go_simp;rfl));intro w46 hw;have hg:wr.grownBy w46 (some go18):=(by rw [hw];exact HP45.2);have hp_:Kd.R Kd.bool 4 w46 w.heap.size (fun k_=>some k_≠(.slice (some ad288) x3_1.length co10:Value).ownBlock) (.slice (some ⟨go18,0,none⟩) x6_2.length co18) y289:=zmb9_26;clear HP45;have n0_:=Aside0.mk (Kd.R_after (v:=(.slice (some ⟨go18,0,none⟩) x6_2.length co18)) (v1:=(.slice (some ⟨go18,0,none⟩) x6_2.length co18)) (ok:=(fun _=>True)) zmb9_15 hg (.inl rfl));have n1_:=Aside0.mk (Kd.R_over' (v:=(.slice (some ⟨go18,0,none⟩) x6_2.length co18)) zmb9_9 (Kd.R_typed HO_6.out) (by decide) hg);have n2_:=Aside0.mk (hp_);have n3_:=Aside0.mk ((by rw [hw];exact below_set (HB.out) GB18.out:Below w.heap.size w w46));clear HO_3 HO_5 HO_6 HB;have HO_3:=n0_;have HO_5:=n1_;have HO_6:=n2_;have HB:=n3_;clear n0_ n1_ n2_ n3_;clear hg hw hp_;have p290:0≤(x7_2:Int):=of_decide_eq_true zmb9_4;have q290:x7_2 < (l0.length:Int):=of_decide_eq_true zmb9_4;obtain ⟨ad290,e290,hx290_0,hx290_1,hx290_2,hx290_3,hx290_4,hx290_5,hx290_6⟩:=at_T48 HR0.out x7_2 p290 q290;cases e290;replace hx290_0:=(HB.out.cell (World.block_lt_of_cell? w _ hx290_0)).trans hx290_0;replace hx290_1:=(HB.out.cell (World.block_lt_of_cell? w _ hx290_1)).trans hx290_1;replace hx290_2:=(HB.out.cell (World.block_lt_of_cell? w _ hx290_2)).trans hx290_2;replace hx290_3:=(HB.out.cell (World.block_lt_of_cell? w _ hx290_3)).trans hx290_3;replace hx290_4:=(HB.out.cell (World.block_lt_of_cell? w _ hx290_4)).trans hx290_4;replace hx290_5:=(HB.out.cell (World.block_lt_of_cell? w _ hx290_5)).trans hx290_5;replace hx290_6:=(HB.out.cell (World.block_lt_of_cell? w _ hx290_6)).trans hx290_6;replace p290:=eq_true p290;replace q290:=eq_true q290))
               repeat (go_quiet (first|((with_reducible refine gate_store (t:=4) (p:=36) rfl ?_);(try (rw [drewN_self wr];generalize hq_:World.drewN wr _ = wr;have n0_:=Aside0.mk (Kd.R_at hq_ HO_3.out);have n1_:=Aside0.mk (Kd.R_at hq_ HO_5.out);have n2_:=Aside0.mk (Kd.R_at hq_ HO_6.out);have n3_:=Aside0.mk (below_at hq_ HB.out);clear hq_ HO_3 HO_5 HO_6 HB;have HO_3:=n0_;have HO_5:=n1_;have HO_6:=n2_;have HB:=n3_;clear n0_ n1_ n2_ n3_;(try (have HP45:=Kd.R_putg HO_6.out (x7_2:Int) (rdOf false x3_1 x7_2)))));refine store_event (t:=4) (p:=36) (v:=?vo_w46) (w1:=(wr.setCell ⟨go18,(x7_2:Int).toNat,none⟩ (.bool (rdOf false x3_1 x7_2)))) ?hg ?ho ?hn ?hr ?_;(case ho=>rfl);(case hg=>rfl);(case hn=>rfl);(case hr=>first|(go_simp;done)|(go_simp;rfl));intro w46 hw;have hg:wr.grownBy w46 (some go18):=(by rw [hw];exact HP45.2);have hp_:Kd.R Kd.bool 4 w46 w.heap.size (fun k_=>some k_≠(.slice (some ad288) x3_1.length co10:Value).ownBlock) (.slice (some ⟨go18,0,none⟩) x6_2.length co18) y289:=zmb9_26;clear HP45;have n0_:=Aside0.mk (Kd.R_after (v:=(.slice (some ⟨go18,0,none⟩) x6_2.length co18)) (v1:=(.slice (some ⟨go18,0,none⟩) x6_2.length co18)) (ok:=(fun _=>True)) zmb9_15 hg (.inl rfl));have n1_:=Aside0.mk (Kd.R_over' (v:=(.slice (some ⟨go18,0,none⟩) x6_2.length co18)) zmb9_9 (Kd.R_typed HO_6.out) (by decide) hg);have n2_:=Aside0.mk (hp_);have n3_:=Aside0.mk ((by rw [hw];exact below_set (HB.out) GB18.out:Below w.heap.size w w46));clear HO_3 HO_5 HO_6 HB;have HO_3:=n0_;have HO_5:=n1_;have HO_6:=n2_;have HB:=n3_;clear n0_ n1_ n2_ n3_;clear hg hw hp_;have p290:0≤(x7_2:Int):=of_decide_eq_true zmb9_4;have q290:x7_2 < (l0.length:Int):=of_decide_eq_true zmb9_4;obtain ⟨ad290,e290,hx290_0,hx290_1,hx290_2,hx290_3,hx290_4,hx290_5,hx290_6⟩:=at_T48 HR0.out x7_2 p290 q290;cases e290;replace hx290_0:=(HB.out.cell (World.block_lt_of_cell? w _ hx290_0)).trans hx290_0;replace hx290_1:=(HB.out.cell (World.block_lt_of_cell? w _ hx290_1)).trans hx290_1;replace hx290_2:=(HB.out.cell (World.block_lt_of_cell? w _ hx290_2)).trans hx290_2;replace hx290_3:=(HB.out.cell (World.block_lt_of_cell? w _ hx290_3)).trans hx290_3;replace hx290_4:=(HB.out.cell (World.block_lt_of_cell? w _ hx290_4)).trans hx290_4;replace hx290_5:=(HB.out.cell (World.block_lt_of_cell? w _ hx290_5)).trans hx290_5;replace hx290_6:=(HB.out.cell (World.block_lt_of_cell? w _ hx290_6)).trans hx290_6;replace p290:=eq_true p290;replace q290:=eq_true q290));try go_wp2_with (first|((with_reducible refine gate_store (t:=4) (p:=36) rfl ?_);(try (rw [drewN_self wr];generalize hq_:World.drewN wr _ = wr;have n0_:=Aside0.mk (Kd.R_at hq_ HO_3.out);have n1_:=Aside0.mk (Kd.R_at hq_ HO_5.out);have n2_:=Aside0.mk (Kd.R_at hq_ HO_6.out);have n3_:=Aside0.mk (below_at hq_ HB.out);clear hq_ HO_3 HO_5 HO_6 HB;have HO_3:=n0_;have HO_5:=n1_;have HO_6:=n2_;have HB:=n3_;clear n0_ n1_ n2_ n3_;(try (have HP45:=Kd.R_putg HO_6.out (x7_2:Int) (rdOf false x3_1 x7_2)))));refine store_event (t:=4) (p:=36) (v:=?vo_w46) (w1:=(wr.setCell ⟨go18,(x7_2:Int).toNat,none⟩ (.bool (rdOf false x3_1 x7_2)))) ?hg ?ho ?hn ?hr ?_;(case ho=>rfl);(case hg=>rfl);(case hn=>rfl);(case hr=>first|(go_simp;done)|(go_simp;rfl));intro w46 hw;have hg:wr.grownBy w46 (some go18):=(by rw [hw];exact HP45.2);have hp_:Kd.R Kd.bool 4 w46 w.heap.size (fun k_=>some k_≠(.slice (some ad288) x3_1.length co10:Value).ownBlock) (.slice (some ⟨go18,0,none⟩) x6_2.length co18) y289:=zmb9_26;clear HP45;have n0_:=Aside0.mk (Kd.R_after (v:=(.slice (some ⟨go18,0,none⟩) x6_2.length co18)) (v1:=(.slice (some ⟨go18,0,none⟩) x6_2.length co18)) (ok:=(fun _=>True)) zmb9_15 hg (.inl rfl));have n1_:=Aside0.mk (Kd.R_over' (v:=(.slice (some ⟨go18,0,none⟩) x6_2.length co18)) zmb9_9 (Kd.R_typed HO_6.out) (by decide) hg);have n2_:=Aside0.mk (hp_);have n3_:=Aside0.mk ((by rw [hw];exact below_set (HB.out) GB18.out:Below w.heap.size w w46));clear HO_3 HO_5 HO_6 HB;have HO_3:=n0_;have HO_5:=n1_;have HO_6:=n2_;have HB:=n3_;clear n0_ n1_ n2_ n3_;clear hg hw hp_;have p290:0≤(x7_2:Int):=of_decide_eq_true zmb9_4;have q290:x7_2 < (l0.length:Int):=of_decide_eq_true zmb9_4;obtain ⟨ad290,e290,hx290_0,hx290_1,hx290_2,hx290_3,hx290_4,hx290_5,hx290_6⟩:=at_T48 HR0.out x7_2 p290 q290;cases e290;replace hx290_0:=(HB.out.cell (World.block_lt_of_cell? w _ hx290_0)).trans hx290_0;replace hx290_1:=(HB.out.cell (World.block_lt_of_cell? w _ hx290_1)).trans hx290_1;replace hx290_2:=(HB.out.cell (World.block_lt_of_cell? w _ hx290_2)).trans hx290_2;replace hx290_3:=(HB.out.cell (World.block_lt_of_cell? w _ hx290_3)).trans hx290_3;replace hx290_4:=(HB.out.cell (World.block_lt_of_cell? w _ hx290_4)).trans hx290_4;replace hx290_5:=(HB.out.cell (World.block_lt_of_cell? w _ hx290_5)).trans hx290_5;replace hx290_6:=(HB.out.cell (World.block_lt_of_cell? w _ hx290_6)).trans hx290_6;replace p290:=eq_true p290;replace q290:=eq_true q290)))
               go_roundg k2
               case measure=>have:=HK1.out;have:=HK2.out;omega
               case rel=>exact ⟨(y289),(wrap64 (x7_2 + 1)),zmb9_0,H',⟨zmb9_20⟩,⟨zmb9_13⟩,⟨zmb9_9⟩,⟨zmb9_21⟩,⟨zmb9_6⟩⟩
             ·rw [if_neg c17] at H
              exact absurd H (by simp)
            ·rw [if_neg c16] at H
             exact absurd H (by simp)
           ·rw [if_neg c15] at H
            exact absurd H (by simp)
          ·rw [if_neg c14] at H
           have c14b0:decide (x7_2 < (l0.length:Int)) = false:=decide_eq_false c14
           clear c14
           have H':=Aside0.mk H
           clear H
           go_wp2
           repeat (go_quiet (fail);try go_wp2)
           go_roundg k2
           case measure=>have:=HK1.out;have:=HK2.out;omega
           case rel=>exact ⟨(x6_2),(wrap64 (x4_1 + 1)),zmb9_0,H',⟨zmb9_20⟩,⟨by (with_reducible repeat (first|apply Kd.R_alloc|apply Kd.R_drewN|apply Kd.R_drew));exact Kd.R_mono HO_6.out (fun _ hk=>trivial)⟩,⟨zmb9_6⟩⟩
       ·rw [if_neg c9] at H
        exact absurd H (by simp)
      ·rw [if_neg c8] at H
       exact absurd H (by simp)
     ·rw [if_neg c6] at H
      have c6b0:decide (x4_1≤(l0.length:Int)) = false:=decide_eq_false c6
      clear c6
      obtain rfl:=Option.some.inj H
      go_wp2
      repeat (go_quiet (fail);try go_wp2)
      go_ret
      exact ⟨_,zmb9_7,zmb9_11,zmb9_6⟩
  ·rw [if_neg c3] at H
   exact absurd H (by simp)
 ·rw [if_neg c2] at H
  exact absurd H (by simp)
def rushlightref05_Contrary.f (a0:Int):Option (Int):=(rushlightref05_branch.f a0).bind fun t299=>(if t299 = true then (if (Int.tmod a0 2) = 1 then (some (wrap64 (a0 + 1))) else (some (wrap64 (a0 - 1)))) else (some 0))
set_option maxHeartbeats 8000000 in
set_option maxRecDepth 100000 in
theorem rushlightref05_Contrary.calls (a0:Int) (r:Int) (w:World) (h:rushlightref05_Contrary.f a0 = some r) :
  Calls Try.prog 17 #[.int .i64 a0] w fun e w'=>e = .returned (.int .i64 r)∧Drawn0 w w':=by
 have H:((rushlightref05_branch.f a0).bind fun t299=>(if t299 = true then (if (Int.tmod a0 2) = 1 then (some (wrap64 (a0 + 1))) else (some (wrap64 (a0 - 1)))) else (some 0))) = some r:=h
 clear h
 replace H:=Option.bind_eq_some_iff.mp H
 obtain ⟨t299,A20,H⟩:=H
 replace H:(if t299 = true then (if (Int.tmod a0 2) = 1 then (some (wrap64 (a0 + 1))) else (some (wrap64 (a0 - 1)))) else (some 0)) = some r:=H
 have A2:=Aside0.mk A20
 clear A20
 by_cases c3:t299 = true
 ·subst c3
  have H1:(if (Int.tmod a0 2) = 1 then (some (wrap64 (a0 + 1))) else (some (wrap64 (a0 - 1)))) = some r:=by rw [if_pos rfl] at H;exact H
  clear H
  have H:=H1
  clear H1
  by_cases c4:(Int.tmod a0 2) = 1
  ·rw [if_pos c4] at H
   have c4b0:((Int.tmod a0 2) == 1) = true:=beq_iff_eq.mpr c4
   have c4b1:((Int.tmod a0 2) != 1) = false:=bne_eq_false_iff_eq.mpr c4
   clear c4
   obtain rfl:=Option.some.inj H
   go_enter Try.func17,Try.ntmps17
   go_wp2_with (first|((with_reducible refine gate_callee (f:=37) rfl ?_);refine goesL_ (some 4) rfl rfl Try.func37 (by kernel_rfl) rfl #[.int .i64 a0] rfl zmb9_5 ?_;(with_reducible refine (rushlightref05_branch.calls a0 true _ A2.out).mono ?_);rintro e w' ⟨rfl,⟨nd,rfl⟩⟩;refine ⟨_,rfl,?_⟩))
   go_ret
   exact ⟨zmb9_0,zmb9_2⟩
  ·rw [if_neg c4] at H
   have c4b0:((Int.tmod a0 2) == 1) = false:=beq_eq_false_iff_ne.mpr c4
   have c4b1:((Int.tmod a0 2) != 1) = true:=bne_iff_ne.mpr c4
   obtain rfl:=Option.some.inj H
   go_enter Try.func17,Try.ntmps17
   go_wp2_with (first|((with_reducible refine gate_callee (f:=37) rfl ?_);refine goesL_ (some 4) rfl rfl Try.func37 (by kernel_rfl) rfl #[.int .i64 a0] rfl zmb9_5 ?_;(with_reducible refine (rushlightref05_branch.calls a0 true _ A2.out).mono ?_);rintro e w' ⟨rfl,⟨nd,rfl⟩⟩;refine ⟨_,rfl,?_⟩))
   go_ret
   exact ⟨zmb9_0,zmb9_2⟩
 ·replace c3:=Bool.eq_false_iff.mpr c3
  subst c3
  have H1:(some 0) = some r:=by rw [if_neg (show ¬ (false = true) by decide)] at H;exact H
  clear H
  have H:=H1
  clear H1
  obtain rfl:=Option.some.inj H
  go_enter Try.func17,Try.ntmps17
  go_wp2_with (first|((with_reducible refine gate_callee (f:=37) rfl ?_);refine goesL_ (some 4) rfl rfl Try.func37 (by kernel_rfl) rfl #[.int .i64 a0] rfl zmb9_5 ?_;(with_reducible refine (rushlightref05_branch.calls a0 false _ A2.out).mono ?_);rintro e w' ⟨rfl,⟨nd,rfl⟩⟩;refine ⟨_,rfl,?_⟩))
  go_ret
  exact ⟨zmb9_0,zmb9_2⟩
def rushlightref05_insts.f (k:Nat) (l0:List (S48)) (l1:List Int) (l2:List Bool) (a3:Int):Option ((List (S46))):=if 0≤a3 then (if a3 < (l0.length:Int) then (if ((rd_T48 l0 a3).f0) = 1 then (some (([(⟨(rd_T48 l0 a3).f1.f0,(rd_T48 l0 a3).f1.f1,(rd_T48 l0 a3).f1.f2,(rd_T48 l0 a3).f1.f3,(rd_T48 l0 a3).f1.f4⟩:S46)]:List (S46)))) else (if ((rd_T48 l0 a3).f0) = 2 then (some ([]:List (S46))) else (if ((rd_T48 l0 a3).f0) = 5 then ((rushlightref05_Number.f k ((rd_T48 l0 a3).f1.f1) ((rd_T48 l0 a3).f1.f4)).bind fun t128=>(some t128)) else ((rushlightref05_stands.f k l0 ((rd_T48 l0 a3).f2)).bind fun t131=>(if 0≤t131 then (if t131 < (l1.length:Int) then (if a3 < (l1.length:Int) then (if a3 < (l2.length:Int) then (if rdOf false l2 a3 = true then ((rushlightref05_Contrary.f ((rd_T48 l0 a3).f1.f0)).bind fun t135=>(some (([(⟨t135,(rd_T48 l0 a3).f1.f1,(rd_T48 l0 a3).f1.f2,(rd_T48 l0 a3).f1.f3,8⟩:S46),(⟨3,0,0,0,wrap64 ((wrap64 ((rd l1 t131) - (rd l1 a3))) - 4)⟩:S46)]:List (S46))))) else (some (([(⟨(rd_T48 l0 a3).f1.f0,(rd_T48 l0 a3).f1.f1,(rd_T48 l0 a3).f1.f2,(rd_T48 l0 a3).f1.f3,wrap64 ((rd l1 t131) - (rd l1 a3))⟩:S46)]:List (S46))))) else (none)) else (none)) else (none)) else (none)))))) else (none)) else (none)
theorem ref_lit1 (W:World) (base G:Nat) (x:S46) (hG:W.heap.size = G) (hb:base≤W.heap.size):Kd.R k46 46 (W.alloc (.cells #[.int .i64 x.f0,.int .i64 x.f1,.int .i64 x.f2,.int .i64 x.f3,.int .i64 x.f4] 46)) base (fun _=>True) (.slice (some ⟨G,0,none⟩) 1 1) [x]:=by
 subst hG
 exact ⟨fun _ _=>trivial,OwnRow.lit W base (ps:=[x]) (inner:=[.int .i64 x.f0,.int .i64 x.f1,.int .i64 x.f2,.int .i64 x.f3,.int .i64 x.f4]) ((Reps.none _ _).snoc (k46_mkM _ _ _ x) rfl) hb (show _≤9223372036854775807 by simp)⟩
theorem ref_lit2 (W:World) (base G:Nat) (x y:S46) (hG:W.heap.size = G) (hb:base≤W.heap.size):Kd.R k46 46 (W.alloc (.cells #[.int .i64 x.f0,.int .i64 x.f1,.int .i64 x.f2,.int .i64 x.f3,.int .i64 x.f4,.int .i64 y.f0,.int .i64 y.f1,.int .i64 y.f2,.int .i64 y.f3,.int .i64 y.f4] 46)) base (fun _=>True) (.slice (some ⟨G,0,none⟩) 2 2) [x,y]:=by
 subst hG
 exact ⟨fun _ _=>trivial,OwnRow.lit W base (ps:=[x,y]) (inner:=[.int .i64 x.f0,.int .i64 x.f1,.int .i64 x.f2,.int .i64 x.f3,.int .i64 x.f4,.int .i64 y.f0,.int .i64 y.f1,.int .i64 y.f2,.int .i64 y.f3,.int .i64 y.f4]) (((Reps.none _ _).snoc (k46_mkM _ _ _ x) rfl).snoc (k46_mkM _ _ _ y) rfl) hb (show _≤9223372036854775807 by simp)⟩
set_option maxHeartbeats 1000000 in
set_option maxRecDepth 100000 in
theorem rushlightref05_insts.calls (k:Nat) (A0:Option Addr) (c0:Nat) (l0:List (S48)) (A1:Option Addr) (c1:Nat) (l1:List Int) (A2:Option Addr) (c2:Nat) (l2:List Bool) (a3:Int) (r:List (S46)) (w:World) (hr0:Kd.C k48 w A0 l0.length l0) (hc0:l0.length≤c0) (hr1:Kd.C (Kd.int .i64) w A1 l1.length l1) (hc1:l1.length≤c1) (hr2:Kd.C Kd.bool w A2 l2.length l2) (hc2:l2.length≤c2) (h:rushlightref05_insts.f k l0 l1 l2 a3 = some r) :
  Calls Try.prog 33 #[.slice A0 l0.length c0,.slice A1 l1.length c1,.slice A2 l2.length c2,.int .i64 a3] w fun e w'=>∃ v0_:Value,e = .returned (v0_)∧Kd.R k46 46 w' w.heap.size (fun _=>True) v0_ r∧Below w.heap.size w w':=by
 have hu48:=Try.underlying48
 have hu46:=Try.underlying46
 simp only [rushlightref05_insts.f] at h
 by_cases p0:0≤a3
 case neg=>rw [if_neg p0] at h;cases h
 rw [if_pos p0] at h
 by_cases p1:a3 < (l0.length:Int)
 case neg=>rw [if_neg p1] at h;cases h
 rw [if_pos p1] at h
 have HR0:=Aside0.mk hr0
 have HR1:=Aside0.mk hr1
 have HR2:=Aside0.mk hr2
 have HC0:=Aside0.mk hc0
 clear hr0 hr1 hr2 hc0
 obtain ⟨ad,rfl,e0,e1,e2,e3,e4,e5,e6⟩:=at_T48 HR0.out a3 p0 p1
 generalize hx:rd_T48 l0 a3 = x at *
 obtain ⟨x0,⟨y0,y1,y2,y3,y4⟩,x2⟩:=x
 dsimp only at e0 e1 e2 e3 e4 e5 e6 h
 clear hx
 have d0:decide (0≤a3) = true:=decide_eq_true p0
 have d1:decide (a3 < (l0.length:Int)) = true:=decide_eq_true p1
 by_cases k1:x0 = 1
 ·have b1:(x0 == 1) = true:=by simp [k1]
  rw [if_pos k1] at h
  obtain rfl:=Option.some.inj h
  clear k1 h
  go_enter Try.func33,Try.ntmps33
  go_wp2
  go_ret
  exact ⟨.slice (some ⟨w.heap.size + 1 + 1,0,none⟩) 1 1,rfl,ref_lit1 _ w.heap.size _ ⟨y0,y1,y2,y3,y4⟩ (by simp) (by simp;omega),(((Below.refl _ _).alloc (Nat.le_refl _) _).alloc (by simp) _).alloc (by simp;omega) _⟩
 have b1:(x0 == 1) = false:=by simp [k1]
 rw [if_neg k1] at h
 by_cases k2:x0 = 2
 ·have b2:(x0 == 2) = true:=by simp [k2]
  rw [if_pos k2] at h
  obtain rfl:=Option.some.inj h
  clear k2 k1 h
  go_enter Try.func33,Try.ntmps33
  go_wp2
  go_ret
  exact ⟨_,rfl,Kd.R_nil _ _ _ _ _,((Below.refl _ _).alloc (Nat.le_refl _) _).alloc (by simp) _⟩
 have b2:(x0 == 2) = false:=by simp [k2]
 rw [if_neg k2] at h
 by_cases k5:x0 = 5
 ·have b5:(x0 == 5) = true:=by simp [k5]
  rw [if_pos k5] at h
  replace h:=Option.bind_eq_some_iff.mp h
  obtain ⟨q,hq,h⟩:=h
  obtain rfl:=Option.some.inj h
  have HQ:=Aside0.mk hq
  clear hq k5 k1 k2 h
  go_enter Try.func33,Try.ntmps33
  go_wp2_with (go_at_call 24;refine (rushlightref05_Number.calls k y1 y4 q _ HQ.out).mono ?_;rintro e w' ⟨v,rfl,ho,hb⟩;have HB:=Aside0.mk hb;have HO:=Aside0.mk ho;clear hb ho)
  go_ret
  exact ⟨_,rfl,Kd.R_lower HO.out (by simp;omega),below_then (((Below.refl _ _).alloc (Nat.le_refl _) _).alloc (by simp) _) (by simp;omega) HB.out⟩
 have b5:(x0 == 5) = false:=by simp [k5]
 rw [if_neg k5] at h
 replace h:=Option.bind_eq_some_iff.mp h
 obtain ⟨t,ht,h⟩:=h
 have HT:=Aside0.mk ht
 clear ht
 by_cases p2:0≤t
 case neg=>rw [if_neg p2] at h;cases h
 rw [if_pos p2] at h
 by_cases p3:t < (l1.length:Int)
 case neg=>rw [if_neg p3] at h;cases h
 rw [if_pos p3] at h
 by_cases p4:a3 < (l1.length:Int)
 case neg=>rw [if_neg p4] at h;cases h
 rw [if_pos p4] at h
 by_cases p5:a3 < (l2.length:Int)
 case neg=>rw [if_neg p5] at h;cases h
 rw [if_pos p5] at h
 obtain ⟨ad1,rfl,f0⟩:=Kd.at_int HR1.out a3 p0 p4
 obtain ⟨ad1',ea,f1⟩:=Kd.at_int HR1.out t p2 p3
 cases ea
 obtain ⟨ad2,rfl,f2⟩:=Kd.at_bool HR2.out a3 p0 p5
 generalize hz:wrap64 (rd l1 t - rd l1 a3) = z at *
 generalize rdOf false l2 a3 = b at *
 have HZ:=Aside0.mk hz
 clear hz k1 k2 k5
 have g0:∀ o1 o2:Obj,((w.alloc o1).alloc o2).cell? (ad1.add a3.toNat) = some (.int .i64 (rd l1 a3)):=fun o1 o2=>pw_cell_below (below_alloc (below_alloc (Below.refl _ _) o1) o2) f0
 have g1:∀ o1 o2:Obj,((w.alloc o1).alloc o2).cell? (ad1.add t.toNat) = some (.int .i64 (rd l1 t)):=fun o1 o2=>pw_cell_below (below_alloc (below_alloc (Below.refl _ _) o1) o2) f1
 have g2:∀ o1 o2:Obj,((w.alloc o1).alloc o2).cell? (ad2.add a3.toNat) = some (.bool b):=fun o1 o2=>pw_cell_below (below_alloc (below_alloc (Below.refl _ _) o1) o2) f2
 clear f0 f1 f2
 have hcall:∀ W:World,Below w.heap.size w W→Calls Try.prog 50 #[.slice (some ad) l0.length c0,.int .i64 x2] W fun e w'=>e = .returned (.int .i64 t)∧Drawn0 W w':=fun W hW=>rushlightref05_stands.calls k _ _ l0 x2 t W (Kd.C_below HR0.out hW) HC0.out HT.out
 have HCALL:=Aside0.mk hcall
 clear hcall
 cases b with
 | false =>
  rw [if_neg (by simp)] at h
  obtain rfl:=Option.some.inj h
  clear h
  go_enter Try.func33,Try.ntmps33
  go_wp2
  go_quiet ((go_at_call 50;refine (HCALL.out _ ?hbw).mono ?_;(case hbw=>repeat (first|exact Below.refl _ _|apply below_alloc|apply pw_below_drewN|apply below_drew));rintro e w' ⟨rfl,⟨nd,rfl⟩⟩;first|exact ⟨rfl,_,World.drewN_drewN _ _ _⟩|exact ⟨rfl,_,Eq.trans (World.drewN_drewN _ _ _) (congrArg (World.drewN _) (Nat.add_assoc _ _ _))⟩))
  rw [HZ.out]
  go_wp2
  go_ret
  exact ⟨.slice (some ⟨w.heap.size + 1 + 1,0,none⟩) 1 1,rfl,ref_lit1 _ w.heap.size _ ⟨y0,y1,y2,y3,z⟩ (by simp) (by simp;omega),below_alloc (below_set (pw_below_drewN (below_alloc (below_alloc (Below.refl _ _) _) _) _) (by omega)) _⟩
 | true =>
  rw [if_pos rfl] at h
  replace h:=Option.bind_eq_some_iff.mp h
  obtain ⟨q,hq,h⟩:=h
  obtain rfl:=Option.some.inj h
  have HQ:=Aside0.mk hq
  clear hq h
  go_enter Try.func33,Try.ntmps33
  go_wp2
  go_quiet ((go_at_call 50;refine (HCALL.out _ ?hbw).mono ?_;(case hbw=>repeat (first|exact Below.refl _ _|apply below_alloc|apply pw_below_drewN|apply below_drew));rintro e w' ⟨rfl,⟨nd,rfl⟩⟩;first|exact ⟨rfl,_,World.drewN_drewN _ _ _⟩|exact ⟨rfl,_,Eq.trans (World.drewN_drewN _ _ _) (congrArg (World.drewN _) (Nat.add_assoc _ _ _))⟩))
  rw [HZ.out]
  go_wp2_with (go_at_call 17;refine (rushlightref05_Contrary.calls y0 q _ HQ.out).mono ?_;rintro e w' ⟨rfl,⟨nd,rfl⟩⟩)
  go_ret
  exact ⟨.slice (some ⟨w.heap.size + 1 + 1,0,none⟩) 2 2,rfl,ref_lit2 _ w.heap.size _ ⟨q,y1,y2,y3,8⟩ ⟨3,0,0,0,wrap64 (z - 4)⟩ (by simp) (by simp;omega),below_alloc (below_set (below_set (pw_below_drewN (below_alloc (below_alloc (Below.refl _ _) _) _) _) (by omega)) (by omega)) _⟩
def rushlightref02_Code.f (a0:Int):Option (Int):=if a0 = 1 then (some 55) else (if a0 = 2 then (some 23) else (if a0 = 3 then (some 111) else (if a0 = 4 then (some 103) else (if a0≤10 then (some 99) else (if a0≤15 then (some 3) else (if a0≤18 then (some 35) else (if a0≤27 then (some 19) else (some 51))))))))
set_option maxHeartbeats 8000000 in
set_option maxRecDepth 100000 in
theorem rushlightref02_Code.calls (a0:Int) (r:Int) (w:World) (h:rushlightref02_Code.f a0 = some r) :
  Calls Try.prog 53 #[.int .i64 a0] w fun e w'=>e = .returned (.int .i64 r)∧Drawn0 w w':=by
 have H:(if a0 = 1 then (some 55) else (if a0 = 2 then (some 23) else (if a0 = 3 then (some 111) else (if a0 = 4 then (some 103) else (if a0≤10 then (some 99) else (if a0≤15 then (some 3) else (if a0≤18 then (some 35) else (if a0≤27 then (some 19) else (some 51))))))))) = some r:=h
 clear h
 by_cases c2:a0 = 1
 ·rw [if_pos c2] at H
  have c2b0:(a0 == 1) = true:=beq_iff_eq.mpr c2
  have c2b1:(a0 != 1) = false:=bne_eq_false_iff_eq.mpr c2
  clear c2
  obtain rfl:=Option.some.inj H
  go_enter Try.func53,Try.ntmps53
  go_wp2
  go_ret
  exact ⟨zmb9_0,zmb9_2⟩
 ·rw [if_neg c2] at H
  have c2b0:(a0 == 1) = false:=beq_eq_false_iff_ne.mpr c2
  have c2b1:(a0 != 1) = true:=bne_iff_ne.mpr c2
  by_cases c3:a0 = 2
  ·rw [if_pos c3] at H
   have c3b0:(a0 == 2) = true:=beq_iff_eq.mpr c3
   have c3b1:(a0 != 2) = false:=bne_eq_false_iff_eq.mpr c3
   clear c3
   obtain rfl:=Option.some.inj H
   go_enter Try.func53,Try.ntmps53
   go_wp2
   go_ret
   exact ⟨zmb9_0,zmb9_2⟩
  ·rw [if_neg c3] at H
   have c3b0:(a0 == 2) = false:=beq_eq_false_iff_ne.mpr c3
   have c3b1:(a0 != 2) = true:=bne_iff_ne.mpr c3
   by_cases c4:a0 = 3
   ·rw [if_pos c4] at H
    have c4b0:(a0 == 3) = true:=beq_iff_eq.mpr c4
    have c4b1:(a0 != 3) = false:=bne_eq_false_iff_eq.mpr c4
    clear c4
    obtain rfl:=Option.some.inj H
    go_enter Try.func53,Try.ntmps53
    go_wp2
    go_ret
    exact ⟨zmb9_0,zmb9_2⟩
   ·rw [if_neg c4] at H
    have c4b0:(a0 == 3) = false:=beq_eq_false_iff_ne.mpr c4
    have c4b1:(a0 != 3) = true:=bne_iff_ne.mpr c4
    by_cases c5:a0 = 4
    ·rw [if_pos c5] at H
     have c5b0:(a0 == 4) = true:=beq_iff_eq.mpr c5
     have c5b1:(a0 != 4) = false:=bne_eq_false_iff_eq.mpr c5
     clear c5
     obtain rfl:=Option.some.inj H
     go_enter Try.func53,Try.ntmps53
     go_wp2
     go_ret
     exact ⟨zmb9_0,zmb9_2⟩
    ·rw [if_neg c5] at H
     have c5b0:(a0 == 4) = false:=beq_eq_false_iff_ne.mpr c5
     have c5b1:(a0 != 4) = true:=bne_iff_ne.mpr c5
     by_cases c6:a0≤10
     ·rw [if_pos c6] at H
      have c6b0:decide (a0≤10) = true:=decide_eq_true c6
      clear c6
      obtain rfl:=Option.some.inj H
      go_enter Try.func53,Try.ntmps53
      go_wp2
      go_ret
      exact ⟨zmb9_0,zmb9_2⟩
     ·rw [if_neg c6] at H
      have c6b0:decide (a0≤10) = false:=decide_eq_false c6
      clear c6
      by_cases c7:a0≤15
      ·rw [if_pos c7] at H
       have c7b0:decide (a0≤15) = true:=decide_eq_true c7
       clear c7
       obtain rfl:=Option.some.inj H
       go_enter Try.func53,Try.ntmps53
       go_wp2
       go_ret
       exact ⟨zmb9_0,zmb9_2⟩
      ·rw [if_neg c7] at H
       have c7b0:decide (a0≤15) = false:=decide_eq_false c7
       clear c7
       by_cases c8:a0≤18
       ·rw [if_pos c8] at H
        have c8b0:decide (a0≤18) = true:=decide_eq_true c8
        clear c8
        obtain rfl:=Option.some.inj H
        go_enter Try.func53,Try.ntmps53
        go_wp2
        go_ret
        exact ⟨zmb9_0,zmb9_2⟩
       ·rw [if_neg c8] at H
        have c8b0:decide (a0≤18) = false:=decide_eq_false c8
        clear c8
        by_cases c9:a0≤27
        ·rw [if_pos c9] at H
         have c9b0:decide (a0≤27) = true:=decide_eq_true c9
         clear c9
         obtain rfl:=Option.some.inj H
         go_enter Try.func53,Try.ntmps53
         go_wp2
         go_ret
         exact ⟨zmb9_0,zmb9_2⟩
        ·rw [if_neg c9] at H
         have c9b0:decide (a0≤27) = false:=decide_eq_false c9
         clear c9
         obtain rfl:=Option.some.inj H
         go_enter Try.func53,Try.ntmps53
         go_wp2
         go_ret
         exact ⟨zmb9_0,zmb9_2⟩
def rushlightref02_two.l0:Nat→Int→Int→Int→Option (Int)
 | 0,_,_,_=>none
 | k + 1,x0,x3,x4=>if x4 < x0 then (rushlightref02_two.l0 k x0 (wrap64 (2 * x3)) (wrap64 (x4 + 1))) else (some x3)
def rushlightref02_two.f (k:Nat) (a0:Int):Option (Int):=rushlightref02_two.l0 k a0 1 0
set_option maxHeartbeats 8000000 in
set_option maxRecDepth 100000 in
theorem rushlightref02_two.calls (k:Nat) (a0:Int) (r:Int) (w:World) (h:rushlightref02_two.f k a0 = some r) :
  Calls Try.prog 54 #[.int .i64 a0] w fun e w'=>e = .returned (.int .i64 r)∧Drawn0 w w':=by
 have H:(rushlightref02_two.l0 k a0 1 0) = some r:=h
 clear h
 have H':=Aside0.mk H
 clear H
 go_enter Try.func54,Try.ntmps54
 go_wp2
 go_loopg [3,4] k (fun kq v3 v4 w'=>∃ (x3_1:Int) (x4_1:Int),v3 = .int .i64 x3_1∧v4 = .int .i64 x4_1∧Aside0 (rushlightref02_two.l0 kq a0 x3_1 x4_1 = some r)∧Aside0 (kq≤k)∧Drawn0 w w')
 case atStart=>exact ⟨(1),(0),zmb9_0,zmb9_0,H',⟨Nat.le_refl _⟩,zmb9_2⟩
 case round =>
  clear H'
  obtain ⟨x3_1,x4_1,rfl,rfl,HA,HK1,⟨m1,rfl⟩⟩:=hrel
  cases gk with
  | zero=>exact absurd HA.out (by simp [rushlightref02_two.l0])
  | succ k1 =>
   have H:=HA.out
   clear HA
   simp only [rushlightref02_two.l0] at H
   by_cases c2:x4_1 < a0
   ·rw [if_pos c2] at H
    have c2b0:decide (x4_1 < a0) = true:=decide_eq_true c2
    clear c2
    have H':=Aside0.mk H
    clear H
    go_wp2
    go_roundg k1
    case measure=>have:=HK1.out;omega
    case rel=>exact ⟨(wrap64 (2 * x3_1)),(wrap64 (x4_1 + 1)),zmb9_0,zmb9_0,H',⟨by have:=HK1.out;omega⟩,zmb9_2⟩
   ·rw [if_neg c2] at H
    have c2b0:decide (x4_1 < a0) = false:=decide_eq_false c2
    clear c2
    obtain rfl:=Option.some.inj H
    go_wp2
    go_ret
    exact ⟨zmb9_0,zmb9_2⟩
def rushlightref02_Third.f (a0:Int):Option (Int):=(some (([0,0,0,0,0,0,1,4,5,6,7,0,1,2,4,5,0,1,2,0,2,3,4,6,7,1,5,5,0,0,1,2,3,4,5,5,6,7,0,1,2,3,4,5,6,7]:List Int):List Int)).bind fun y300=>(if 0≤a0 then (if a0 < (y300.length:Int) then (some (rd y300 a0)) else (none)) else (none))
set_option maxHeartbeats 8000000 in
set_option maxRecDepth 100000 in
theorem rushlightref02_Third.calls (a0:Int) (r:Int) (w:World) (h:rushlightref02_Third.f a0 = some r) :
  Calls Try.prog 55 #[.int .i64 a0] w fun e w'=>e = .returned (.int .i64 r)∧Below w.heap.size w w':=by
 have HB:=Aside0.mk (Below.refl w.heap.size w)
 have H:((some (([0,0,0,0,0,0,1,4,5,6,7,0,1,2,4,5,0,1,2,0,2,3,4,6,7,1,5,5,0,0,1,2,3,4,5,5,6,7,0,1,2,3,4,5,6,7]:List Int):List Int)).bind fun y300=>(if 0≤a0 then (if a0 < (y300.length:Int) then (some (rd y300 a0)) else (none)) else (none))) = some r:=h
 clear h
 obtain ⟨y300,hy300⟩:∃ y_:List Int,y_ = (([0,0,0,0,0,0,1,4,5,6,7,0,1,2,4,5,0,1,2,0,2,3,4,6,7,1,5,5,0,0,1,2,3,4,5,5,6,7,0,1,2,3,4,5,6,7]:List Int)):=⟨_,rfl⟩
 replace H:(if 0≤a0 then (if a0 < (y300.length:Int) then (some (rd y300 a0)) else (none)) else (none)) = some r:=by first|(rw [hy300];with_reducible exact H)|(have H2_:=(Option.bind_some _ _).symm.trans H;rw [hy300];with_reducible exact H2_)|(have H2_:=(Option.bind_some _ _).symm.trans H;with_reducible exact H2_)|with_reducible exact H|(rw [hy300];exact H)|exact H
 have Ny300:=Aside0.mk hy300
 clear hy300
 by_cases c2:0≤a0
 ·rw [if_pos c2] at H
  have c2b0:decide (0≤a0) = true:=decide_eq_true c2
  clear c2
  by_cases c3:a0 < (y300.length:Int)
  ·rw [if_pos c3] at H
   have c3b0:decide (a0 < (y300.length:Int)) = true:=decide_eq_true c3
   clear c3
   obtain rfl:=Option.some.inj H
   go_enter Try.func55,Try.ntmps55
   go_wp2_with (first|((with_reducible refine gate_dst (N:=4) rfl ?_);refine Kd.R_lit (Kd.int .i64) _ 3 ?hg (N:=4) ?hd (xs:=([0,0,0,0,0,0,1,4,5,6,7,0,1,2,4,5,0,1,2,0,2,3,4,6,7,1,5,5,0,0,1,2,3,4,5,5,6,7,0,1,2,3,4,5,6,7]:List Int)) (inner:=[.int .i64 0,.int .i64 0,.int .i64 0,.int .i64 0,.int .i64 0,.int .i64 0,.int .i64 1,.int .i64 4,.int .i64 5,.int .i64 6,.int .i64 7,.int .i64 0,.int .i64 1,.int .i64 2,.int .i64 4,.int .i64 5,.int .i64 0,.int .i64 1,.int .i64 2,.int .i64 0,.int .i64 2,.int .i64 3,.int .i64 4,.int .i64 6,.int .i64 7,.int .i64 1,.int .i64 5,.int .i64 5,.int .i64 0,.int .i64 0,.int .i64 1,.int .i64 2,.int .i64 3,.int .i64 4,.int .i64 5,.int .i64 5,.int .i64 6,.int .i64 7,.int .i64 0,.int .i64 1,.int .i64 2,.int .i64 3,.int .i64 4,.int .i64 5,.int .i64 6,.int .i64 7]) (ok:=fun _=>True) (okp:=fun _=>True) ?hr ?hp (fun _ hk=>hk) trivial (Below.refl _ _) (Nat.le_refl _) (by simp) ?_;(case hd=>rfl);(case hg=>rfl);(case hr=>first|(go_simp;done)|(go_simp;rfl));(case hp=>exact (Reps.one (show Kd.M (Kd.int .i64) _ _ _ 0 [.int .i64 0] from rfl) (Reps.one (show Kd.M (Kd.int .i64) _ _ _ 0 [.int .i64 0] from rfl) (Reps.one (show Kd.M (Kd.int .i64) _ _ _ 0 [.int .i64 0] from rfl) (Reps.one (show Kd.M (Kd.int .i64) _ _ _ 0 [.int .i64 0] from rfl) (Reps.one (show Kd.M (Kd.int .i64) _ _ _ 0 [.int .i64 0] from rfl) (Reps.one (show Kd.M (Kd.int .i64) _ _ _ 0 [.int .i64 0] from rfl) (Reps.one (show Kd.M (Kd.int .i64) _ _ _ 1 [.int .i64 1] from rfl) (Reps.one (show Kd.M (Kd.int .i64) _ _ _ 4 [.int .i64 4] from rfl) (Reps.one (show Kd.M (Kd.int .i64) _ _ _ 5 [.int .i64 5] from rfl) (Reps.one (show Kd.M (Kd.int .i64) _ _ _ 6 [.int .i64 6] from rfl) (Reps.one (show Kd.M (Kd.int .i64) _ _ _ 7 [.int .i64 7] from rfl) (Reps.one (show Kd.M (Kd.int .i64) _ _ _ 0 [.int .i64 0] from rfl) (Reps.one (show Kd.M (Kd.int .i64) _ _ _ 1 [.int .i64 1] from rfl) (Reps.one (show Kd.M (Kd.int .i64) _ _ _ 2 [.int .i64 2] from rfl) (Reps.one (show Kd.M (Kd.int .i64) _ _ _ 4 [.int .i64 4] from rfl) (Reps.one (show Kd.M (Kd.int .i64) _ _ _ 5 [.int .i64 5] from rfl) (Reps.one (show Kd.M (Kd.int .i64) _ _ _ 0 [.int .i64 0] from rfl) (Reps.one (show Kd.M (Kd.int .i64) _ _ _ 1 [.int .i64 1] from rfl) (Reps.one (show Kd.M (Kd.int .i64) _ _ _ 2 [.int .i64 2] from rfl) (Reps.one (show Kd.M (Kd.int .i64) _ _ _ 0 [.int .i64 0] from rfl) (Reps.one (show Kd.M (Kd.int .i64) _ _ _ 2 [.int .i64 2] from rfl) (Reps.one (show Kd.M (Kd.int .i64) _ _ _ 3 [.int .i64 3] from rfl) (Reps.one (show Kd.M (Kd.int .i64) _ _ _ 4 [.int .i64 4] from rfl) (Reps.one (show Kd.M (Kd.int .i64) _ _ _ 6 [.int .i64 6] from rfl) (Reps.one (show Kd.M (Kd.int .i64) _ _ _ 7 [.int .i64 7] from rfl) (Reps.one (show Kd.M (Kd.int .i64) _ _ _ 1 [.int .i64 1] from rfl) (Reps.one (show Kd.M (Kd.int .i64) _ _ _ 5 [.int .i64 5] from rfl) (Reps.one (show Kd.M (Kd.int .i64) _ _ _ 5 [.int .i64 5] from rfl) (Reps.one (show Kd.M (Kd.int .i64) _ _ _ 0 [.int .i64 0] from rfl) (Reps.one (show Kd.M (Kd.int .i64) _ _ _ 0 [.int .i64 0] from rfl) (Reps.one (show Kd.M (Kd.int .i64) _ _ _ 1 [.int .i64 1] from rfl) (Reps.one (show Kd.M (Kd.int .i64) _ _ _ 2 [.int .i64 2] from rfl) (Reps.one (show Kd.M (Kd.int .i64) _ _ _ 3 [.int .i64 3] from rfl) (Reps.one (show Kd.M (Kd.int .i64) _ _ _ 4 [.int .i64 4] from rfl) (Reps.one (show Kd.M (Kd.int .i64) _ _ _ 5 [.int .i64 5] from rfl) (Reps.one (show Kd.M (Kd.int .i64) _ _ _ 5 [.int .i64 5] from rfl) (Reps.one (show Kd.M (Kd.int .i64) _ _ _ 6 [.int .i64 6] from rfl) (Reps.one (show Kd.M (Kd.int .i64) _ _ _ 7 [.int .i64 7] from rfl) (Reps.one (show Kd.M (Kd.int .i64) _ _ _ 0 [.int .i64 0] from rfl) (Reps.one (show Kd.M (Kd.int .i64) _ _ _ 1 [.int .i64 1] from rfl) (Reps.one (show Kd.M (Kd.int .i64) _ _ _ 2 [.int .i64 2] from rfl) (Reps.one (show Kd.M (Kd.int .i64) _ _ _ 3 [.int .i64 3] from rfl) (Reps.one (show Kd.M (Kd.int .i64) _ _ _ 4 [.int .i64 4] from rfl) (Reps.one (show Kd.M (Kd.int .i64) _ _ _ 5 [.int .i64 5] from rfl) (Reps.one (show Kd.M (Kd.int .i64) _ _ _ 6 [.int .i64 6] from rfl) (Reps.one (show Kd.M (Kd.int .i64) _ _ _ 7 [.int .i64 7] from rfl) (Reps.none _ _))))))))))))))))))))))))))))))))))))))))))))))));intro v301 w4 ho5 hb hg_ hnew_;clear hg_ hnew_;(first|rw [← Ny300.out] at ho5|(simp only [Int.reduceToNat] at ho5;rw [← Ny300.out] at ho5));have n0_:=Aside0.mk (Kd.R_lower ho5 (below_size zmb9_6));have n1_:=Aside0.mk (below_step zmb9_6 hb);clear HB;have HO302:=n0_;have HB:=n1_;clear n0_ n1_;clear hb ho5;obtain ⟨Ao6,co6,eo6⟩:=Kd.R_slice HO302.out;subst eo6;have p303:0≤(a0:Int):=of_decide_eq_true zmb9_4;have q303:a0 < (y300.length:Int):=of_decide_eq_true zmb9_4;obtain ⟨ad303,e303,hx303_0⟩:=Kd.at_int (Kd.R_reads' HO302.out).2.2 a0 p303 q303;cases e303;replace p303:=eq_true p303;replace q303:=eq_true q303))
   go_ret
   exact ⟨zmb9_7,zmb9_6⟩
  ·rw [if_neg c3] at H
   exact absurd H (by simp)
 ·rw [if_neg c2] at H
  exact absurd H (by simp)
end Go.Proofs.Ytecbponmpinnoaa.P
end
