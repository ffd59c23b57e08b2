/- A claim's text, put together by a program of this session (wip/tools/shake.py): the declarations that the claim needs. -/
import Derived.Test.YtecbponmpinnoaaMd0
import Derived.Test.YtecbponmpinnoaaMd1
import Derived.Test.YtecbponmpinnoaaMd2
import Derived.Test.YtecbponmpinnoaaMd3
import Derived.Test.YtecbponmpinnoaaMd4
import Derived.Test.YtecbponmpinnoaaMd5
import Derived.Test.YtecbponmpinnoaaMd6
import Derived.Test.YtecbponmpinnoaaMd7
import Derived.Test.YtecbponmpinnoaaMd8
import Derived.Test.YtecbponmpinnoaaMd9
import Derived.Test.YtecbponmpinnoaaMd10
import Derived.Test.YtecbponmpinnoaaMd12
import Derived.Test.YtecbponmpinnoaaMd14
import Derived.Test.YtecbponmpinnoaaMd16
import Derived.Test.YtecbponmpinnoaaMd18
import Derived.Test.YtecbponmpinnoaaProg
import Derived.Below
import Derived.Deep.Draws
import Derived.Deep.AppendLies
import Derived.Maps.AppendAt
import Derived.OwnWalk
import Derived.Laws.BytesArg
import Derived.Laws.MakeOwn
import Derived.Laws.OwnMore
import Derived.Deep.OwnRows
import Derived.Tactics
import Derived.Lib.ConvBytes
import Derived.Laws.Slices
import Derived.WalkKit
import Derived.KernelRfl
import Derived.RowKit3
import Derived.Deep.LoopGhost
import Derived.Deep.QuietTactic
import Derived.BigQuiet
import Derived.WideLaws
import Derived.Deep.DeepCutAuto
import Derived.Deep.CutBlock
import Derived.Deep.RegionHeld3
import Derived.Laws.Rows
import Derived.Lib.AppendStr
import Derived.ArgAppend
import Derived.Laws.IdiomCopy
import Derived.OrdersHeld
import Derived.Laws.BitsLemmas
import Derived.RowKit
import Derived.Deep.WholeRow
import Derived.Outline
import Derived.WalkMore
import Derived.ScopeJumps
import Derived.Deep.DeepFit
import Derived.Maps.OwnOps
import Derived.Maps.Views
import Derived.Carry
import Derived.WalkArith
import Derived.Laws.StructEq
set_option linter.unusedVariables false
set_option linter.unusedSimpArgs false
section
namespace Go.Proofs.Ytecbponmpinnoaa.P
open Go.RowKit Go.Proofs.YtecbponmpinnoaaW.PrintWords Go.Proofs.YtecbponmpinnoaaW.PrintLast Go.Proofs.YtecbponmpinnoaaW.PrintMore
attribute [local go_sem] max2_int min2_int max_two min_two max_three min_three max_four min_four   
set_option linter.unusedVariables false
set_option linter.unusedSimpArgs false
mutual
def rushlightlaw05_AsmLeads.l0 : Nat → List (S41) → List Int → List Int → Int → Int → Option (Bool)
  | 0, _, _, _, _, _ => none
  | k + 1, x7, x8, x9, x11, x12 => if x12 < (x7.length : Int) then (if 0 ≤ x12 then (if ((rd_T41 x7 x12).f0) = 2 then (if ((rd_T41 x7 x12).f2) ≥ (x9.length : Int) then (some false) else (if 0 ≤ ((rd_T41 x7 x12).f2) then (if ((rd_T41 x7 x12).f2) < (x9.length : Int) then (if (rd x9 ((rd_T41 x7 x12).f2)) = (wrap64 (4 * x11)) then (rushlightlaw05_AsmLeads.l0 k x7 x8 x9 x11 (wrap64 (x12 + 1))) else (some false)) else (none)) else (none))) else (if x11 ≥ (x8.length : Int) then (some false) else (if 0 ≤ x11 then (if x11 < (x8.length : Int) then ((inst_Decode.f k (rd x8 x11)).bind fun bt509 => (if bt509.2.2.2.2.2 = 0 then (if ((rd_T41 x7 x12).f0) = 3 then ((asm_Contrary.f k ((rd_T41 x7 x12).f1.f0)).bind fun t516 => (if bt509.1 = t516 then (if bt509.2.2.2.2.1 = 8 then (if (wrap64 (x11 + 1)) < (x8.length : Int) then (if 0 ≤ (wrap64 (x11 + 1)) then ((rushlightlaw05_far.f k (rd x8 (wrap64 (x11 + 1)))).bind fun t518 => (rushlightlaw05_AsmLeads.j1 k x7 x8 x9 x11 x12 bt509.2.2.2.2.2 (wrap64 (4 * x11)) t518 ((rd_T41 x7 x12).f0) ((rd_T41 x7 x12).f1.f0) ((rd_T41 x7 x12).f1.f1) ((rd_T41 x7 x12).f1.f2) ((rd_T41 x7 x12).f1.f3) ((rd_T41 x7 x12).f1.f4) ((rd_T41 x7 x12).f2) bt509.1 bt509.2.1 bt509.2.2.1 bt509.2.2.2.1 bt509.2.2.2.2.1)) else (none)) else (rushlightlaw05_AsmLeads.j1 k x7 x8 x9 x11 x12 bt509.2.2.2.2.2 (wrap64 (4 * x11)) false ((rd_T41 x7 x12).f0) ((rd_T41 x7 x12).f1.f0) ((rd_T41 x7 x12).f1.f1) ((rd_T41 x7 x12).f1.f2) ((rd_T41 x7 x12).f1.f3) ((rd_T41 x7 x12).f1.f4) ((rd_T41 x7 x12).f2) bt509.1 bt509.2.1 bt509.2.2.1 bt509.2.2.2.1 bt509.2.2.2.2.1)) else (rushlightlaw05_AsmLeads.j1 k x7 x8 x9 x11 x12 bt509.2.2.2.2.2 (wrap64 (4 * x11)) false ((rd_T41 x7 x12).f0) ((rd_T41 x7 x12).f1.f0) ((rd_T41 x7 x12).f1.f1) ((rd_T41 x7 x12).f1.f2) ((rd_T41 x7 x12).f1.f3) ((rd_T41 x7 x12).f1.f4) ((rd_T41 x7 x12).f2) bt509.1 bt509.2.1 bt509.2.2.1 bt509.2.2.2.1 bt509.2.2.2.2.1)) else (rushlightlaw05_AsmLeads.j1 k x7 x8 x9 x11 x12 bt509.2.2.2.2.2 (wrap64 (4 * x11)) false ((rd_T41 x7 x12).f0) ((rd_T41 x7 x12).f1.f0) ((rd_T41 x7 x12).f1.f1) ((rd_T41 x7 x12).f1.f2) ((rd_T41 x7 x12).f1.f3) ((rd_T41 x7 x12).f1.f4) ((rd_T41 x7 x12).f2) bt509.1 bt509.2.1 bt509.2.2.1 bt509.2.2.2.1 bt509.2.2.2.2.1))) else (rushlightlaw05_AsmLeads.j1 k x7 x8 x9 x11 x12 bt509.2.2.2.2.2 (wrap64 (4 * x11)) false ((rd_T41 x7 x12).f0) ((rd_T41 x7 x12).f1.f0) ((rd_T41 x7 x12).f1.f1) ((rd_T41 x7 x12).f1.f2) ((rd_T41 x7 x12).f1.f3) ((rd_T41 x7 x12).f1.f4) ((rd_T41 x7 x12).f2) bt509.1 bt509.2.1 bt509.2.2.1 bt509.2.2.2.1 bt509.2.2.2.2.1)) else (some false))) else (none)) else (none)))) else (none)) else ((rushlightlaw05_awake.f k).bind fun t504 => (if t504 = true then (some (x11 == (x8.length : Int))) else (some false)))
def rushlightlaw05_AsmLeads.j1 : Nat → List (S41) → List Int → List Int → Int → Int → Int → Int → Bool → Int → Int → Int → Int → Int → Int → Int → Int → Int → Int → Int → Int → Option (Bool)
  | 0, _, _, _, _, _, _, _, _, _, _, _, _, _, _, _, _, _, _, _, _ => none
  | k + 1, x7, x8, x9, x11, x12, x15, x16, x109, x507000, x507001, x507002, x507003, x507004, x507005, x507006, x516000, x516001, x516002, x516003, x516004 => if x109 = true then (if 0 ≤ (wrap64 (x11 + 1)) then (if (wrap64 (x11 + 1)) < (x8.length : Int) then ((inst_Decode.f k (rd x8 (wrap64 (x11 + 1)))).bind fun bt520 => (rushlightlaw05_AsmLeads.j2 k x7 x8 x9 (wrap64 (x11 + 1)) x12 bt520.2.2.2.2.2 (wrap64 (x16 + 4)) x507000 x507001 x507002 x507003 x507004 x507005 x507006 bt520.1 bt520.2.1 bt520.2.2.1 bt520.2.2.2.1 bt520.2.2.2.2.1)) else (none)) else (none)) else (rushlightlaw05_AsmLeads.j2 k x7 x8 x9 x11 x12 x15 x16 x507000 x507001 x507002 x507003 x507004 x507005 x507006 x516000 x516001 x516002 x516003 x516004)
def rushlightlaw05_AsmLeads.j2 : Nat → List (S41) → List Int → List Int → Int → Int → Int → Int → Int → Int → Int → Int → Int → Int → Int → Int → Int → Int → Int → Int → Option (Bool)
  | 0, _, _, _, _, _, _, _, _, _, _, _, _, _, _, _, _, _, _, _ => none
  | k + 1, x7, x8, x9, x11, x12, x15, x16, x507000, x507001, x507002, x507003, x507004, x507005, x507006, x516000, x516001, x516002, x516003, x516004 => if x507000 = 3 then (if x15 = 0 then (if x507006 ≥ (x9.length : Int) then (rushlightlaw05_AsmLeads.j3 k x7 x8 x9 x11 x12 true x507000 x507001 x507002 x507003 x507004 x507005 x507006) else (if 0 ≤ x507006 then (if x507006 < (x9.length : Int) then (rushlightlaw05_AsmLeads.j3 k x7 x8 x9 x11 x12 ((wrap64 (x16 + x516004)) != (rd x9 x507006)) x507000 x507001 x507002 x507003 x507004 x507005 x507006) else (none)) else (none))) else (rushlightlaw05_AsmLeads.j3 k x7 x8 x9 x11 x12 true x507000 x507001 x507002 x507003 x507004 x507005 x507006)) else (if x507000 = 4 then (if x15 = 0 then (if x507006 ≥ (x9.length : Int) then (rushlightlaw05_AsmLeads.j3 k x7 x8 x9 x11 x12 true x507000 x507001 x507002 x507003 x507004 x507005 x507006) else (if 0 ≤ x507006 then (if x507006 < (x9.length : Int) then (rushlightlaw05_AsmLeads.j3 k x7 x8 x9 x11 x12 ((wrap64 (x16 + x516004)) != (rd x9 x507006)) x507000 x507001 x507002 x507003 x507004 x507005 x507006) else (none)) else (none))) else (rushlightlaw05_AsmLeads.j3 k x7 x8 x9 x11 x12 true x507000 x507001 x507002 x507003 x507004 x507005 x507006)) else (rushlightlaw05_AsmLeads.j3 k x7 x8 x9 x11 x12 false x507000 x507001 x507002 x507003 x507004 x507005 x507006))
def rushlightlaw05_AsmLeads.j3 : Nat → List (S41) → List Int → List Int → Int → Int → Bool → Int → Int → Int → Int → Int → Int → Int → Option (Bool)
  | 0, _, _, _, _, _, _, _, _, _, _, _, _, _ => none
  | k + 1, x7, x8, x9, x11, x12, x152, x507000, x507001, x507002, x507003, x507004, x507005, x507006 => if x152 = true then (some false) else (if x507000 = 5 then ((rushlightref05_Number.f k x507002 x507005).bind fun t528 => (if (t528.length : Int) = 2 then (rushlightlaw05_AsmLeads.l0 k x7 x8 x9 (wrap64 ((wrap64 (x11 + 1)) + 1)) (wrap64 (x12 + 1))) else (rushlightlaw05_AsmLeads.l0 k x7 x8 x9 (wrap64 (x11 + 1)) (wrap64 (x12 + 1))))) else (rushlightlaw05_AsmLeads.l0 k x7 x8 x9 (wrap64 (x11 + 1)) (wrap64 (x12 + 1))))
end
def rushlightlaw05_AsmLeads.f (k : Nat) (l0 : List (S41)) (a1 : Int) (a2 : Int) : Option (Bool) := if (l0.length : Int) > 60 then ((rushlightlaw05_awake.f k).bind fun t492 => (some t492)) else ((rushlightlaw05_Padded.f k l0 a1 a2).bind fun t493 => ((asm_Assemble.f k t493).bind fun bt496 => (if bt496.2.2 = 0 then (rushlightlaw05_AsmLeads.l0 k t493 bt496.1 bt496.2.1 0 0) else ((rushlightlaw05_awake.f k).bind fun t503 => (some t503)))))
def rushlightlaw05_AsmLeads.T21 : Bool × List (List Nat × List Nat) := (true, [([], []), ([0], [0]), ([1], [1]), ([2], [2]), ([3], [3]), ([4, 3], [3, 4]), ([3], [3]), ([6, 3], [3, 6]), ([7, 3], [3, 7]), ([8, 3, 3], [3, 8]), ([5, 9, 3], [3, 5, 9]), ([3, 10], [3, 10]), ([11, 9], [11]), ([12], [12]), ([13, 12], [12, 13]), ([14, 12], [12, 14]), ([12, 15], [12, 15]), ([16, 12], [16]), ([17], [17]), ([18, 17], [17, 18]), ([17], [17]), ([20, 17], [17, 20]), ([19, 21, 17], [17, 19, 21]), ([17, 22], [17, 22]), ([23, 17], [23]), ([24], [24]), ([24], [24]), ([26, 24], [24, 26]), ([25, 27, 24], [24, 25, 27]), ([28, 24], [24, 28]), ([29, 24, 24], [24, 29]), ([24, 30], [24, 30])])
def rushlightlaw05_AsmLeads.B21 : List Nat := [0, 1, 3, 7, 15, 31, 15, 79, 207, 463, 1023, 2047, 4095, 8191, 16383, 32767, 65535, 131071, 262143, 524287, 262143, 1310719, 4194303, 8388607, 16777215, 33554431, 33554431, 100663295, 268435455, 536870911, 1073741823, 2147483647]
theorem rushlightlaw05_AsmLeads.tab21 : rtab .any (opsOf Try.f6 21) = rushlightlaw05_AsmLeads.T21 := by kernel_rfl
theorem rushlightlaw05_AsmLeads.bits21 : waitsOk rushlightlaw05_AsmLeads.T21.2 rushlightlaw05_AsmLeads.B21 = true := by kernel_rfl
def rushlightlaw05_AsmLeads.T25 : Bool × List (List Nat × List Nat) := (true, [([], []), ([0], [0]), ([1], [1]), ([2], [2]), ([3], [3]), ([4, 3], [3, 4]), ([5, 3], [3, 5]), ([3, 6], [3, 6]), ([7, 3], [7]), ([8], [8]), ([9, 8], [8, 9]), ([10, 8, 8], [8, 10]), ([11], [11]), ([12, 11], [11, 12]), ([11], [11]), ([14, 11], [11, 14]), ([13, 15, 11], [11, 13, 15]), ([11, 16, 8], [8, 11, 16]), ([17, 11, 8], [8, 17]), ([18], [18]), ([18], [18]), ([20, 18], [18, 20]), ([19, 21, 18], [18, 19, 21]), ([18], [18]), ([18], [18]), ([24, 18], [18, 24]), ([23, 25, 18], [18, 23, 25]), ([26, 18], [18, 26]), ([22, 27, 18], [18, 22, 27]), ([18, 28, 8], [8, 18, 28]), ([8, 29], [8, 29])])
def rushlightlaw05_AsmLeads.B25 : List Nat := [0, 1, 3, 7, 15, 31, 63, 127, 255, 511, 1023, 2047, 4095, 8191, 4095, 20479, 65535, 131071, 262143, 524287, 524287, 1572863, 4194303, 524287, 524287, 17301503, 59244543, 126353407, 268435455, 536870911, 1073741823]
theorem rushlightlaw05_AsmLeads.tab25 : rtab .any (opsOf Try.f6 25) = rushlightlaw05_AsmLeads.T25 := by kernel_rfl
theorem rushlightlaw05_AsmLeads.bits25 : waitsOk rushlightlaw05_AsmLeads.T25.2 rushlightlaw05_AsmLeads.B25 = true := by kernel_rfl
end Go.Proofs.Ytecbponmpinnoaa.P
end
