/- A claim's text, put together by a program of this session (wip/tools/shake.py): the declarations that the claim needs. -/
import Derived.Test.YtecbponmpinnoaaIb0
import Derived.Test.YtecbponmpinnoaaIb1
import Derived.Test.YtecbponmpinnoaaIb2
import Derived.Test.YtecbponmpinnoaaIb3
import Derived.Test.YtecbponmpinnoaaIb4
import Derived.Test.YtecbponmpinnoaaIb5
import Derived.Test.YtecbponmpinnoaaIb6
import Derived.Test.YtecbponmpinnoaaIb7
import Derived.Test.YtecbponmpinnoaaIb8
import Derived.Test.YtecbponmpinnoaaIb9
import Derived.Test.YtecbponmpinnoaaIb10
import Derived.Test.YtecbponmpinnoaaIb11
import Derived.Test.YtecbponmpinnoaaIb12
import Derived.Test.YtecbponmpinnoaaIb13
import Derived.Test.YtecbponmpinnoaaIb14
import Derived.Test.YtecbponmpinnoaaProg
import Derived.Below
import Derived.Deep.Draws
import Derived.Deep.AppendLies
import Derived.Maps.AppendAt
import Derived.OwnWalk
import Derived.Laws.BytesArg
import Derived.Laws.MakeOwn
import Derived.Laws.OwnMore
import Derived.Deep.OwnRows
import Derived.Tactics
import Derived.Lib.ConvBytes
import Derived.Laws.Slices
import Derived.WalkKit
import Derived.KernelRfl
import Derived.RowKit3
import Derived.Deep.LoopGhost
import Derived.Deep.QuietTactic
import Derived.BigQuiet
import Derived.WideLaws
import Derived.Deep.DeepCutAuto
import Derived.Deep.CutBlock
import Derived.Deep.RegionHeld3
import Derived.Laws.Rows
import Derived.Lib.AppendStr
import Derived.ArgAppend
import Derived.Laws.IdiomCopy
import Derived.OrdersHeld
import Derived.Laws.BitsLemmas
import Derived.RowKit
import Derived.Deep.WholeRow
import Derived.Outline
import Derived.WalkMore
import Derived.ScopeJumps
import Derived.Deep.DeepFit
import Derived.Maps.OwnOps
import Derived.Maps.Views
import Derived.Carry
import Derived.WalkArith
import Derived.Laws.StructEq
import Derived.Laws.BitsAllLaws
import Derived.IntWalk
set_option linter.unusedVariables false
set_option linter.unusedSimpArgs false
section
namespace Go.Proofs.Ytecbponmpinnoaa.Pure
open Go Go.RowKit Go.Proofs.Ytecbponmpinnoaa.P Go.Proofs.Ytecbponmpinnoaa.InstM Go.Proofs.YtecbponmpinnoaaW.PrintWords Go.Proofs.YtecbponmpinnoaaW.PrintLast Go.Proofs.YtecbponmpinnoaaW.PrintMore
set_option linter.unusedVariables false
theorem awake60 : rushlightlaw05_awake.f 60 = some true := by kernel_rfl
theorem AsmItems (x : S41) (n a b c d : Int) (w : World) (hn : 0 ≤ n ∧ n < 4294967296) :
    Calls Try.prog 5 #[.agg #[.int .i64 x.f0, .int .i64 x.f1.f0, .int .i64 x.f1.f1, .int .i64 x.f1.f2, .int .i64 x.f1.f3, .int .i64 x.f1.f4, .int .i64 x.f2], .int .u32 n, .agg #[.int .i64 a, .int .i64 b, .int .i64 c, .int .i64 d]] w fun e w' => e = .returned (.bool true) ∧ Below w.heap.size w w' :=
  rushlightlaw05_AsmItems.calls 60 x n a b c d _ _ w hn awake60 (asm_rightI 54 _ _ _ _ _ _ _) (ref_rightI 54 _ _ _ _ _ _ _) (contrary_f 59 a) (ref_contrary_f a) (ref_f [x] (by simp) 60 (by simp))
end Go.Proofs.Ytecbponmpinnoaa.Pure
end
