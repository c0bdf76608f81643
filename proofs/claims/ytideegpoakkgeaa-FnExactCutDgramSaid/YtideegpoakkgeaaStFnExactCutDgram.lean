/- What the parameters of the law 'FnExactCutDgram' read as, and its pure statement. No condition beyond the reading itself. -/
import Derived.Test.YtideegpoakkgeaaQFnExactCutDgramx0
import Derived.Test.YtideegpoakkgeaaQFnExactCutDgramx1
import Derived.Test.YtideegpoakkgeaaQFnExactCutDgramx2
import Derived.Test.YtideegpoakkgeaaQFnExactCutDgramx3
import Derived.Test.YtideegpoakkgeaaQFnExactCutDgramx4
import Derived.Test.YtideegpoakkgeaaQFnExactCutDgramx5
import Derived.Test.YtideegpoakkgeaaQFnExactCutDgramx6
import Derived.Test.YtideegpoakkgeaaOpens
import Derived.KernelRfl
namespace Go.Proofs.Ytideegpoakkgeaa.StFnExactCutDgram
open Go.RowKit Go.Proofs.Ytideegpoakkgeaa.QFnExactCutDgram Go.Proofs.YtideegpoakkgeaaW.PrintWords Go.Proofs.Ytideegpoakkgeaa.Opens
set_option maxRecDepth 100000

/-- The pure statement. -/
def Pure : Prop := ∀ (a0_0 : Int) (a0_1 : Int) (a0_2 : Int) (a0_3 : Int) (a0_4 : Bool) (a0_5 : ByteArray) (a1 : Int), wfInt .i64 a0_0 → wfInt .i64 a0_1 → wfInt .i64 a0_2 → wfInt .i64 a0_3 → wfBool a0_4 → wfStr a0_5 → wfInt .i64 a1 → ∃ k, laws_FnExactCutDgram.f k a0_0 a0_1 a0_2 a0_3 a0_4 a0_5 a1 = some true
end Go.Proofs.Ytideegpoakkgeaa.StFnExactCutDgram
