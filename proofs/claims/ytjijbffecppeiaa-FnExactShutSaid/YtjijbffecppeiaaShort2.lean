/- More short forms of the words of the walks. No condition. -/
import Derived.Test.YtjijbffecppeiaaWMore
import Derived.WalkKit
import Derived.RowKit
namespace Go.Proofs.Ytjijbffecppeiaa.Short
open Go.RowKit Go.Proofs.YtjijbffecppeiaaW.PrintWords Go.Proofs.YtjijbffecppeiaaW.PrintLast Go.Proofs.YtjijbffecppeiaaW.PrintMore
/-- A bool that a walk has come to is the bool that stands there. -/
theorem nil_b (l : List UInt8) : (l != ([] : List UInt8)) = !l.isEmpty := by cases l <;> rfl
theorem nil_e (l : List UInt8) : (l == ([] : List UInt8)) = l.isEmpty := by cases l <;> rfl
macro "be_" : tactic => `(tactic| first | rfl | (simp; done) | (simp [*]; done) | (simp [nil_b, nil_e]; done) | (simp [nil_b, nil_e, *]; done))
end Go.Proofs.Ytjijbffecppeiaa.Short
