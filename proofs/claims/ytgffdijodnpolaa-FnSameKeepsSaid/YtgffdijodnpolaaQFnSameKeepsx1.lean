/- Functions that a law reaches, as functions of Lean, and the walks that show that the calls come to their answers: written by a program of this project out of the translation. No condition. -/
import Derived.Test.YtgffdijodnpolaaQFnSameKeepsx0
import Derived.Test.YtgffdijodnpolaaVFnSameKeepsShort4
import Derived.Test.YtgffdijodnpolaaVFnSameKeepsShort
namespace Go.Proofs.Ytgffdijodnpolaa.QFnSameKeeps
open Go.RowKit Go.Proofs.YtgffdijodnpolaaW.PrintWords Go.Proofs.YtgffdijodnpolaaW.PrintLast Go.Proofs.YtgffdijodnpolaaW.PrintMore Go.Proofs.Ytgffdijodnpolaa.Short
attribute [local go_sem] max2_int min2_int max_two min_two max_three min_three max_four min_four   -- for this text's walks alone
set_option linter.unusedVariables false
set_option linter.unusedSimpArgs false

theorem B1x0_ {p : Prop} (h : p := by go_simp; rfl) : p := h
theorem eqA81 (d : Nat) (w : World) (x0 y0 : ByteArray) (x1 y1 : ByteArray) (x2 y2 : Int) :
  (Op.equalIn (d + 2) 81 (.agg #[.string x0, .string x1, .int .i64 x2]) (.agg #[.string y0, .string y1, .int .i64 y2])).run Try.prog w = .ok (x0.toList == y0.toList && (x1.toList == y1.toList && (x2 == y2))) w := by
 refine eqA_of Try.underlying81 (by kernel_rfl) ?_
 refine eqf_cons (by rfl) B1x0_ B1x0_ (by go_simp) ?_
 refine eqf_cons (by rfl) B1x0_ B1x0_ (by go_simp) ?_
 exact eqf_last (by rfl) B1x0_ B1x0_ (by go_simp)
end Go.Proofs.Ytgffdijodnpolaa.QFnSameKeeps
