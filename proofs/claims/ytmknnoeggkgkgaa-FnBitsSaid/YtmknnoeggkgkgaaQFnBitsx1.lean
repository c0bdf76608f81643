/- Functions that a law reaches, as functions of Lean, and the walks that show that the calls come to their answers: written by a program of this project out of the translation. No condition. -/
import Derived.Test.YtmknnoeggkgkgaaQFnBitsx0
import Derived.Test.YtmknnoeggkgkgaaVFnBitshort4
import Derived.Test.YtmknnoeggkgkgaaVFnBitsShort
namespace Go.Proofs.Ytmknnoeggkgkgaa.QFnBits
open Go.RowKit Go.Proofs.YtmknnoeggkgkgaaW.PrintWords Go.Proofs.YtmknnoeggkgkgaaW.PrintLast Go.Proofs.YtmknnoeggkgkgaaW.PrintMore Go.Proofs.Ytmknnoeggkgkgaa.Short
attribute [local go_sem] max2_int min2_int max_two min_two max_three min_three max_four min_four   -- for this text's walks alone
set_option linter.unusedVariables false
set_option linter.unusedSimpArgs false

theorem B1x0_ {p : Prop} (h : p := by go_simp; rfl) : p := h
theorem eqA62 (d : Nat) (w : World) (x0 y0 : Int) (x1 y1 : Int) (x2 y2 : Int) (x3 y3 : Int) (x4 y4 : Bool) (x5 y5 : ByteArray) :
  (Op.equalIn (d + 2) 62 (.agg #[.int .i64 x0, .int .i64 x1, .int .i64 x2, .int .i64 x3, .bool x4, .string x5]) (.agg #[.int .i64 y0, .int .i64 y1, .int .i64 y2, .int .i64 y3, .bool y4, .string y5])).run Try.prog w = .ok (x0 == y0 && (x1 == y1 && (x2 == y2 && (x3 == y3 && (x4 == y4 && (x5.toList == y5.toList)))))) w := by
 refine eqA_of Try.underlying62 (by kernel_rfl) ?_
 refine eqf_cons (by rfl) B1x0_ B1x0_ (by go_simp) ?_
 refine eqf_cons (by rfl) B1x0_ B1x0_ (by go_simp) ?_
 refine eqf_cons (by rfl) B1x0_ B1x0_ (by go_simp) ?_
 refine eqf_cons (by rfl) B1x0_ B1x0_ (by go_simp) ?_
 refine eqf_cons (by rfl) B1x0_ B1x0_ (by go_simp) ?_
 exact eqf_last (by rfl) B1x0_ B1x0_ (by go_simp)
end Go.Proofs.Ytmknnoeggkgkgaa.QFnBits
