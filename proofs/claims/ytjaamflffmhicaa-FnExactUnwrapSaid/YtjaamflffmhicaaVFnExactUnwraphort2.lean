/- More short forms of the words of the walks. No condition. -/
import Derived.Test.YtjaamflffmhicaaVFnExactUnwrapMore
import Derived.WalkKit
import Derived.RowKit
namespace Go.Proofs.Ytjaamflffmhicaa.Short
open Go.RowKit Go.Proofs.YtjaamflffmhicaaW.PrintWords Go.Proofs.YtjaamflffmhicaaW.PrintLast Go.Proofs.YtjaamflffmhicaaW.PrintMore
theorem nil_b (l : List UInt8) : (l != ([] : List UInt8)) = !l.isEmpty := by cases l <;> rfl
theorem nil_e (l : List UInt8) : (l == ([] : List UInt8)) = l.isEmpty := by cases l <;> rfl
theorem be_ {p : Prop} (h : p := by first | rfl | (simp; done) | (simp [*]; done) | (simp [Go.Proofs.Ytjaamflffmhicaa.Short.nil_b, Go.Proofs.Ytjaamflffmhicaa.Short.nil_e]; done) | (simp [Go.Proofs.Ytjaamflffmhicaa.Short.nil_b, Go.Proofs.Ytjaamflffmhicaa.Short.nil_e, *]; done)) : p := h
end Go.Proofs.Ytjaamflffmhicaa.Short
