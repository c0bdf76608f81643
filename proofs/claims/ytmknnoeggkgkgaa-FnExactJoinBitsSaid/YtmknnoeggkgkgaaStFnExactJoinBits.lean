/- What the parameters of the law 'FnExactJoinBits' read as, and its pure statement. No condition beyond the reading itself. -/
import Derived.Test.YtmknnoeggkgkgaaQFnExactJoinBitsx0
import Derived.Test.YtmknnoeggkgkgaaQFnExactJoinBitsx1
import Derived.Test.YtmknnoeggkgkgaaQFnExactJoinBitsx2
import Derived.Test.YtmknnoeggkgkgaaQFnExactJoinBitsx3
import Derived.Test.YtmknnoeggkgkgaaQFnExactJoinBitsx4
import Derived.Test.YtmknnoeggkgkgaaQFnExactJoinBitsx5
import Derived.Test.YtmknnoeggkgkgaaQFnExactJoinBitsx6
import Derived.Test.YtmknnoeggkgkgaaQFnExactJoinBitsx7
import Derived.Test.YtmknnoeggkgkgaaQFnExactJoinBitsx8
import Derived.Test.YtmknnoeggkgkgaaQFnExactJoinBitsx9
import Derived.Test.YtmknnoeggkgkgaaQFnExactJoinBitsx10
import Derived.Test.YtmknnoeggkgkgaaQFnExactJoinBitsx11
import Derived.Test.YtmknnoeggkgkgaaVFnExactJoinBitsOpens
import Derived.KernelRfl
namespace Go.Proofs.Ytmknnoeggkgkgaa.StFnExactJoinBits
open Go.RowKit Go.Proofs.Ytmknnoeggkgkgaa.QFnExactJoinBits Go.Proofs.YtmknnoeggkgkgaaW.PrintWords Go.Proofs.Ytmknnoeggkgkgaa.Opens
set_option maxRecDepth 100000
def wf133 (x : S133) : Prop := (wfPair (wfInt .i64) (wfPair (wfInt .i64) (wfPair (wfList 16 (wfStr)) (wfPair (wfList 8 (wfInt .i64)) (wfPair (wfInt .i64) (wfInt .i64)))))) (x.f0, x.f1, x.f2, x.f3, x.f4, x.f5)
theorem o133 : Opens Try.prog 133 k133 wf133 :=
  opens_iso (fun x : S133 => (x.f0, x.f1, x.f2, x.f3, x.f4, x.f5)) (fun a => ⟨a.1, a.2.1, a.2.2.1, a.2.2.2.1, a.2.2.2.2.1, a.2.2.2.2.2⟩) (fun a => rfl) (opens_struct Try.underlying133 (by kernel_rfl) (opensF_cons rfl (opens_int (k := .i64) Try.underlying3 (by kernel_rfl)) rfl (opensF_cons rfl (opens_int (k := .i64) Try.underlying3 (by kernel_rfl)) rfl (opensF_cons rfl (opens_slice 9 Try.underlying25 (by kernel_rfl) (opens_string Try.underlying9 (by kernel_rfl)) (B := 16) (by kernel_rfl)) rfl (opensF_cons rfl (opens_slice 3 Try.underlying51 (by kernel_rfl) (opens_int (k := .i64) Try.underlying3 (by kernel_rfl)) (B := 8) (by kernel_rfl)) rfl (opensF_cons rfl (opens_int (k := .i64) Try.underlying3 (by kernel_rfl)) rfl (opensF_one rfl (opens_int (k := .i64) Try.underlying3 (by kernel_rfl)))))))))
/-- The pure statement. -/
def Pure : Prop := ∀ (l0 : List S133) (a1_0 : Int) (a1_1 : Int) (a1_2 : Int) (a1_3 : Int) (a1_4 : Bool) (a1_5 : ByteArray) (a2 : Int), (wfList 80 (wf133)) l0 → wfInt .i64 a1_0 → wfInt .i64 a1_1 → wfInt .i64 a1_2 → wfInt .i64 a1_3 → wfBool a1_4 → wfStr a1_5 → wfInt .i64 a2 → ∃ k, laws_FnExactJoinBits.f k l0 a1_0 a1_1 a1_2 a1_3 a1_4 a1_5 a2 = some true
end Go.Proofs.Ytmknnoeggkgkgaa.StFnExactJoinBits
