/- What the parameters of the law 'FnExactUnwrap' read as, and its pure statement. No condition beyond the reading itself. -/
import Derived.Test.YtjaamflffmhicaaQFnExactUnwrapx0
import Derived.Test.YtjaamflffmhicaaQFnExactUnwrapx1
import Derived.Test.YtjaamflffmhicaaQFnExactUnwrapx2
import Derived.Test.YtjaamflffmhicaaQFnExactUnwrapx3
import Derived.Test.YtjaamflffmhicaaQFnExactUnwrapx4
import Derived.Test.YtjaamflffmhicaaQFnExactUnwrapx5
import Derived.Test.YtjaamflffmhicaaQFnExactUnwrapx6
import Derived.Test.YtjaamflffmhicaaQFnExactUnwrapx7
import Derived.Test.YtjaamflffmhicaaQFnExactUnwrapx8
import Derived.Test.YtjaamflffmhicaaQFnExactUnwrapx9
import Derived.Test.YtjaamflffmhicaaQFnExactUnwrapx10
import Derived.Test.YtjaamflffmhicaaVFnExactUnwrappens
import Derived.KernelRfl
namespace Go.Proofs.Ytjaamflffmhicaa.StFnExactUnwrap
open Go.RowKit Go.Proofs.Ytjaamflffmhicaa.QFnExactUnwrap Go.Proofs.YtjaamflffmhicaaW.PrintWords Go.Proofs.Ytjaamflffmhicaa.Opens
set_option maxRecDepth 100000
def wf38 (x : S38) : Prop := (wfPair (wfInt .i64) (wfPair (wfInt .i64) (wfPair (wfList 16 (wfStr)) (wfPair (wfList 8 (wfInt .i64)) (wfPair (wfInt .i64) (wfInt .i64)))))) (x.f0, x.f1, x.f2, x.f3, x.f4, x.f5)
theorem o38 : Opens Try.prog 38 k38 wf38 :=
  opens_iso (fun x : S38 => (x.f0, x.f1, x.f2, x.f3, x.f4, x.f5)) (fun a => ⟨a.1, a.2.1, a.2.2.1, a.2.2.2.1, a.2.2.2.2.1, a.2.2.2.2.2⟩) (fun a => rfl) (opens_struct Try.underlying38 (by kernel_rfl) (opensF_cons rfl (opens_int (k := .i64) Try.underlying3 (by kernel_rfl)) rfl (opensF_cons rfl (opens_int (k := .i64) Try.underlying3 (by kernel_rfl)) rfl (opensF_cons rfl (opens_slice 9 Try.underlying35 (by kernel_rfl) (opens_string Try.underlying9 (by kernel_rfl)) (B := 16) (by kernel_rfl)) rfl (opensF_cons rfl (opens_slice 3 Try.underlying36 (by kernel_rfl) (opens_int (k := .i64) Try.underlying3 (by kernel_rfl)) (B := 8) (by kernel_rfl)) rfl (opensF_cons rfl (opens_int (k := .i64) Try.underlying3 (by kernel_rfl)) rfl (opensF_one rfl (opens_int (k := .i64) Try.underlying3 (by kernel_rfl)))))))))
/-- The pure statement. -/
def Pure : Prop := ∀ (l0 : List S38) (a1 : ByteArray) (a2 : Int) (a3 : Int), (wfList 80 (wf38)) l0 → wfStr a1 → wfInt .i64 a2 → wfInt .i64 a3 → ∃ k, laws_FnExactUnwrap.f k l0 a1 a2 a3 = some true
end Go.Proofs.Ytjaamflffmhicaa.StFnExactUnwrap
