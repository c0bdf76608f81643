/- What the parameters of the law 'FnExactLearn' read as, and its pure statement. No condition beyond the reading itself. -/
import Derived.Test.YtideegpoakkgeaaQFnExactLearnx0
import Derived.Test.YtideegpoakkgeaaQFnExactLearnx1
import Derived.Test.YtideegpoakkgeaaQFnExactLearnx2
import Derived.Test.YtideegpoakkgeaaQFnExactLearnx3
import Derived.Test.YtideegpoakkgeaaOpens
import Derived.KernelRfl
namespace Go.Proofs.Ytideegpoakkgeaa.StFnExactLearn
open Go.RowKit Go.Proofs.Ytideegpoakkgeaa.QFnExactLearn Go.Proofs.YtideegpoakkgeaaW.PrintWords Go.Proofs.Ytideegpoakkgeaa.Opens
set_option maxRecDepth 100000
def wf90 (x : S90) : Prop := (wfPair (wfInt .i64) (wfInt .i64)) (x.f0, x.f1)
theorem o90 : Opens Try.prog 90 k90 wf90 :=
  opens_iso (fun x : S90 => (x.f0, x.f1)) (fun a => ⟨a.1, a.2⟩) (fun a => rfl) (opens_struct Try.underlying90 (by kernel_rfl) (opensF_cons rfl (opens_int (k := .i64) Try.underlying3 (by kernel_rfl)) rfl (opensF_one rfl (opens_int (k := .i64) Try.underlying3 (by kernel_rfl)))))
/-- The pure statement. -/
def Pure : Prop := ∀ (l0 : List S90) (a1 : Int) (a2 : Int), (wfList 16 (wf90)) l0 → wfInt .i64 a1 → wfInt .i64 a2 → ∃ k, laws_FnExactLearn.f k l0 a1 a2 = some true
end Go.Proofs.Ytideegpoakkgeaa.StFnExactLearn
