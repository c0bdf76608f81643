/- Functions that a law reaches, as functions of Lean, and the walks that show that the calls come to their answers: written by a program of this project out of the translation. No condition. -/
import Derived.Test.YtgffdijodnpolaaQFnSameKeepsx0
import Derived.Test.YtgffdijodnpolaaVFnSameKeepsShort4
import Derived.Test.YtgffdijodnpolaaVFnSameKeepshort3
import Derived.Test.YtgffdijodnpolaaVFnSameKeepsShort
import Derived.Test.YtgffdijodnpolaaVFnSameKeepshort5
namespace Go.Proofs.Ytgffdijodnpolaa.QFnSameKeeps
open Go.RowKit Go.Proofs.YtgffdijodnpolaaW.PrintWords Go.Proofs.YtgffdijodnpolaaW.PrintLast Go.Proofs.YtgffdijodnpolaaW.PrintMore Go.Proofs.Ytgffdijodnpolaa.Short
attribute [local go_sem] max2_int min2_int max_two min_two max_three min_three max_four min_four   -- for this text's walks alone
set_option linter.unusedVariables false
set_option linter.unusedSimpArgs false

/-! ### spec_KeepNew: function 101 -/
def spec_KeepNew.f  : Option ((List (S83)) × (List (S81))) := some (([] : List (S83)), (([(⟨(⟨#[114, 111, 111, 116]⟩ : ByteArray), (⟨#[]⟩ : ByteArray), 1⟩ : S81)] : List (S81))))
set_option maxHeartbeats 8000000 in
set_option maxRecDepth 100000 in
theorem spec_KeepNew.calls  (r1 : List (S83)) (r2 : List (S81)) (w : World) (h : spec_KeepNew.f  = some (r1, r2)) :
  Calls Try.prog 101 #[] w fun e w' => ∃ v0_ v1_ : Value, e = .returned (.agg #[v0_, v1_]) ∧ Kd.R k83 83 w' w.heap.size (fun _ => True) v0_ r1 ∧ Kd.R k81 81 w' w.heap.size (fun _ => True) v1_ r2 ∧ Below w.heap.size w w' := by
 have hu47 := Try.underlying47
 have hu81 := Try.underlying81
 have HB := am (Below.refl w.heap.size w)
 have H : (some (([] : List (S83)), (([(⟨(⟨#[114, 111, 111, 116]⟩ : ByteArray), (⟨#[]⟩ : ByteArray), 1⟩ : S81)] : List (S81))))) = some (r1, r2) := h
 clear h
 obtain ⟨y371, hy371⟩ : ∃ y_ : List (S81), y_ = (([(⟨(⟨#[114, 111, 111, 116]⟩ : ByteArray), (⟨#[]⟩ : ByteArray), 1⟩ : S81)] : List (S81))) := ⟨_, rfl⟩
 replace H : (some (([] : List (S83)), y371)) = some (r1, r2) := by first | (rw [hy371]; with_reducible exact H) | (have H2_ := (Option.bind_some _ _).symm.trans H; rw [hy371]; with_reducible exact H2_) | (have H2_ := (Option.bind_some _ _).symm.trans H; with_reducible exact H2_) | with_reducible exact H | (rw [hy371]; exact H) | exact H
 have Ny371 := am hy371
 clear hy371
 simp only [Option.some.injEq, Prod.mk.injEq] at H
 obtain ⟨rfl, rfl⟩ := H
 go_enter Try.func101, Try.ntmps101
 go_wp2_with (first | ((with_reducible refine gate_dst (N := 0) rfl ?_); refine bx (N := 0) (cs := #[.slice none 0 0, .slice none 0 0]) (t := 47) ?_; intro gb370 hg w1 hbox hb; have BK370 := am (hbox); have GW370 := am ((bs hg (below_size HB.out))); have GE370 := am ((bs hg (below_size HB.out))); replace HB := am (below_step (te0 HB.out) hb); clear hb hbox hg) | ((with_reducible refine gate_dst (N := 2) rfl ?_); refine Kd.R_lit k81 _ 81 ?hg (N := 2) ?hd (xs := ([(⟨(⟨#[114, 111, 111, 116]⟩ : ByteArray), (⟨#[]⟩ : ByteArray), 1⟩ : S81)] : List (S81))) (inner := [.string (⟨#[114, 111, 111, 116]⟩ : ByteArray), .string (⟨#[]⟩ : ByteArray), .int .i64 1]) (ok := fun _ => True) (okp := fun _ => True) ?hr ?hp (fun _ hk => hk) trivial (Below.refl _ _) (Nat.le_refl _) (by simp) ?_; (case hd => rfl); (case hg => rfl); (case hr => first | (go_simp; done) | (go_simp; rfl)); (case hp => exact (Reps.c3 (show Kd.M k81 _ _ _ (⟨(⟨#[114, 111, 111, 116]⟩ : ByteArray), (⟨#[]⟩ : ByteArray), 1⟩ : S81) [.string (⟨#[114, 111, 111, 116]⟩ : ByteArray), .string (⟨#[]⟩ : ByteArray), .int .i64 1] from (k81_mkM _ _ _ (⟨(⟨#[114, 111, 111, 116]⟩ : ByteArray), (⟨#[]⟩ : ByteArray), 1⟩ : S81) )) (Reps.none _ _))); intro v372 w2 ho3 hb hg_ hnew_; clear hg_ hnew_; (first | rw [← Ny371.out] at ho3 | (simp only [Int.reduceToNat] at ho3; rw [← Ny371.out] at ho3)); have HO373 := am (Kd.R_lower ho3 (below_size (te1 HB.out GE370.out))); replace BK370 := am (bb BK370.out hb); replace HB := am (below_step (te1 HB.out GE370.out) hb); clear hb ho3; obtain ⟨Ao4, co4, eo4⟩ := Kd.R_slice HO373.out; subst eo4; obtain ⟨hcz5_0, hcz5_1⟩ := cl2 BK370.out; obtain ⟨hfz5_0, hfz5_1⟩ := fr2 BK370.out))
 refine bodyPost_ret (results_cell_row rfl _ _ gb370 47 #[.slice none 0 0, .slice Ao4 y371.length co4] (0, 0) _ rfl (tp0 BK370.out) Try.underlying47 rfl gk_) rfl ?_
 exact ⟨_, _, (by first | rfl | (simp [errW_none, errW_some] <;> rfl) | (simp [*, errW_none, errW_some] <;> rfl)), gn_, (by (with_reducible repeat (first | apply Kd.R_alloc | apply Kd.R_drewN | apply Kd.R_drew)); exact Kd.R_mono (Kd.R_far (p := ⟨gb370, 1, none⟩) (Kd.R_far (p := ⟨gb370, 0, none⟩) (Kd.R_types HO373.out BK370.out (by decide)) (fun _ hk => hk.2) (.slice none 0 0)) (fun _ hk => hk.2) (.slice Ao4 y371.length co4)) (fun _ hk => trivial)), (te1 HB.out GE370.out)⟩

end Go.Proofs.Ytgffdijodnpolaa.QFnSameKeeps
