/- Functions that a law reaches, as functions of Lean, and the walks that show that the calls come to their answers: written by a program of this project out of the translation. No condition. -/
import Derived.Test.YtgffdijodnpolaaQFnSameKeepsx0
import Derived.Test.YtgffdijodnpolaaVFnSameKeepsShort4
import Derived.Test.YtgffdijodnpolaaVFnSameKeepshort3
import Derived.Test.YtgffdijodnpolaaVFnSameKeepsShort2
import Derived.Test.YtgffdijodnpolaaVFnSameKeepsShort
import Derived.Test.YtgffdijodnpolaaVFnSameKeepshort5
namespace Go.Proofs.Ytgffdijodnpolaa.QFnSameKeeps
open Go.RowKit Go.Proofs.YtgffdijodnpolaaW.PrintWords Go.Proofs.YtgffdijodnpolaaW.PrintLast Go.Proofs.YtgffdijodnpolaaW.PrintMore Go.Proofs.Ytgffdijodnpolaa.Short
attribute [local go_sem] gtrS max2_int min2_int max_two min_two max_three min_three max_four min_four   -- for this text's walks alone
set_option linter.unusedVariables false
set_option linter.unusedSimpArgs false

/-- A state of type 47 at block g of W; what its slices lead to came in by w0. -/
theorem B10x3_ {p : Prop} (h : p := by repeat (first | (with_reducible first | exact HI0.out | apply IsS47.alloc | apply IsS47.drewN | apply IsS47.drew | apply IsS47.set_1 | refine IsS47.far ?_ NB0_278.out _) | exact HI0.out)) : p := h
theorem B10x4_ {p : Prop} (h : p := by repeat (first | (with_reducible first | exact HI0.out | apply IsS47.alloc | apply IsS47.drewN | apply IsS47.drew | apply IsS47.set_1 | apply IsS47.far (p := ⟨gb278, _, none⟩) (hne := NB0_278.out)) | exact HI0.out)) : p := h
theorem B10x6_ {p : Prop} (h : p := by exact (fun k_ hk => Kd.freshB (g := gb278) (o := .cells #[.string a1_0, .string a1_1, .int .i64 a1_2] 81 (0, 0)) (tb BK278.out) k_ hk)) : p := h
theorem B10x8_ {p : Prop} (h : p := by exact (keep_size (w := w) (g := g) (row := none) (tk1 HK.out GW278.out))) : p := h
theorem B10x10_ {p : Prop} (h : p := by repeat (first | (with_reducible first | exact HI0.out | apply IsS47.alloc | apply IsS47.drewN | apply IsS47.drew | apply IsS47.set_1) | exact HI0.out)) : p := h
theorem B10x14_ {p : Prop} (h : p := by exact k81_mkM _ _ _ (⟨(rd_T81 s0_1 x6_1).f0, (rd_T81 s0_1 x6_1).f1, (rd_T81 s0_1 x6_1).f2⟩ : S81)) : p := h
theorem B10x15_ {p : Prop} (h : p := by exact k81_mkM _ _ _ (⟨(rd_T81 s0_1 x7_2).f0, (rd_T81 s0_1 x7_2).f1, (rd_T81 s0_1 x7_2).f2⟩ : S81)) : p := h
theorem B10x16_ {p : Prop} (h : p := by exact k81_mkM _ _ _ (⟨a1_0, a1_1, a1_2⟩ : S81)) : p := h
theorem B10x17_ {p : Prop} (h : p := by first | rfl | (simp [errW_none, errW_some] <;> rfl) | (simp [*, errW_none, errW_some] <;> rfl)) : p := h
def IsS47 (w0 W : World) (g : Nat) (f0 : Value) (f1 : Value) : Prop := W.heap[g]? = some (.cells #[f0, f1] 47 (0, 0)) ∧ w0.heap.size ≤ g
theorem IsS47.grown {w0 W : World} {g : Nat} {f0 : Value} {f1 : Value} {W1 : World} {row : Option Nat} (h : IsS47 w0 W g f0 f1) (hw : W.grownBy W1 row) (hne : some g ≠ row) : IsS47 w0 W1 g f0 f1 := by
 obtain ⟨hb, hg⟩ := h
 exact ⟨blk_grown hb hw hne, hg⟩
theorem IsS47.own_neN {w0 W : World} {g : Nat} {f0 : Value} {f1 : Value} {α : Type} {d : Kd α} {e : Nat} {base : Nat} {ok : Nat → Prop} {v : Value} {xs : List α} (h : IsS47 w0 W g f0 f1) (ho : Kd.N d e W base ok v xs) (ht : e ≠ 47) : some g ≠ v.ownBlock := by
 obtain ⟨hb, hg⟩ := h
 exact Kd.N_ne ho hb ht
theorem IsS47.fresh {w0 W : World} {g : Nat} {f0 : Value} {f1 : Value} (h : IsS47 w0 W g f0 f1) : ∀ k, W.heap.size ≤ k → k ≠ g := by
 obtain ⟨hb, hg⟩ := h
 exact Kd.freshB hb
theorem IsS47.kept {w0 W : World} {g : Nat} {f0 : Value} {f1 : Value} {W1 : World} {S : Nat → Prop} (h : IsS47 w0 W g f0 f1) (hk : Kept W W1 S) (hne : ¬ S g) : IsS47 w0 W1 g f0 f1 := by
 obtain ⟨hb, hg⟩ := h
 exact ⟨blk_kept hb hk hne, hg⟩
theorem IsS47.below {w0 W : World} {g : Nat} {f0 : Value} {f1 : Value} {W1 : World} (h : IsS47 w0 W g f0 f1) (hw : Below W.heap.size W W1) : IsS47 w0 W1 g f0 f1 := h.grown (grown_of_below hw none) (by simp)
theorem IsS47.alloc {w0 W : World} {g : Nat} {f0 : Value} {f1 : Value} (h : IsS47 w0 W g f0 f1) (o : Obj) : IsS47 w0 (W.alloc o) g f0 f1 := h.below (below_alloc (Below.refl _ _) o)
theorem IsS47.drewN {w0 W : World} {g : Nat} {f0 : Value} {f1 : Value} (h : IsS47 w0 W g f0 f1) (m : Nat) : IsS47 w0 (W.drewN m) g f0 f1 := h
theorem IsS47.drew {w0 W : World} {g : Nat} {f0 : Value} {f1 : Value} (h : IsS47 w0 W g f0 f1) : IsS47 w0 W.drew g f0 f1 := h
theorem IsS47.at_ {w0 W : World} {g : Nat} {f0 : Value} {f1 : Value} {w' : World} {m : Nat} (hq : W.drewN m = w') (h : IsS47 w0 W g f0 f1) : IsS47 w0 w' g f0 f1 := by subst hq; exact IsS47.drewN h m
theorem IsS47.apart {w0 W : World} {g : Nat} {f0 : Value} {f1 : Value} {α : Type} {d : Kd α} {e : Nat} {base : Nat} {ok : Nat → Prop} {v : Value} {xs : List α} (h : IsS47 w0 W g f0 f1) (ho : d.R e W base ok v xs) (ht : ∀ q, q ∈ e :: d.E → q ≠ 47) : d.R e W base (fun k => ok k ∧ k ≠ g) v xs := by
 obtain ⟨hb, hg⟩ := h
 exact Kd.R_types ho hb ht
theorem IsS47.own_ne {w0 W : World} {g : Nat} {f0 : Value} {f1 : Value} {α : Type} {d : Kd α} {e : Nat} {base : Nat} {ok : Nat → Prop} {v : Value} {xs : List α} (h : IsS47 w0 W g f0 f1) (ho : d.R e W base ok v xs) (ht : e ≠ 47) : some g ≠ v.ownBlock := by
 obtain ⟨hb, hg⟩ := h
 exact Kd.R_ne ho hb ht
theorem IsS47.apartQ {w0 W : World} {g : Nat} {f0 : Value} {f1 : Value} {α : Type} {d : Kd α} {e : Nat} {base : Nat} {ok : Nat → Prop} {v : Value} {xs : List α} (h : IsS47 w0 W g f0 f1) (ho : d.Q e W base ok v xs) (ht : ∀ q, q ∈ e :: d.E → q ≠ 47) : d.Q e W base (fun k => ok k ∧ k ≠ g) v xs := by
 obtain ⟨hb, hg⟩ := h
 exact Kd.Q_types ho hb ht
theorem IsS47.own_neQ {w0 W : World} {g : Nat} {f0 : Value} {f1 : Value} {α : Type} {d : Kd α} {e : Nat} {base : Nat} {ok : Nat → Prop} {v : Value} {xs : List α} (h : IsS47 w0 W g f0 f1) (ho : d.Q e W base ok v xs) (ht : e ≠ 47) : some g ≠ v.ownBlock := by
 obtain ⟨hb, hg⟩ := h
 exact Kd.Q_ne ho hb ht
theorem IsS47.apartS {w0 W : World} {g : Nat} {f0 : Value} {f1 : Value} {α : Type} {d : Kd α} {e : Nat} {base : Nat} {ok : Nat → Prop} {v : Value} {xs : List α} (h : IsS47 w0 W g f0 f1) (ho : d.S e W base ok v xs) (ht : ∀ q, q ∈ e :: d.E → q ≠ 47) : d.S e W base (fun k => ok k ∧ k ≠ g) v xs := by
 obtain ⟨hb, hg⟩ := h
 exact Kd.S_types ho hb ht
theorem IsS47.own_neS {w0 W : World} {g : Nat} {f0 : Value} {f1 : Value} {α : Type} {d : Kd α} {e : Nat} {base : Nat} {ok : Nat → Prop} {v : Value} {xs : List α} (h : IsS47 w0 W g f0 f1) (ho : d.S e W base ok v xs) (ht : e ≠ 47) : some g ≠ v.ownBlock := by
 obtain ⟨hb, hg⟩ := h
 exact Kd.S_ne ho hb ht
theorem IsS47.lt {w0 W : World} {g : Nat} {f0 : Value} {f1 : Value} (h : IsS47 w0 W g f0 f1) : g < W.heap.size := by
 obtain ⟨hb, hg⟩ := h
 exact blk_lt hb
theorem IsS47.ge {w0 W : World} {g : Nat} {f0 : Value} {f1 : Value} (h : IsS47 w0 W g f0 f1) : w0.heap.size ≤ g := by
 obtain ⟨hb, hg⟩ := h
 exact hg
theorem IsS47.ne_blk {w0 W : World} {g : Nat} {f0 : Value} {f1 : Value} {a : Nat} {cs : Array Value} {t : TypeId} {fr : Nat × Nat} (h : IsS47 w0 W g f0 f1) (hb2 : W.heap[a]? = some (.cells cs t fr)) (ht : t ≠ 47) : g ≠ a := by
 obtain ⟨hb, hg⟩ := h
 rintro rfl
 rw [hb] at hb2
 injection hb2 with hb2
 injection hb2 with _ ht2
 exact ht ht2.symm
theorem IsS47.far {w0 W : World} {g : Nat} {f0 : Value} {f1 : Value} {p : Addr} (h : IsS47 w0 W g f0 f1) (hne : g ≠ p.block) (u : Value) : IsS47 w0 (W.setCell p u) g f0 f1 := by
 obtain ⟨hb, hg⟩ := h
 exact ⟨blk_far hb hne u, hg⟩
theorem IsS47.set_0 {w0 W : World} {g : Nat} {f0 : Value} {f1 : Value} (h : IsS47 w0 W g f0 f1) (x : Value) : IsS47 w0 (W.setCell ⟨g, 0, none⟩ x) g x f1 := by
 obtain ⟨hb, hg⟩ := h
 exact ⟨(by simpa using blk_set hb 0 x), hg⟩
theorem cellS47_0 {W : World} {g : Nat} {f0 : Value} {f1 : Value} (h : W.heap[g]? = some (.cells #[f0, f1] 47 (0, 0))) : W.cell? ⟨g, 0, none⟩ = some (f0) := (blk_cell h 0).trans rfl
theorem IsS47.set_1 {w0 W : World} {g : Nat} {f0 : Value} {f1 : Value} (h : IsS47 w0 W g f0 f1) (x : Value) : IsS47 w0 (W.setCell ⟨g, 1, none⟩ x) g f0 x := by
 obtain ⟨hb, hg⟩ := h
 exact ⟨(by simpa using blk_set hb 1 x), hg⟩
theorem cellS47_1 {W : World} {g : Nat} {f0 : Value} {f1 : Value} (h : W.heap[g]? = some (.cells #[f0, f1] 47 (0, 0))) : W.cell? ⟨g, 1, none⟩ = some (f1) := (blk_cell h 1).trans rfl
theorem IsS47.new (w0 W : World) (f0 : Value) (f1 : Value) (hB : Below w0.heap.size w0 W) : IsS47 w0 (W.alloc (.cells #[f0, f1] 47)) W.heap.size f0 f1 := ⟨(by simpa using heap_alloc_new W _), hB.size⟩

/-! ### spec_l15Put: function 111 -/
mutual
def spec_l15Put.l0 : Nat → List (S81) → Int → List (S83) → List (S81) → ByteArray → ByteArray → Int → Option (Bool × (List (S81)))
 | 0, _, _, _, _, _, _, _ => none
 | k + 1, x5, x6, x1000, x1001, x279000, x279001, x279002 => if x6 < (x1001.length : Int) then (if 0 ≤ x6 then (if (Op.bytesLess (((rd_T81 x1001 x6).f0).toList) x279000.toList) = true then (if x5.length < 3518437208883 then (spec_l15Put.l0 k (x5 ++ [(⟨(rd_T81 x1001 x6).f0, (rd_T81 x1001 x6).f1, (rd_T81 x1001 x6).f2⟩ : S81)]) (wrap64 (x6 + 1)) x1000 x1001 x279000 x279001 x279002) else (none)) else (spec_l15Put.l0 k x5 (wrap64 (x6 + 1)) x1000 x1001 x279000 x279001 x279002)) else (none)) else (if x5.length < 3518437208883 then (spec_l15Put.l1 k (x5 ++ [(⟨x279000, x279001, x279002⟩ : S81)]) 0 x1000 x1001 x279000 x279001 x279002) else (none))
def spec_l15Put.l1 : Nat → List (S81) → Int → List (S83) → List (S81) → ByteArray → ByteArray → Int → Option (Bool × (List (S81)))
 | 0, _, _, _, _, _, _, _ => none
 | k + 1, x5, x7, x1000, x1001, x279000, x279001, x279002 => if x7 < (x1001.length : Int) then (if 0 ≤ x7 then (if (Op.bytesLess x279000.toList (((rd_T81 x1001 x7).f0).toList)) = true then (if x5.length < 3518437208883 then (spec_l15Put.l1 k (x5 ++ [(⟨(rd_T81 x1001 x7).f0, (rd_T81 x1001 x7).f1, (rd_T81 x1001 x7).f2⟩ : S81)]) (wrap64 (x7 + 1)) x1000 x1001 x279000 x279001 x279002) else (none)) else (spec_l15Put.l1 k x5 (wrap64 (x7 + 1)) x1000 x1001 x279000 x279001 x279002)) else (none)) else (if (x5.length : Int) > 8 then (some (false, x1001)) else (some (true, x5)))
end
def spec_l15Put.f (k : Nat) (s0_0 : List (S83)) (s0_1 : List (S81)) (a1_0 : ByteArray) (a1_1 : ByteArray) (a1_2 : Int) : Option (Bool × (List (S81))) := spec_l15Put.l0 k (([] : List (S81))) 0 s0_0 s0_1 a1_0 a1_1 a1_2
theorem spec_l15Put.mono_l : ∀ k, (∀ y0 y1 y2 y3 y4 y5 y6, LeO (spec_l15Put.l0 k y0 y1 y2 y3 y4 y5 y6) (spec_l15Put.l0 (k + 1) y0 y1 y2 y3 y4 y5 y6)) ∧ (∀ y0 y1 y2 y3 y4 y5 y6, LeO (spec_l15Put.l1 k y0 y1 y2 y3 y4 y5 y6) (spec_l15Put.l1 (k + 1) y0 y1 y2 y3 y4 y5 y6))
 | 0 => ⟨fun _ _ _ _ _ _ _ r h => by simp [spec_l15Put.l0] at h, fun _ _ _ _ _ _ _ r h => by simp [spec_l15Put.l1] at h⟩
 | k + 1 => by
  obtain ⟨ih0, ih1⟩ := spec_l15Put.mono_l k
  refine ⟨?_, ?_⟩ <;> intros <;> (first | unfold spec_l15Put.l0 | unfold spec_l15Put.l1) <;> repeat' (with_reducible first | exact ih0 .. | exact ih1 .. | exact LeO.refl _ | exact LeO.none _ | refine LeO.ite ?_ ?_ | refine LeO.bind ?_ (fun _ => ?_))
theorem spec_l15Put.mono : ∀ a0 a1 a2 a3 a4 k, LeO (spec_l15Put.f k a0 a1 a2 a3 a4) (spec_l15Put.f (k + 1) a0 a1 a2 a3 a4) := by
 intro a0 a1 a2 a3 a4 k
 obtain ⟨ih0, ih1⟩ := spec_l15Put.mono_l k
 unfold spec_l15Put.f
 repeat' (with_reducible first | exact ih0 .. | exact ih1 .. | exact LeO.refl _ | exact LeO.none _ | refine LeO.ite ?_ ?_ | refine LeO.bind ?_ (fun _ => ?_))
set_option maxHeartbeats 8000000 in
set_option maxRecDepth 100000 in
theorem spec_l15Put.calls (k : Nat) (g : Nat) (A0_0 : Option Addr) (c0_0 : Nat) (s0_0 : List (S83)) (A0_1 : Option Addr) (c0_1 : Nat) (s0_1 : List (S81)) (a1_0 : ByteArray) (a1_1 : ByteArray) (a1_2 : Int) (r1 : Bool) (r2 : List (S81)) (w0 w : World) (hI : IsS47 w0 w g (.slice A0_0 s0_0.length c0_0) (.slice A0_1 s0_1.length c0_1)) (hB : Below w0.heap.size w0 w) (hr0_0 : ∀ W_, KeepBut w W_ g none → Kd.C k83 W_ A0_0 s0_0.length s0_0) (hc0_0 : s0_0.length ≤ c0_0) (hr0_1 : ∀ W_, KeepBut w W_ g none → Kd.C k81 W_ A0_1 s0_1.length s0_1) (hc0_1 : s0_1.length ≤ c0_1) (ho0_1 : Kd.R k81 81 w w0.heap.size (fun k_ => k_ ≠ g) (.slice A0_1 s0_1.length c0_1) s0_1) (h : spec_l15Put.f k s0_0 s0_1 a1_0 a1_1 a1_2 = some (r1, r2)) :
  Calls Try.prog 111 #[.pointer (some ⟨g, 0, none⟩), .agg #[.string a1_0, .string a1_1, .int .i64 a1_2]] w fun e w' => ∃ v9_ : Value, e = .returned (.bool r1) ∧ IsS47 w0 w' g (.slice A0_0 s0_0.length c0_0) v9_ ∧ Kd.R k81 81 w' w0.heap.size (fun k_ => k_ ≠ g) v9_ r2 ∧ Below w0.heap.size w0 w' ∧ KeepBut w w' g none := by
 have hu81 := Try.underlying81
 have HR0_0 := am hr0_0
 have HC0_0 := am hc0_0
 clear hr0_0 hc0_0
 have HR0_1 := am hr0_1
 have HC0_1 := am hc0_1
 clear hr0_1 hc0_1
 have HOW := am ho0_1
 clear ho0_1
 have HI0 := am hI
 have HK := am (KeepBut.refl w g none)
 have HL := am hB.size
 clear hI
 have HW0 := am hB.size
 have HB := am hB
 clear hB
 have H : (spec_l15Put.l0 k (([] : List (S81))) 0 s0_0 s0_1 a1_0 a1_1 a1_2) = some (r1, r2) := h
 clear h
 obtain ⟨y279, hy279⟩ : ∃ y_ : List (S81), y_ = (([] : List (S81))) := ⟨_, rfl⟩
 replace H : (spec_l15Put.l0 k y279 0 s0_0 s0_1 a1_0 a1_1 a1_2) = some (r1, r2) := by first | (rw [hy279]; with_reducible exact H) | (have H2_ := (Option.bind_some _ _).symm.trans H; rw [hy279]; with_reducible exact H2_) | (have H2_ := (Option.bind_some _ _).symm.trans H; with_reducible exact H2_) | with_reducible exact H | (rw [hy279]; exact H) | exact H
 have Ny279 := am hy279
 clear hy279
 have H' := am H
 clear H
 go_enter Try.func111, Try.ntmps111
 go_wp2_with (first | ((with_reducible refine gate_dst (N := 3) rfl ?_); refine bx (N := 3) (cs := #[.string a1_0, .string a1_1, .int .i64 a1_2]) (t := 81) ?_; intro gb278 hg w3 hbox hb; replace HB := am (below_step (te1 HB.out (IsS47.ge HI0.out)) hb); have BK278 := am (hbox); have GW278 := am ((bs hg (keep_size HK.out))); have GE278 := am ((Nat.le_trans HW0.out (bs hg (keep_size HK.out)) : w0.heap.size ≤ gb278)); replace HK := am (KeepBut.trans (tk0 HK.out) (KeepBut.of_below hb g none) (.inl rfl)); have NB0_278 := am ((nl hg (IsS47.lt HI0.out))); have NB278_0 := am ((ng hg (IsS47.lt HI0.out))); replace HI0 := am (IsS47.below B10x10_ hb); clear hb hbox hg) | ((with_reducible refine gate_dst (N := 8) rfl ?_); refine Kd.R_lit k81 _ 81 ?hg (N := 8) ?hd (xs := ([] : List (S81))) (inner := []) (ok := fun _ => True) (okp := fun _ => True) ?hr ?hp (fun _ hk => hk) trivial (Below.refl _ _) (Nat.le_refl _) (by simp) ?_; (case hd => rfl); (case hg => rfl); (case hr => exact gs_); (case hp => exact (Reps.none _ _)); intro v280 w4 ho5 hb hg_ hnew_; clear hg_ hnew_; (first | rw [← Ny279.out] at ho5 | (simp only [Int.reduceToNat] at ho5; rw [← Ny279.out] at ho5)); have HO281 := am (Kd.R_lower (Kd.R_newB ho5 (g := gb278) (o := .cells #[.string a1_0, .string a1_1, .int .i64 a1_2] 81 (0, 0)) (tb BK278.out)) (keep_size (w := w) (g := g) (row := none) (tk1 HK.out GW278.out))); replace BK278 := am (bb BK278.out hb); replace HK := am (KeepBut.trans (tk1 HK.out GW278.out) (KeepBut.of_below hb g none) (.inl rfl)); replace HB := am (below_step (te2 HB.out (IsS47.ge HI0.out) GE278.out) hb); replace HI0 := am (IsS47.below B10x3_ hb); clear hb ho5))
 repeat (go_quiet (first | ((with_reducible refine gate_dst (N := 3) rfl ?_); refine bx (N := 3) (cs := #[.string a1_0, .string a1_1, .int .i64 a1_2]) (t := 81) ?_; intro gb278 hg w3 hbox hb; replace HB := am (below_step (te1 HB.out (IsS47.ge HI0.out)) hb); have BK278 := am (hbox); have GW278 := am ((bs hg (keep_size HK.out))); have GE278 := am ((Nat.le_trans HW0.out (bs hg (keep_size HK.out)) : w0.heap.size ≤ gb278)); replace HK := am (KeepBut.trans (tk0 HK.out) (KeepBut.of_below hb g none) (.inl rfl)); have NB0_278 := am ((nl hg (IsS47.lt HI0.out))); have NB278_0 := am ((ng hg (IsS47.lt HI0.out))); replace HI0 := am (IsS47.below B10x10_ hb); clear hb hbox hg) | ((with_reducible refine gate_dst (N := 8) rfl ?_); refine Kd.R_lit k81 _ 81 ?hg (N := 8) ?hd (xs := ([] : List (S81))) (inner := []) (ok := fun _ => True) (okp := fun _ => True) ?hr ?hp (fun _ hk => hk) trivial (Below.refl _ _) (Nat.le_refl _) (by simp) ?_; (case hd => rfl); (case hg => rfl); (case hr => exact gs_); (case hp => exact (Reps.none _ _)); intro v280 w4 ho5 hb hg_ hnew_; clear hg_ hnew_; (first | rw [← Ny279.out] at ho5 | (simp only [Int.reduceToNat] at ho5; rw [← Ny279.out] at ho5)); have HO281 := am (Kd.R_lower (Kd.R_newB ho5 (g := gb278) (o := .cells #[.string a1_0, .string a1_1, .int .i64 a1_2] 81 (0, 0)) (tb BK278.out)) (keep_size (w := w) (g := g) (row := none) (tk1 HK.out GW278.out))); replace BK278 := am (bb BK278.out hb); replace HK := am (KeepBut.trans (tk1 HK.out GW278.out) (KeepBut.of_below hb g none) (.inl rfl)); replace HB := am (below_step (te2 HB.out (IsS47.ge HI0.out) GE278.out) hb); replace HI0 := am (IsS47.below B10x3_ hb); clear hb ho5)); try go_wp2_with (first | ((with_reducible refine gate_dst (N := 3) rfl ?_); refine bx (N := 3) (cs := #[.string a1_0, .string a1_1, .int .i64 a1_2]) (t := 81) ?_; intro gb278 hg w3 hbox hb; replace HB := am (below_step (te1 HB.out (IsS47.ge HI0.out)) hb); have BK278 := am (hbox); have GW278 := am ((bs hg (keep_size HK.out))); have GE278 := am ((Nat.le_trans HW0.out (bs hg (keep_size HK.out)) : w0.heap.size ≤ gb278)); replace HK := am (KeepBut.trans (tk0 HK.out) (KeepBut.of_below hb g none) (.inl rfl)); have NB0_278 := am ((nl hg (IsS47.lt HI0.out))); have NB278_0 := am ((ng hg (IsS47.lt HI0.out))); replace HI0 := am (IsS47.below B10x10_ hb); clear hb hbox hg) | ((with_reducible refine gate_dst (N := 8) rfl ?_); refine Kd.R_lit k81 _ 81 ?hg (N := 8) ?hd (xs := ([] : List (S81))) (inner := []) (ok := fun _ => True) (okp := fun _ => True) ?hr ?hp (fun _ hk => hk) trivial (Below.refl _ _) (Nat.le_refl _) (by simp) ?_; (case hd => rfl); (case hg => rfl); (case hr => exact gs_); (case hp => exact (Reps.none _ _)); intro v280 w4 ho5 hb hg_ hnew_; clear hg_ hnew_; (first | rw [← Ny279.out] at ho5 | (simp only [Int.reduceToNat] at ho5; rw [← Ny279.out] at ho5)); have HO281 := am (Kd.R_lower (Kd.R_newB ho5 (g := gb278) (o := .cells #[.string a1_0, .string a1_1, .int .i64 a1_2] 81 (0, 0)) (tb BK278.out)) (keep_size (w := w) (g := g) (row := none) (tk1 HK.out GW278.out))); replace BK278 := am (bb BK278.out hb); replace HK := am (KeepBut.trans (tk1 HK.out GW278.out) (KeepBut.of_below hb g none) (.inl rfl)); replace HB := am (below_step (te2 HB.out (IsS47.ge HI0.out) GE278.out) hb); replace HI0 := am (IsS47.below B10x3_ hb); clear hb ho5)))
 go_loopg [5, 6] k (fun kq v5 v6 w' => ∃ (x5_1 : List (S81)) (x6_1 : Int), v6 = .int .i64 x6_1 ∧ Aside0 (spec_l15Put.l0 kq x5_1 x6_1 s0_0 s0_1 a1_0 a1_1 a1_2 = some (r1, r2)) ∧ Aside0 (kq ≤ k) ∧ Aside0 (Kd.R k81 81 w' w.heap.size (fun k_ => k_ ≠ gb278) v5 x5_1) ∧ Aside0 (w'.heap[gb278]? = some (.cells #[.string a1_0, .string a1_1, .int .i64 a1_2] 81 (0, 0))) ∧ Aside0 (IsS47 w0 w' g (.slice A0_0 s0_0.length c0_0) (.slice A0_1 s0_1.length c0_1)) ∧ Aside0 (KeepBut w w' g none) ∧ Aside0 (Below w0.heap.size w0 w'))
 case atStart => exact ⟨(y279), (0), (be_), H', ⟨Nat.le_refl _⟩, ⟨(by (with_reducible repeat (first | apply Kd.R_alloc | apply Kd.R_drewN | apply Kd.R_drew)); exact Kd.R_mono HO281.out (fun _ hk => hk.2))⟩, ⟨(tb BK278.out)⟩, ⟨B10x3_⟩, ⟨(tk1 HK.out GW278.out)⟩, ⟨(te2 HB.out (IsS47.ge HI0.out) GE278.out)⟩⟩
 case round =>
  clear H'; obtain ⟨x5_1, x6_1, rfl, HA, HK1, HO_5, BK278, HI0, HK, HB⟩ := hrel
  cases gk with
  | zero => exact absurd HA.out (by simp [spec_l15Put.l0])
  | succ k1 =>
   have H := HA.out; clear HA; simp only [spec_l15Put.l0] at H
   by_cases c6 : x6_1 < (s0_1.length : Int)
   ·rw [if_pos c6] at H
    have c6b0 : decide (x6_1 < (s0_1.length : Int)) = true := decide_eq_true c6
    clear c6
    by_cases c7 : 0 ≤ x6_1
    rotate_left
    ·rw [if_neg c7] at H; exact absurd H (by simp)
    rw [if_pos c7] at H
    have c7b0 : decide (0 ≤ x6_1) = true := decide_eq_true c7
    clear c7
    by_cases c8 : (Op.bytesLess (((rd_T81 s0_1 x6_1).f0).toList) a1_0.toList) = true
    ·rw [if_pos c8] at H
     have c8b0 : (Op.bytesLess (((rd_T81 s0_1 x6_1).f0).toList) a1_0.toList) = true := c8
     clear c8
     by_cases c9 : x5_1.length < 3518437208883
     rotate_left
     ·rw [if_neg c9] at H; exact absurd H (by simp)
     rw [if_pos c9] at H; have LMc9 := am c9; clear c9; obtain ⟨y284, hy284⟩ : ∃ y_ : List (S81), y_ = (x5_1 ++ [(⟨(rd_T81 s0_1 x6_1).f0, (rd_T81 s0_1 x6_1).f1, (rd_T81 s0_1 x6_1).f2⟩ : S81)]) := ⟨_, rfl⟩
     replace H : (spec_l15Put.l0 k1 y284 (wrap64 (x6_1 + 1)) s0_0 s0_1 a1_0 a1_1 a1_2) = some (r1, r2) := by first | (rw [hy284]; with_reducible exact H) | (have H2_ := (Option.bind_some _ _).symm.trans H; rw [hy284]; with_reducible exact H2_) | (have H2_ := (Option.bind_some _ _).symm.trans H; with_reducible exact H2_) | with_reducible exact H | (rw [hy284]; exact H) | exact H
     have Ny284 := am hy284; clear hy284
     have H' := am H
     clear H; obtain ⟨HGz10, hgz10⟩ := HI0.out; have hcz10_0 := cellS47_0 HGz10; have hcz10_1 := cellS47_1 HGz10; have hfz10_1 := blk_frozen HGz10 1; clear HGz10 hgz10
     have p282 : 0 ≤ (x6_1 : Int) := dga
     have q282 : x6_1 < (s0_1.length : Int) := dga
     obtain ⟨ad282, e282, hx282_0, hx282_1, hx282_2⟩ := at_T81 (Kd.C_foot_now HR0_1.out HK.out) x6_1 p282 q282; cases e282; replace p282 := eq_true p282; replace q282 := eq_true q282; have hnb11 := NB278_0.out; have hnc11 := NB0_278.out; obtain ⟨hcz12_0, hcz12_1, hcz12_2⟩ := cl3 BK278.out; obtain ⟨hfz12_0, hfz12_1, hfz12_2⟩ := fr3 BK278.out
     have p283 : 0 ≤ (x6_1 : Int) := dga
     have q283 : x6_1 < (s0_1.length : Int) := dga
     obtain ⟨ad283, e283, hx283_0, hx283_1, hx283_2⟩ := at_T81 (Kd.C_foot_now HR0_1.out HK.out) x6_1 p283 q283; obtain rfl : ad282 = ad283 := (by injection e283); replace p283 := eq_true p283; replace q283 := eq_true q283
     go_wp2_with (first | ((with_reducible refine gate_builtin (b := .append) (xs := #[.tmp 29, .tmp 37]) rfl ?_); at_builtin; refine Kd.R_append k81 w.heap.size rfl (.tmp 29) (.tmp 37) 45 81 (.agg #[(.string ⟨#[]⟩), (.string ⟨#[]⟩), (.int .i64 0)]) 40 rfl Try.underlying45 info81 rfl (by decide) (by omega) u5 x5_1 (⟨(rd_T81 s0_1 x6_1).f0, (rd_T81 s0_1 x6_1).f1, (rd_T81 s0_1 x6_1).f2⟩ : S81) [.string ((rd_T81 s0_1 x6_1).f0), .string ((rd_T81 s0_1 x6_1).f1), .int .i64 ((rd_T81 s0_1 x6_1).f2)] (fun k_ => k_ ≠ gb278) (fun _ => False) rfl rfl ?aP (fun _ hk => hk.elim) ?aF ?aO (Below.refl _ _) ?aS ?aL ?_; (case aP => exact B10x14_); (case aF => exact B10x6_); (case aO => exact (tr HO_5.out)); (case aS => exact B10x8_); (case aL => have := LMc9.out; omega); intro v285 w13 ho hb hg hat; rw [← Ny284.out] at ho; replace BK278 := am (blk_grown (g := gb278) (o := .cells #[.string a1_0, .string a1_1, .int .i64 a1_2] 81 (0, 0)) (tb BK278.out) hg (Kd.R_away HO_5.out (fun _ hk => hk))); replace HB := am (below_weaken (te2 HB.out (IsS47.ge HI0.out) GE278.out) HL.out hb); replace HI0 := am (IsS47.grown B10x4_ hg (IsS47.own_ne HI0.out HO_5.out (by decide))); replace HK := am (KeepBut.trans (tk1 HK.out GW278.out) (KeepBut.of_grown hg g) (Kd.R_base2 HO_5.out)); have HO286 := am (ho); clear HO_5; clear ho hb hg hat))
     repeat (go_quiet (first | ((with_reducible refine gate_builtin (b := .append) (xs := #[.tmp 29, .tmp 37]) rfl ?_); at_builtin; refine Kd.R_append k81 w.heap.size rfl (.tmp 29) (.tmp 37) 45 81 (.agg #[(.string ⟨#[]⟩), (.string ⟨#[]⟩), (.int .i64 0)]) 40 rfl Try.underlying45 info81 rfl (by decide) (by omega) u5 x5_1 (⟨(rd_T81 s0_1 x6_1).f0, (rd_T81 s0_1 x6_1).f1, (rd_T81 s0_1 x6_1).f2⟩ : S81) [.string ((rd_T81 s0_1 x6_1).f0), .string ((rd_T81 s0_1 x6_1).f1), .int .i64 ((rd_T81 s0_1 x6_1).f2)] (fun k_ => k_ ≠ gb278) (fun _ => False) rfl rfl ?aP (fun _ hk => hk.elim) ?aF ?aO (Below.refl _ _) ?aS ?aL ?_; (case aP => exact B10x14_); (case aF => exact B10x6_); (case aO => exact (tr HO_5.out)); (case aS => exact B10x8_); (case aL => have := LMc9.out; omega); intro v285 w13 ho hb hg hat; rw [← Ny284.out] at ho; replace BK278 := am (blk_grown (g := gb278) (o := .cells #[.string a1_0, .string a1_1, .int .i64 a1_2] 81 (0, 0)) (tb BK278.out) hg (Kd.R_away HO_5.out (fun _ hk => hk))); replace HB := am (below_weaken (te2 HB.out (IsS47.ge HI0.out) GE278.out) HL.out hb); replace HI0 := am (IsS47.grown B10x4_ hg (IsS47.own_ne HI0.out HO_5.out (by decide))); replace HK := am (KeepBut.trans (tk1 HK.out GW278.out) (KeepBut.of_grown hg g) (Kd.R_base2 HO_5.out)); have HO286 := am (ho); clear HO_5; clear ho hb hg hat)); try go_wp2_with (first | ((with_reducible refine gate_builtin (b := .append) (xs := #[.tmp 29, .tmp 37]) rfl ?_); at_builtin; refine Kd.R_append k81 w.heap.size rfl (.tmp 29) (.tmp 37) 45 81 (.agg #[(.string ⟨#[]⟩), (.string ⟨#[]⟩), (.int .i64 0)]) 40 rfl Try.underlying45 info81 rfl (by decide) (by omega) u5 x5_1 (⟨(rd_T81 s0_1 x6_1).f0, (rd_T81 s0_1 x6_1).f1, (rd_T81 s0_1 x6_1).f2⟩ : S81) [.string ((rd_T81 s0_1 x6_1).f0), .string ((rd_T81 s0_1 x6_1).f1), .int .i64 ((rd_T81 s0_1 x6_1).f2)] (fun k_ => k_ ≠ gb278) (fun _ => False) rfl rfl ?aP (fun _ hk => hk.elim) ?aF ?aO (Below.refl _ _) ?aS ?aL ?_; (case aP => exact B10x14_); (case aF => exact B10x6_); (case aO => exact (tr HO_5.out)); (case aS => exact B10x8_); (case aL => have := LMc9.out; omega); intro v285 w13 ho hb hg hat; rw [← Ny284.out] at ho; replace BK278 := am (blk_grown (g := gb278) (o := .cells #[.string a1_0, .string a1_1, .int .i64 a1_2] 81 (0, 0)) (tb BK278.out) hg (Kd.R_away HO_5.out (fun _ hk => hk))); replace HB := am (below_weaken (te2 HB.out (IsS47.ge HI0.out) GE278.out) HL.out hb); replace HI0 := am (IsS47.grown B10x4_ hg (IsS47.own_ne HI0.out HO_5.out (by decide))); replace HK := am (KeepBut.trans (tk1 HK.out GW278.out) (KeepBut.of_grown hg g) (Kd.R_base2 HO_5.out)); have HO286 := am (ho); clear HO_5; clear ho hb hg hat)))
     go_roundg k1
     case measure => have := HK1.out; omega
     case rel => exact ⟨(y284), (wrap64 (x6_1 + 1)), (be_), H', ⟨(by have := HK1.out; omega)⟩, ⟨(tr HO286.out)⟩, ⟨(tb BK278.out)⟩, ⟨B10x3_⟩, ⟨(tk1 HK.out GW278.out)⟩, ⟨(te2 HB.out (IsS47.ge HI0.out) GE278.out)⟩⟩
    ·rw [if_neg c8] at H
     have c8b0 : (Op.bytesLess (((rd_T81 s0_1 x6_1).f0).toList) a1_0.toList) = false := by simpa using c8
     clear c8
     have H' := am H
     clear H; obtain ⟨HGz14, hgz14⟩ := HI0.out; have hcz14_0 := cellS47_0 HGz14; have hcz14_1 := cellS47_1 HGz14; have hfz14_1 := blk_frozen HGz14 1; clear HGz14 hgz14
     have p282 : 0 ≤ (x6_1 : Int) := dga
     have q282 : x6_1 < (s0_1.length : Int) := dga
     obtain ⟨ad282, e282, hx282_0, hx282_1, hx282_2⟩ := at_T81 (Kd.C_foot_now HR0_1.out HK.out) x6_1 p282 q282; cases e282; replace p282 := eq_true p282; replace q282 := eq_true q282; have hnb15 := NB278_0.out; have hnc15 := NB0_278.out; obtain ⟨hcz16_0, hcz16_1, hcz16_2⟩ := cl3 BK278.out; obtain ⟨hfz16_0, hfz16_1, hfz16_2⟩ := fr3 BK278.out
     go_wp2
     repeat (go_quiet (fail); try go_wp2)
     go_roundg k1
     case measure => have := HK1.out; omega
     case rel => exact ⟨(x5_1), (wrap64 (x6_1 + 1)), (be_), H', ⟨(by have := HK1.out; omega)⟩, ⟨(tr HO_5.out)⟩, ⟨(tb BK278.out)⟩, ⟨B10x3_⟩, ⟨(tk1 HK.out GW278.out)⟩, ⟨(te2 HB.out (IsS47.ge HI0.out) GE278.out)⟩⟩
   ·rw [if_neg c6] at H
    have c6b0 : decide (x6_1 < (s0_1.length : Int)) = false := decide_eq_false c6
    clear c6
    by_cases c17 : x5_1.length < 3518437208883
    rotate_left
    ·rw [if_neg c17] at H; exact absurd H (by simp)
    rw [if_pos c17] at H; have LMc17 := am c17; clear c17; obtain ⟨y287, hy287⟩ : ∃ y_ : List (S81), y_ = (x5_1 ++ [(⟨a1_0, a1_1, a1_2⟩ : S81)]) := ⟨_, rfl⟩
    replace H : (spec_l15Put.l1 k1 y287 0 s0_0 s0_1 a1_0 a1_1 a1_2) = some (r1, r2) := by first | (rw [hy287]; with_reducible exact H) | (have H2_ := (Option.bind_some _ _).symm.trans H; rw [hy287]; with_reducible exact H2_) | (have H2_ := (Option.bind_some _ _).symm.trans H; with_reducible exact H2_) | with_reducible exact H | (rw [hy287]; exact H) | exact H
    have Ny287 := am hy287; clear hy287
    have H' := am H
    clear H; obtain ⟨HGz18, hgz18⟩ := HI0.out; have hcz18_0 := cellS47_0 HGz18; have hcz18_1 := cellS47_1 HGz18; have hfz18_1 := blk_frozen HGz18 1; clear HGz18 hgz18; have hnb19 := NB278_0.out; have hnc19 := NB0_278.out; obtain ⟨hcz20_0, hcz20_1, hcz20_2⟩ := cl3 BK278.out; obtain ⟨hfz20_0, hfz20_1, hfz20_2⟩ := fr3 BK278.out
    go_wp2_with (first | ((with_reducible refine gate_builtin (b := .append) (xs := #[.tmp 39, .tmp 41]) rfl ?_); at_builtin; refine Kd.R_append k81 w.heap.size rfl (.tmp 39) (.tmp 41) 45 81 (.agg #[(.string ⟨#[]⟩), (.string ⟨#[]⟩), (.int .i64 0)]) 40 rfl Try.underlying45 info81 rfl (by decide) (by omega) u5 x5_1 (⟨a1_0, a1_1, a1_2⟩ : S81) [.string a1_0, .string a1_1, .int .i64 a1_2] (fun k_ => k_ ≠ gb278) (fun _ => False) rfl rfl ?aP (fun _ hk => hk.elim) ?aF ?aO (Below.refl _ _) ?aS ?aL ?_; (case aP => exact B10x16_); (case aF => exact B10x6_); (case aO => exact (tr HO_5.out)); (case aS => exact B10x8_); (case aL => have := LMc17.out; omega); intro v288 w21 ho hb hg hat; rw [← Ny287.out] at ho; replace BK278 := am (blk_grown (g := gb278) (o := .cells #[.string a1_0, .string a1_1, .int .i64 a1_2] 81 (0, 0)) (tb BK278.out) hg (Kd.R_away HO_5.out (fun _ hk => hk))); replace HB := am (below_weaken (te2 HB.out (IsS47.ge HI0.out) GE278.out) HL.out hb); replace HI0 := am (IsS47.grown B10x4_ hg (IsS47.own_ne HI0.out HO_5.out (by decide))); replace HK := am (KeepBut.trans (tk1 HK.out GW278.out) (KeepBut.of_grown hg g) (Kd.R_base2 HO_5.out)); have HO289 := am (ho); clear HO_5; clear ho hb hg hat))
    repeat (go_quiet (first | ((with_reducible refine gate_builtin (b := .append) (xs := #[.tmp 39, .tmp 41]) rfl ?_); at_builtin; refine Kd.R_append k81 w.heap.size rfl (.tmp 39) (.tmp 41) 45 81 (.agg #[(.string ⟨#[]⟩), (.string ⟨#[]⟩), (.int .i64 0)]) 40 rfl Try.underlying45 info81 rfl (by decide) (by omega) u5 x5_1 (⟨a1_0, a1_1, a1_2⟩ : S81) [.string a1_0, .string a1_1, .int .i64 a1_2] (fun k_ => k_ ≠ gb278) (fun _ => False) rfl rfl ?aP (fun _ hk => hk.elim) ?aF ?aO (Below.refl _ _) ?aS ?aL ?_; (case aP => exact B10x16_); (case aF => exact B10x6_); (case aO => exact (tr HO_5.out)); (case aS => exact B10x8_); (case aL => have := LMc17.out; omega); intro v288 w21 ho hb hg hat; rw [← Ny287.out] at ho; replace BK278 := am (blk_grown (g := gb278) (o := .cells #[.string a1_0, .string a1_1, .int .i64 a1_2] 81 (0, 0)) (tb BK278.out) hg (Kd.R_away HO_5.out (fun _ hk => hk))); replace HB := am (below_weaken (te2 HB.out (IsS47.ge HI0.out) GE278.out) HL.out hb); replace HI0 := am (IsS47.grown B10x4_ hg (IsS47.own_ne HI0.out HO_5.out (by decide))); replace HK := am (KeepBut.trans (tk1 HK.out GW278.out) (KeepBut.of_grown hg g) (Kd.R_base2 HO_5.out)); have HO289 := am (ho); clear HO_5; clear ho hb hg hat)); try go_wp2_with (first | ((with_reducible refine gate_builtin (b := .append) (xs := #[.tmp 39, .tmp 41]) rfl ?_); at_builtin; refine Kd.R_append k81 w.heap.size rfl (.tmp 39) (.tmp 41) 45 81 (.agg #[(.string ⟨#[]⟩), (.string ⟨#[]⟩), (.int .i64 0)]) 40 rfl Try.underlying45 info81 rfl (by decide) (by omega) u5 x5_1 (⟨a1_0, a1_1, a1_2⟩ : S81) [.string a1_0, .string a1_1, .int .i64 a1_2] (fun k_ => k_ ≠ gb278) (fun _ => False) rfl rfl ?aP (fun _ hk => hk.elim) ?aF ?aO (Below.refl _ _) ?aS ?aL ?_; (case aP => exact B10x16_); (case aF => exact B10x6_); (case aO => exact (tr HO_5.out)); (case aS => exact B10x8_); (case aL => have := LMc17.out; omega); intro v288 w21 ho hb hg hat; rw [← Ny287.out] at ho; replace BK278 := am (blk_grown (g := gb278) (o := .cells #[.string a1_0, .string a1_1, .int .i64 a1_2] 81 (0, 0)) (tb BK278.out) hg (Kd.R_away HO_5.out (fun _ hk => hk))); replace HB := am (below_weaken (te2 HB.out (IsS47.ge HI0.out) GE278.out) HL.out hb); replace HI0 := am (IsS47.grown B10x4_ hg (IsS47.own_ne HI0.out HO_5.out (by decide))); replace HK := am (KeepBut.trans (tk1 HK.out GW278.out) (KeepBut.of_grown hg g) (Kd.R_base2 HO_5.out)); have HO289 := am (ho); clear HO_5; clear ho hb hg hat)))
    go_loopg [5, 7] k1 (fun kq v5 v7 w' => ∃ (x5_2 : List (S81)) (x7_2 : Int), v7 = .int .i64 x7_2 ∧ Aside0 (spec_l15Put.l1 kq x5_2 x7_2 s0_0 s0_1 a1_0 a1_1 a1_2 = some (r1, r2)) ∧ Aside0 (kq ≤ k1) ∧ Aside0 (Kd.R k81 81 w' w.heap.size (fun k_ => k_ ≠ gb278) v5 x5_2) ∧ Aside0 (w'.heap[gb278]? = some (.cells #[.string a1_0, .string a1_1, .int .i64 a1_2] 81 (0, 0))) ∧ Aside0 (IsS47 w0 w' g (.slice A0_0 s0_0.length c0_0) (.slice A0_1 s0_1.length c0_1)) ∧ Aside0 (KeepBut w w' g none) ∧ Aside0 (Below w0.heap.size w0 w'))
    case atStart => exact ⟨(y287), (0), (be_), H', ⟨Nat.le_refl _⟩, ⟨(tr HO289.out)⟩, ⟨(tb BK278.out)⟩, ⟨B10x3_⟩, ⟨(tk1 HK.out GW278.out)⟩, ⟨(te2 HB.out (IsS47.ge HI0.out) GE278.out)⟩⟩
    case round =>
     clear H'
     try clear c6
     try clear c6b0
     try clear c17
     try clear hcz18_0
     try clear hcz18_1
     try clear hcz20_0
     try clear hcz20_1
     try clear hcz20_2
     try clear hfz18_1
     try clear hfz20_0
     try clear hfz20_1
     try clear hfz20_2
     obtain ⟨x5_2, x7_2, rfl, HA, HK2, HO_5, BK278, HI0, HK, HB⟩ := hrel
     cases gk with
     | zero => exact absurd HA.out (by simp [spec_l15Put.l1])
     | succ k2 =>
      have H := HA.out; clear HA; simp only [spec_l15Put.l1] at H
      by_cases c22 : x7_2 < (s0_1.length : Int)
      ·rw [if_pos c22] at H
       have c22b0 : decide (x7_2 < (s0_1.length : Int)) = true := decide_eq_true c22
       clear c22
       by_cases c23 : 0 ≤ x7_2
       rotate_left
       ·rw [if_neg c23] at H; exact absurd H (by simp)
       rw [if_pos c23] at H
       have c23b0 : decide (0 ≤ x7_2) = true := decide_eq_true c23
       clear c23
       by_cases c24 : (Op.bytesLess a1_0.toList (((rd_T81 s0_1 x7_2).f0).toList)) = true
       ·rw [if_pos c24] at H
        have c24b0 : (Op.bytesLess a1_0.toList (((rd_T81 s0_1 x7_2).f0).toList)) = true := c24
        clear c24
        by_cases c25 : x5_2.length < 3518437208883
        rotate_left
        ·rw [if_neg c25] at H; exact absurd H (by simp)
        rw [if_pos c25] at H; have LMc25 := am c25; clear c25; obtain ⟨y292, hy292⟩ : ∃ y_ : List (S81), y_ = (x5_2 ++ [(⟨(rd_T81 s0_1 x7_2).f0, (rd_T81 s0_1 x7_2).f1, (rd_T81 s0_1 x7_2).f2⟩ : S81)]) := ⟨_, rfl⟩
        replace H : (spec_l15Put.l1 k2 y292 (wrap64 (x7_2 + 1)) s0_0 s0_1 a1_0 a1_1 a1_2) = some (r1, r2) := by first | (rw [hy292]; with_reducible exact H) | (have H2_ := (Option.bind_some _ _).symm.trans H; rw [hy292]; with_reducible exact H2_) | (have H2_ := (Option.bind_some _ _).symm.trans H; with_reducible exact H2_) | with_reducible exact H | (rw [hy292]; exact H) | exact H
        have Ny292 := am hy292; clear hy292
        have H' := am H
        clear H; obtain ⟨HGz26, hgz26⟩ := HI0.out; have hcz26_0 := cellS47_0 HGz26; have hcz26_1 := cellS47_1 HGz26; have hfz26_1 := blk_frozen HGz26 1; clear HGz26 hgz26
        have p290 : 0 ≤ (x7_2 : Int) := dga
        have q290 : x7_2 < (s0_1.length : Int) := dga
        obtain ⟨ad290, e290, hx290_0, hx290_1, hx290_2⟩ := at_T81 (Kd.C_foot_now HR0_1.out HK.out) x7_2 p290 q290; cases e290; replace p290 := eq_true p290; replace q290 := eq_true q290; have hnb27 := NB278_0.out; have hnc27 := NB0_278.out; obtain ⟨hcz28_0, hcz28_1, hcz28_2⟩ := cl3 BK278.out; obtain ⟨hfz28_0, hfz28_1, hfz28_2⟩ := fr3 BK278.out
        have p291 : 0 ≤ (x7_2 : Int) := dga
        have q291 : x7_2 < (s0_1.length : Int) := dga
        obtain ⟨ad291, e291, hx291_0, hx291_1, hx291_2⟩ := at_T81 (Kd.C_foot_now HR0_1.out HK.out) x7_2 p291 q291; obtain rfl : ad290 = ad291 := (by injection e291); replace p291 := eq_true p291; replace q291 := eq_true q291
        go_wp2_with (first | ((with_reducible refine gate_builtin (b := .append) (xs := #[.tmp 63, .tmp 71]) rfl ?_); at_builtin; refine Kd.R_append k81 w.heap.size rfl (.tmp 63) (.tmp 71) 45 81 (.agg #[(.string ⟨#[]⟩), (.string ⟨#[]⟩), (.int .i64 0)]) 40 rfl Try.underlying45 info81 rfl (by decide) (by omega) u5 x5_2 (⟨(rd_T81 s0_1 x7_2).f0, (rd_T81 s0_1 x7_2).f1, (rd_T81 s0_1 x7_2).f2⟩ : S81) [.string ((rd_T81 s0_1 x7_2).f0), .string ((rd_T81 s0_1 x7_2).f1), .int .i64 ((rd_T81 s0_1 x7_2).f2)] (fun k_ => k_ ≠ gb278) (fun _ => False) rfl rfl ?aP (fun _ hk => hk.elim) ?aF ?aO (Below.refl _ _) ?aS ?aL ?_; (case aP => exact B10x15_); (case aF => exact B10x6_); (case aO => exact (tr HO_5.out)); (case aS => exact B10x8_); (case aL => have := LMc25.out; omega); intro v293 w29 ho hb hg hat; rw [← Ny292.out] at ho; replace BK278 := am (blk_grown (g := gb278) (o := .cells #[.string a1_0, .string a1_1, .int .i64 a1_2] 81 (0, 0)) (tb BK278.out) hg (Kd.R_away HO_5.out (fun _ hk => hk))); replace HB := am (below_weaken (te2 HB.out (IsS47.ge HI0.out) GE278.out) HL.out hb); replace HI0 := am (IsS47.grown B10x4_ hg (IsS47.own_ne HI0.out HO_5.out (by decide))); replace HK := am (KeepBut.trans (tk1 HK.out GW278.out) (KeepBut.of_grown hg g) (Kd.R_base2 HO_5.out)); have HO294 := am (ho); clear HO_5; clear ho hb hg hat))
        repeat (go_quiet (first | ((with_reducible refine gate_builtin (b := .append) (xs := #[.tmp 63, .tmp 71]) rfl ?_); at_builtin; refine Kd.R_append k81 w.heap.size rfl (.tmp 63) (.tmp 71) 45 81 (.agg #[(.string ⟨#[]⟩), (.string ⟨#[]⟩), (.int .i64 0)]) 40 rfl Try.underlying45 info81 rfl (by decide) (by omega) u5 x5_2 (⟨(rd_T81 s0_1 x7_2).f0, (rd_T81 s0_1 x7_2).f1, (rd_T81 s0_1 x7_2).f2⟩ : S81) [.string ((rd_T81 s0_1 x7_2).f0), .string ((rd_T81 s0_1 x7_2).f1), .int .i64 ((rd_T81 s0_1 x7_2).f2)] (fun k_ => k_ ≠ gb278) (fun _ => False) rfl rfl ?aP (fun _ hk => hk.elim) ?aF ?aO (Below.refl _ _) ?aS ?aL ?_; (case aP => exact B10x15_); (case aF => exact B10x6_); (case aO => exact (tr HO_5.out)); (case aS => exact B10x8_); (case aL => have := LMc25.out; omega); intro v293 w29 ho hb hg hat; rw [← Ny292.out] at ho; replace BK278 := am (blk_grown (g := gb278) (o := .cells #[.string a1_0, .string a1_1, .int .i64 a1_2] 81 (0, 0)) (tb BK278.out) hg (Kd.R_away HO_5.out (fun _ hk => hk))); replace HB := am (below_weaken (te2 HB.out (IsS47.ge HI0.out) GE278.out) HL.out hb); replace HI0 := am (IsS47.grown B10x4_ hg (IsS47.own_ne HI0.out HO_5.out (by decide))); replace HK := am (KeepBut.trans (tk1 HK.out GW278.out) (KeepBut.of_grown hg g) (Kd.R_base2 HO_5.out)); have HO294 := am (ho); clear HO_5; clear ho hb hg hat)); try go_wp2_with (first | ((with_reducible refine gate_builtin (b := .append) (xs := #[.tmp 63, .tmp 71]) rfl ?_); at_builtin; refine Kd.R_append k81 w.heap.size rfl (.tmp 63) (.tmp 71) 45 81 (.agg #[(.string ⟨#[]⟩), (.string ⟨#[]⟩), (.int .i64 0)]) 40 rfl Try.underlying45 info81 rfl (by decide) (by omega) u5 x5_2 (⟨(rd_T81 s0_1 x7_2).f0, (rd_T81 s0_1 x7_2).f1, (rd_T81 s0_1 x7_2).f2⟩ : S81) [.string ((rd_T81 s0_1 x7_2).f0), .string ((rd_T81 s0_1 x7_2).f1), .int .i64 ((rd_T81 s0_1 x7_2).f2)] (fun k_ => k_ ≠ gb278) (fun _ => False) rfl rfl ?aP (fun _ hk => hk.elim) ?aF ?aO (Below.refl _ _) ?aS ?aL ?_; (case aP => exact B10x15_); (case aF => exact B10x6_); (case aO => exact (tr HO_5.out)); (case aS => exact B10x8_); (case aL => have := LMc25.out; omega); intro v293 w29 ho hb hg hat; rw [← Ny292.out] at ho; replace BK278 := am (blk_grown (g := gb278) (o := .cells #[.string a1_0, .string a1_1, .int .i64 a1_2] 81 (0, 0)) (tb BK278.out) hg (Kd.R_away HO_5.out (fun _ hk => hk))); replace HB := am (below_weaken (te2 HB.out (IsS47.ge HI0.out) GE278.out) HL.out hb); replace HI0 := am (IsS47.grown B10x4_ hg (IsS47.own_ne HI0.out HO_5.out (by decide))); replace HK := am (KeepBut.trans (tk1 HK.out GW278.out) (KeepBut.of_grown hg g) (Kd.R_base2 HO_5.out)); have HO294 := am (ho); clear HO_5; clear ho hb hg hat)))
        go_roundg k2
        case measure => have := HK1.out; have := HK2.out; omega
        case rel => exact ⟨(y292), (wrap64 (x7_2 + 1)), (be_), H', ⟨(by have := HK1.out; have := HK2.out; omega)⟩, ⟨(tr HO294.out)⟩, ⟨(tb BK278.out)⟩, ⟨B10x3_⟩, ⟨(tk1 HK.out GW278.out)⟩, ⟨(te2 HB.out (IsS47.ge HI0.out) GE278.out)⟩⟩
       ·rw [if_neg c24] at H
        have c24b0 : (Op.bytesLess a1_0.toList (((rd_T81 s0_1 x7_2).f0).toList)) = false := by simpa using c24
        clear c24
        have H' := am H
        clear H; obtain ⟨HGz30, hgz30⟩ := HI0.out; have hcz30_0 := cellS47_0 HGz30; have hcz30_1 := cellS47_1 HGz30; have hfz30_1 := blk_frozen HGz30 1; clear HGz30 hgz30
        have p290 : 0 ≤ (x7_2 : Int) := dga
        have q290 : x7_2 < (s0_1.length : Int) := dga
        obtain ⟨ad290, e290, hx290_0, hx290_1, hx290_2⟩ := at_T81 (Kd.C_foot_now HR0_1.out HK.out) x7_2 p290 q290; cases e290; replace p290 := eq_true p290; replace q290 := eq_true q290; have hnb31 := NB278_0.out; have hnc31 := NB0_278.out; obtain ⟨hcz32_0, hcz32_1, hcz32_2⟩ := cl3 BK278.out; obtain ⟨hfz32_0, hfz32_1, hfz32_2⟩ := fr3 BK278.out
        go_wp2
        repeat (go_quiet (fail); try go_wp2)
        go_roundg k2
        case measure => have := HK1.out; have := HK2.out; omega
        case rel => exact ⟨(x5_2), (wrap64 (x7_2 + 1)), (be_), H', ⟨(by have := HK1.out; have := HK2.out; omega)⟩, ⟨(tr HO_5.out)⟩, ⟨(tb BK278.out)⟩, ⟨B10x3_⟩, ⟨(tk1 HK.out GW278.out)⟩, ⟨(te2 HB.out (IsS47.ge HI0.out) GE278.out)⟩⟩
      ·rw [if_neg c22] at H
       have c22b0 : decide (x7_2 < (s0_1.length : Int)) = false := decide_eq_false c22
       clear c22
       by_cases c33 : (x5_2.length : Int) > 8
       ·rw [if_pos c33] at H
        have c33b0 : decide (8 < (x5_2.length : Int)) = true := decide_eq_true c33
        have c33b1 : decide (8 < x5_2.length) = true := decide_eq_true (by omega)
        clear c33; simp only [Option.some.injEq, Prod.mk.injEq] at H; obtain ⟨rfl, rfl⟩ := H; obtain ⟨HGz34, hgz34⟩ := HI0.out; have hcz34_0 := cellS47_0 HGz34; have hcz34_1 := cellS47_1 HGz34; have hfz34_1 := blk_frozen HGz34 1; clear HGz34 hgz34; obtain ⟨Ao35, co35, eo35⟩ := Kd.R_slice HO_5.out; subst eo35
        go_wp2
        repeat (go_quiet (fail); try go_wp2)
        go_ret; exact ⟨_, B10x17_, B10x3_, Kd.R_keep HOW.out (tk1 HK.out GW278.out) (fun _ h_ => h_), (te2 HB.out (IsS47.ge HI0.out) GE278.out), (tk1 HK.out GW278.out)⟩
       ·rw [if_neg c33] at H
        have c33b0 : decide (8 < (x5_2.length : Int)) = false := decide_eq_false c33
        have c33b1 : decide (8 < x5_2.length) = false := decide_eq_false (by omega)
        clear c33; simp only [Option.some.injEq, Prod.mk.injEq] at H; obtain ⟨rfl, rfl⟩ := H; obtain ⟨HGz36, hgz36⟩ := HI0.out; have hcz36_0 := cellS47_0 HGz36; have hcz36_1 := cellS47_1 HGz36; have hfz36_1 := blk_frozen HGz36 1; clear HGz36 hgz36; obtain ⟨Ao37, co37, eo37⟩ := Kd.R_slice HO_5.out; subst eo37
        go_wp2
        repeat (go_quiet (fail); try go_wp2)
        go_ret
        exact ⟨_, B10x17_, B10x3_, (by first | exact Kd.R_lower (Kd.R_mono (IsS47.apart (show IsS47 w0 _ g (.slice A0_0 s0_0.length c0_0) (.slice Ao37 x5_2.length co37) from B10x3_) (tr (Kd.R_mono (Kd.R_far (p := ⟨g, 1, none⟩) (IsS47.apart HI0.out HO_5.out (by decide)) (fun _ hk => hk.2) (.slice Ao37 x5_2.length co37)) (fun _ h_ => h_.1))) (by decide)) (fun _ h_ => h_.2)) HL.out | exact Kd.R_mono (IsS47.apart (show IsS47 w0 _ g (.slice A0_0 s0_0.length c0_0) (.slice Ao37 x5_2.length co37) from B10x3_) (tr (Kd.R_mono (Kd.R_far (p := ⟨g, 1, none⟩) (IsS47.apart HI0.out HO_5.out (by decide)) (fun _ hk => hk.2) (.slice Ao37 x5_2.length co37)) (fun _ h_ => h_.1))) (by decide)) (fun _ h_ => h_.2)), (te2 HB.out (IsS47.ge HI0.out) GE278.out), (tk1 HK.out GW278.out)⟩

end Go.Proofs.Ytgffdijodnpolaa.QFnSameKeeps
