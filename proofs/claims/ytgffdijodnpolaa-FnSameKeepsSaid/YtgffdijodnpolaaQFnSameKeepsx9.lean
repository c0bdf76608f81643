/- Functions that a law reaches, as functions of Lean, and the walks that show that the calls come to their answers: written by a program of this project out of the translation. No condition. -/
import Derived.Test.YtgffdijodnpolaaQFnSameKeepsx0
import Derived.Test.YtgffdijodnpolaaQFnSameKeepsx3
import Derived.Test.YtgffdijodnpolaaQFnSameKeepsx8
import Derived.Test.YtgffdijodnpolaaVFnSameKeepsShort4
import Derived.Test.YtgffdijodnpolaaVFnSameKeepshort3
import Derived.Test.YtgffdijodnpolaaVFnSameKeepsShort2
import Derived.Test.YtgffdijodnpolaaVFnSameKeepsShort
import Derived.Test.YtgffdijodnpolaaVFnSameKeepshort5
namespace Go.Proofs.Ytgffdijodnpolaa.QFnSameKeeps
open Go.RowKit Go.Proofs.YtgffdijodnpolaaW.PrintWords Go.Proofs.YtgffdijodnpolaaW.PrintLast Go.Proofs.YtgffdijodnpolaaW.PrintMore Go.Proofs.Ytgffdijodnpolaa.Short
attribute [local go_sem] gtrS max2_int min2_int max_two min_two max_three min_three max_four min_four   -- for this text's walks alone
set_option linter.unusedVariables false
set_option linter.unusedSimpArgs false

theorem B9x13_ {p : Prop} (h : p := by (with_reducible repeat (first | apply Kd.R_alloc | apply Kd.R_drewN | apply Kd.R_drew)); exact Kd.R_mono HO_250000.out (fun _ hk => ⟨trivial, hk⟩)) : p := h
theorem B9x15_ {p : Prop} (h : p := by (with_reducible repeat (first | apply Kd.R_alloc | apply Kd.R_drewN | apply Kd.R_drew)); exact Kd.R_mono HO_250000.out (fun _ hk => hk.2)) : p := h
theorem B9x19_ {p : Prop} (h : p := by exact (fun k_ hk => Kd.fresh' (Kd.R_lt (tr HO_250000.out)) k_ hk)) : p := h
theorem B9x21_ {p : Prop} (h : p := by first | rfl | (simp [errW_none, errW_some] <;> rfl) | (simp [*, errW_none, errW_some] <;> rfl)) : p := h
theorem B9x22_ {p : Prop} (h : p := by exact (below_size (te3 HB.out GE241.out GE242.out GE249.out))) : p := h
/-! ### spec_l15Open: function 106 -/
mutual
def spec_l15Open.l0 : Nat → Int → List (S83) → Int → List (S83) → List (S81) → List (S83) → List (S81) → Option ((List (S83)) × (List (S81)) × ByteArray)
 | 0, _, _, _, _, _, _, _ => none
 | k + 1, x1, x7, x8, x242000, x242001, x250000, x250001 => if x8 < (x242000.length : Int) then (if 0 ≤ x8 then (if ((rd_T83 x242000 x8).f0) < x1 then (if x7.length < 4398046511104 then (spec_l15Open.l0 k x1 (x7 ++ [(⟨(rd_T83 x242000 x8).f0, (rd_T83 x242000 x8).f1, (rd_T83 x242000 x8).f2⟩ : S83)]) (wrap64 (x8 + 1)) x242000 x242001 x250000 x250001) else (none)) else (spec_l15Open.l0 k x1 x7 (wrap64 (x8 + 1)) x242000 x242001 x250000 x250001)) else (none)) else (if x7.length < 4398046511104 then (spec_l15Open.l1 k x1 (x7 ++ [(⟨x1, 0, (⟨#[]⟩ : ByteArray)⟩ : S83)]) 0 x242000 x242001 x250000 x250001) else (none))
def spec_l15Open.l1 : Nat → Int → List (S83) → Int → List (S83) → List (S81) → List (S83) → List (S81) → Option ((List (S83)) × (List (S81)) × ByteArray)
 | 0, _, _, _, _, _, _, _ => none
 | k + 1, x1, x7, x9, x242000, x242001, x250000, x250001 => if x9 < (x242000.length : Int) then (if 0 ≤ x9 then (if ((rd_T83 x242000 x9).f0) > x1 then (if x7.length < 4398046511104 then (spec_l15Open.l1 k x1 (x7 ++ [(⟨(rd_T83 x242000 x9).f0, (rd_T83 x242000 x9).f1, (rd_T83 x242000 x9).f2⟩ : S83)]) (wrap64 (x9 + 1)) x242000 x242001 x250000 x250001) else (none)) else (spec_l15Open.l1 k x1 x7 (wrap64 (x9 + 1)) x242000 x242001 x250000 x250001)) else (none)) else (if (x7.length : Int) > 3 then ((some (([] : List (S83)) : List (S83))).bind fun y266 => (if 1 ≤ (x7.length : Int) then ((some (x7.drop 1 : List (S83))).bind fun y269 => (if y266.length + y269.length < 4398046511104 then ((spec_Decimal.f k x1).bind fun t276 => (if 5 + t276.size ≤ 9223372036854775807 then (some ((y266 ++ y269), x250001, (⟨#[111, 112, 101, 110, 32]⟩ : ByteArray) ++ t276)) else (none))) else (none))) else (none))) else ((spec_Decimal.f k x1).bind fun t277 => (if 5 + t277.size ≤ 9223372036854775807 then (some (x7, x250001, (⟨#[111, 112, 101, 110, 32]⟩ : ByteArray) ++ t277)) else (none))))
end
def spec_l15Open.f (k : Nat) (l0_0 : List (S83)) (l0_1 : List (S81)) (a1 : Int) : Option ((List (S83)) × (List (S81)) × ByteArray) := (spec_l15Copy.f l0_0 l0_1).bind fun bt243 => (spec_l15Open.l0 k a1 (([] : List (S83))) 0 l0_0 l0_1 bt243.1 bt243.2)
theorem spec_l15Open.mono_l : ∀ k, (∀ y0 y1 y2 y3 y4 y5 y6, LeO (spec_l15Open.l0 k y0 y1 y2 y3 y4 y5 y6) (spec_l15Open.l0 (k + 1) y0 y1 y2 y3 y4 y5 y6)) ∧ (∀ y0 y1 y2 y3 y4 y5 y6, LeO (spec_l15Open.l1 k y0 y1 y2 y3 y4 y5 y6) (spec_l15Open.l1 (k + 1) y0 y1 y2 y3 y4 y5 y6))
 | 0 => ⟨fun _ _ _ _ _ _ _ r h => by simp [spec_l15Open.l0] at h, fun _ _ _ _ _ _ _ r h => by simp [spec_l15Open.l1] at h⟩
 | k + 1 => by
  obtain ⟨ih0, ih1⟩ := spec_l15Open.mono_l k
  refine ⟨?_, ?_⟩ <;> intros <;> (first | unfold spec_l15Open.l0 | unfold spec_l15Open.l1) <;> repeat' (with_reducible first | exact ih0 .. | exact ih1 .. | exact spec_Decimal.mono _ _ | exact LeO.refl _ | exact LeO.none _ | refine LeO.ite ?_ ?_ | refine LeO.bind ?_ (fun _ => ?_))
theorem spec_l15Open.mono : ∀ a0 a1 a2 k, LeO (spec_l15Open.f k a0 a1 a2) (spec_l15Open.f (k + 1) a0 a1 a2) := by
 intro a0 a1 a2 k
 obtain ⟨ih0, ih1⟩ := spec_l15Open.mono_l k
 unfold spec_l15Open.f
 repeat' (with_reducible first | exact ih0 .. | exact ih1 .. | exact spec_Decimal.mono _ _ | exact LeO.refl _ | exact LeO.none _ | refine LeO.ite ?_ ?_ | refine LeO.bind ?_ (fun _ => ?_))
set_option maxHeartbeats 8000000 in
set_option maxRecDepth 100000 in
theorem spec_l15Open.calls (k : Nat) (A0_0 : Option Addr) (c0_0 : Nat) (l0_0 : List (S83)) (A0_1 : Option Addr) (c0_1 : Nat) (l0_1 : List (S81)) (a1 : Int) (r1 : List (S83)) (r2 : List (S81)) (r3 : ByteArray) (w : World) (hr0_0 : Kd.C k83 w A0_0 l0_0.length l0_0) (hc0_0 : l0_0.length ≤ c0_0) (hr0_1 : Kd.C k81 w A0_1 l0_1.length l0_1) (hc0_1 : l0_1.length ≤ c0_1) (h : spec_l15Open.f k l0_0 l0_1 a1 = some (r1, r2, r3)) :
  Calls Try.prog 106 #[.agg #[.slice A0_0 l0_0.length c0_0, .slice A0_1 l0_1.length c0_1], .int .i64 a1] w fun e w' => ∃ v0_ v1_ : Value, e = .returned (.tuple #[.agg #[v0_, v1_], .string r3]) ∧ Kd.R k83 83 w' w.heap.size (fun _ => True) v0_ r1 ∧ Kd.R k81 81 w' w.heap.size (fun _ => True) v1_ r2 ∧ Below w.heap.size w w' := by
 have hu47 := Try.underlying47
 have hu83 := Try.underlying83
 have HR0_0 := am hr0_0
 have HC0_0 := am hc0_0
 clear hr0_0 hc0_0
 have HR0_1 := am hr0_1
 have HC0_1 := am hc0_1
 clear hr0_1 hc0_1
 have HB := am (Below.refl w.heap.size w)
 have H : ((spec_l15Copy.f l0_0 l0_1).bind fun bt243 => (spec_l15Open.l0 k a1 (([] : List (S83))) 0 l0_0 l0_1 bt243.1 bt243.2)) = some (r1, r2, r3) := h
 clear h
 replace H := bsi H
 obtain ⟨⟨t243, t246⟩, A3, H⟩ := H
 (try dsimp only at H)
 obtain ⟨y250, hy250⟩ : ∃ y_ : List (S83), y_ = (([] : List (S83))) := ⟨_, rfl⟩
 replace H : (spec_l15Open.l0 k a1 y250 0 l0_0 l0_1 t243 t246) = some (r1, r2, r3) := by first | (rw [hy250]; with_reducible exact H) | (have H2_ := (Option.bind_some _ _).symm.trans H; rw [hy250]; with_reducible exact H2_) | (have H2_ := (Option.bind_some _ _).symm.trans H; with_reducible exact H2_) | with_reducible exact H | (rw [hy250]; exact H) | exact H
 have Ny250 := am hy250
 clear hy250
 have H' := am H
 clear H
 go_enter Try.func106, Try.ntmps106
 go_wp2_with (first | ((with_reducible refine gate_dst (N := 2) rfl ?_); refine bx (N := 2) (cs := #[.slice A0_0 l0_0.length c0_0, .slice A0_1 l0_1.length c0_1]) (t := 47) ?_; intro gb241 hg w4 hbox hb; have BK241 := am (hbox); have GW241 := am ((bs hg (below_size HB.out))); have GE241 := am ((bs hg (below_size HB.out))); replace HB := am (below_step (te0 HB.out) hb); clear hb hbox hg) | ((with_reducible refine gate_dst (N := 4) rfl ?_); refine bx (N := 4) (cs := #[.slice none 0 0, .slice none 0 0]) (t := 47) ?_; intro gb242 hg w5 hbox hb; have BK242 := am (hbox); have GW242 := am ((bs hg (below_size HB.out))); have GE242 := am ((bs hg (below_size HB.out))); replace HB := am (below_step (te1 HB.out GE241.out) hb); have NB241_242 := am ((nl hg (blk_lt BK241.out))); have NB242_241 := am ((ng hg (blk_lt BK241.out))); replace BK241 := am (bb BK241.out hb); clear hb hbox hg; have hnb6 := NB241_242.out; have hnc6 := NB242_241.out; obtain ⟨hcz7_0, hcz7_1⟩ := cl2 BK241.out; obtain ⟨hfz7_0, hfz7_1⟩ := fr2 BK241.out) | ((with_reducible refine gate_callee (f := 58) rfl ?_); refine goesL_ (some 11) rfl rfl Try.func58 gk_ rfl #[.agg #[.slice A0_0 l0_0.length c0_0, .slice A0_1 l0_1.length c0_1]] rfl gm_ ?_; (with_reducible refine (spec_l15Copy.calls _ _ l0_0 _ _ l0_1 t243 t246 _ ?side1 ?side2 ?side3 ?side4 A3.out).mono ?_); (case side1 => repeat (first | exact (Kd.C_below HR0_0.out HB.out) | (with_reducible refine Kd.C_alloc ?_ _) | (with_reducible refine Kd.C_drewN ?_ _) | (with_reducible refine Kd.C_drew ?_))); (case side2 => exact HC0_0.out); (case side3 => repeat (first | exact (Kd.C_below HR0_1.out HB.out) | (with_reducible refine Kd.C_alloc ?_ _) | (with_reducible refine Kd.C_drewN ?_ _) | (with_reducible refine Kd.C_drew ?_))); (case side4 => exact HC0_1.out); rintro e w8 ⟨v244, v247, rfl, ho0, ho1, hb⟩; refine ⟨_, rfl, ?_⟩; have HO245 := am (Kd.R_lower ho0 (below_size (te2 HB.out GE241.out GE242.out))); have HO248 := am (Kd.R_lower ho1 (below_size (te2 HB.out GE241.out GE242.out))); replace BK241 := am (bb BK241.out hb); replace BK242 := am (bb BK242.out hb); replace HB := am (below_step (te2 HB.out GE241.out GE242.out) hb); (try clear hb); (try clear hl); (try clear ho0); (try clear ho1)) | ((with_reducible refine gate_dst (N := 6) rfl ?_); refine bx (N := 6) (cs := #[.slice none 0 0, .slice none 0 0]) (t := 47) ?_; intro gb249 hg w9 hbox hb; replace HO245 := am (Kd.R_below (tr HO245.out) hb); replace HO248 := am (Kd.R_below (tr HO248.out) hb); have BK249 := am (hbox); have GW249 := am ((bs hg (below_size HB.out))); have GE249 := am ((bs hg (below_size HB.out))); replace HB := am (below_step (te2 HB.out GE241.out GE242.out) hb); have NB241_249 := am ((nl hg (blk_lt BK241.out))); have NB249_241 := am ((ng hg (blk_lt BK241.out))); replace BK241 := am (bb BK241.out hb); have NB242_249 := am ((nl hg (blk_lt BK242.out))); have NB249_242 := am ((ng hg (blk_lt BK242.out))); replace BK242 := am (bb BK242.out hb); clear hb hbox hg; obtain ⟨Ao10, co10, eo10⟩ := Kd.R_slice HO245.out; subst eo10; have hnb11 := NB249_241.out; have hnc11 := NB241_249.out; have hnb12 := NB249_242.out; have hnc12 := NB242_249.out; obtain ⟨hcz13_0, hcz13_1⟩ := cl2 BK249.out; obtain ⟨hfz13_0, hfz13_1⟩ := fr2 BK249.out; obtain ⟨Ao14, co14, eo14⟩ := Kd.R_slice HO248.out; subst eo14) | ((with_reducible refine gate_dst (N := 12) rfl ?_); refine Kd.R_lit k83 _ 83 ?hg (N := 12) ?hd (xs := ([] : List (S83))) (inner := []) (ok := fun _ => True) (okp := fun _ => True) ?hr ?hp (fun _ hk => hk) trivial (Below.refl _ _) (Nat.le_refl _) (by simp) ?_; (case hd => rfl); (case hg => rfl); (case hr => exact gs_); (case hp => exact (Reps.none _ _)); intro v251 w15 ho16 hb hg_ hnew_; clear hg_ hnew_; (first | rw [← Ny250.out] at ho16 | (simp only [Int.reduceToNat] at ho16; rw [← Ny250.out] at ho16)); replace HO248 := am (Kd.R_below (tfr HO248.out BK249.out (by decide)) hb); have HO252 := am (Kd.R_lower (Kd.R_new' ho16 (Kd.R_lt (tfr HO245.out BK249.out (by decide)))) (below_size (te3 HB.out GE241.out GE242.out GE249.out))); replace HO245 := am (Kd.R_elder' (tfr HO245.out BK249.out (by decide)) (Kd.R_base ho16) hb); replace BK241 := am (blk_below (g := gb241) (o := .cells #[.slice A0_0 l0_0.length c0_0, .slice A0_1 l0_1.length c0_1] 47 (0, 0)) (tp1 BK241.out NB241_249.out) hb); replace BK242 := am (blk_below (g := gb242) (o := .cells #[.slice none 0 0, .slice none 0 0] 47 (0, 0)) (tp1 BK242.out NB242_249.out) hb); replace BK249 := am (blk_below (g := gb249) (o := .cells #[.slice Ao10 t243.length co10, .slice Ao14 t246.length co14] 47 (0, 0)) (tp0 BK249.out) hb); replace HB := am (below_step (te3 HB.out GE241.out GE242.out GE249.out) hb); clear hb ho16))
 go_loopg [7, 8] k (fun kq v7 v8 w' => ∃ (x7_1 : List (S83)) (x8_1 : Int), v8 = .int .i64 x8_1 ∧ Aside0 (spec_l15Open.l0 kq a1 x7_1 x8_1 l0_0 l0_1 t243 t246 = some (r1, r2, r3)) ∧ Aside0 (kq ≤ k) ∧ Aside0 (Kd.R k83 83 w' w.heap.size (fun k_ => some k_ ≠ ((.slice Ao10 t243.length co10) : Value).ownBlock) v7 x7_1) ∧ Aside0 (Kd.R k83 83 w' w.heap.size (fun k_ => some k_ ≠ (v7 : Value).ownBlock) (.slice Ao10 t243.length co10) t243) ∧ Aside0 (Kd.R k81 81 w' w.heap.size (fun _ => True) (.slice Ao14 t246.length co14) t246) ∧ Aside0 (w'.heap[gb241]? = some (.cells #[(.slice A0_0 l0_0.length c0_0), (.slice A0_1 l0_1.length c0_1)] 47 (0, 0))) ∧ Aside0 (w'.heap[gb242]? = some (.cells #[(.slice none 0 0), (.slice none 0 0)] 47 (0, 0))) ∧ Aside0 (w'.heap[gb249]? = some (.cells #[(.slice Ao10 t243.length co10), (.slice Ao14 t246.length co14)] 47 (0, 0))) ∧ Aside0 (Below w.heap.size w w'))
 case atStart => exact ⟨(y250), (0), (be_), H', ⟨Nat.le_refl _⟩, ⟨(by (with_reducible repeat (first | apply Kd.R_alloc | apply Kd.R_drewN | apply Kd.R_drew)); exact Kd.R_mono HO252.out (fun _ hk => hk.2))⟩, ⟨(by (with_reducible repeat (first | apply Kd.R_alloc | apply Kd.R_drewN | apply Kd.R_drew)); exact Kd.R_mono HO245.out (fun _ hk => hk.2))⟩, ⟨(tr HO248.out)⟩, ⟨(tb BK241.out)⟩, ⟨(tb BK242.out)⟩, ⟨(tb BK249.out)⟩, ⟨(te3 HB.out GE241.out GE242.out GE249.out)⟩⟩
 case round =>
  clear H'
  try clear hcz13_0
  try clear hcz13_1
  try clear hcz7_0
  try clear hcz7_1
  try clear hfz13_0
  try clear hfz13_1
  try clear hfz7_0
  try clear hfz7_1
  obtain ⟨x7_1, x8_1, rfl, HA, HK1, HO_7, HO_250000, HO_250001, BK241, BK242, BK249, HB⟩ := hrel
  cases gk with
  | zero => exact absurd HA.out (by simp [spec_l15Open.l0])
  | succ k1 =>
   have H := HA.out; clear HA; simp only [spec_l15Open.l0] at H
   by_cases c17 : x8_1 < (l0_0.length : Int)
   ·rw [if_pos c17] at H
    have c17b0 : decide (x8_1 < (l0_0.length : Int)) = true := decide_eq_true c17
    clear c17
    by_cases c18 : 0 ≤ x8_1
    rotate_left
    ·rw [if_neg c18] at H; exact absurd H (by simp)
    rw [if_pos c18] at H
    have c18b0 : decide (0 ≤ x8_1) = true := decide_eq_true c18
    clear c18
    by_cases c19 : ((rd_T83 l0_0 x8_1).f0) < a1
    ·rw [if_pos c19] at H
     have c19b0 : decide (((rd_T83 l0_0 x8_1).f0) < a1) = true := decide_eq_true c19
     clear c19
     by_cases c20 : x7_1.length < 4398046511104
     rotate_left
     ·rw [if_neg c20] at H; exact absurd H (by simp)
     rw [if_pos c20] at H; have LMc20 := am c20; clear c20; obtain ⟨y255, hy255⟩ : ∃ y_ : List (S83), y_ = (x7_1 ++ [(⟨(rd_T83 l0_0 x8_1).f0, (rd_T83 l0_0 x8_1).f1, (rd_T83 l0_0 x8_1).f2⟩ : S83)]) := ⟨_, rfl⟩
     replace H : (spec_l15Open.l0 k1 a1 y255 (wrap64 (x8_1 + 1)) l0_0 l0_1 t243 t246) = some (r1, r2, r3) := by first | (rw [hy255]; with_reducible exact H) | (have H2_ := (Option.bind_some _ _).symm.trans H; rw [hy255]; with_reducible exact H2_) | (have H2_ := (Option.bind_some _ _).symm.trans H; with_reducible exact H2_) | with_reducible exact H | (rw [hy255]; exact H) | exact H
     have Ny255 := am hy255; clear hy255
     have H' := am H
     clear H; have hnb21 := NB241_242.out; have hnc21 := NB242_241.out; have hnb22 := NB241_249.out; have hnc22 := NB249_241.out; obtain ⟨hcz23_0, hcz23_1⟩ := cl2 BK241.out; obtain ⟨hfz23_0, hfz23_1⟩ := fr2 BK241.out
     have p253 : 0 ≤ (x8_1 : Int) := dga
     have q253 : x8_1 < (l0_0.length : Int) := dga
     obtain ⟨ad253, e253, hx253_0, hx253_1, hx253_2⟩ := at_T83 HR0_0.out x8_1 p253 q253; cases e253; replace hx253_0 := (HB.out.cell (World.block_lt_of_cell? w _ hx253_0)).trans hx253_0; replace hx253_1 := (HB.out.cell (World.block_lt_of_cell? w _ hx253_1)).trans hx253_1; replace hx253_2 := (HB.out.cell (World.block_lt_of_cell? w _ hx253_2)).trans hx253_2; replace p253 := eq_true p253; replace q253 := eq_true q253
     have p254 : 0 ≤ (x8_1 : Int) := dga
     have q254 : x8_1 < (l0_0.length : Int) := dga
     obtain ⟨ad254, e254, hx254_0, hx254_1, hx254_2⟩ := at_T83 HR0_0.out x8_1 p254 q254; obtain rfl : ad253 = ad254 := (by injection e254); replace hx254_0 := (HB.out.cell (World.block_lt_of_cell? w _ hx254_0)).trans hx254_0; replace hx254_1 := (HB.out.cell (World.block_lt_of_cell? w _ hx254_1)).trans hx254_1; replace hx254_2 := (HB.out.cell (World.block_lt_of_cell? w _ hx254_2)).trans hx254_2; replace p254 := eq_true p254; replace q254 := eq_true q254
     go_wp2_with (first | ((with_reducible refine gate_builtin (b := .append) (xs := #[.tmp 28, .tmp 34]) rfl ?_); at_builtin; refine Kd.R_append k83 (w0 := w) w.heap.size rfl (.tmp 28) (.tmp 34) 44 83 (.agg #[(.int .i64 0), (.int .i64 0), (.string ⟨#[]⟩)]) 32 rfl Try.underlying44 info83 rfl (by decide) (by omega) u7 x7_1 (⟨(rd_T83 l0_0 x8_1).f0, (rd_T83 l0_0 x8_1).f1, (rd_T83 l0_0 x8_1).f2⟩ : S83) [.int .i64 ((rd_T83 l0_0 x8_1).f0), .int .i64 ((rd_T83 l0_0 x8_1).f1), .string ((rd_T83 l0_0 x8_1).f2)] (fun k_ => some k_ ≠ (.slice Ao10 t243.length co10 : Value).ownBlock) (fun _ => False) rfl rfl ?aP (fun _ hk => hk.elim) ?aF ?aO ?aB ?aS ?aL ?_; (case aP => exact k83_mkM _ _ _ (⟨(rd_T83 l0_0 x8_1).f0, (rd_T83 l0_0 x8_1).f1, (rd_T83 l0_0 x8_1).f2⟩ : S83)); (case aB => exact (te3 HB.out GE241.out GE242.out GE249.out)); (case aF => exact B9x19_); (case aO => exact (tr HO_7.out)); (case aS => exact B9x22_); (case aL => have := LMc20.out; omega); intro v256 w24 ho hb hg hat; rw [← Ny255.out] at ho; replace HO_250000 := am (Kd.R_after (ok := (fun _ => True)) B9x13_ hg hat); replace HO_250001 := am (Kd.R_over' (tr HO_250001.out) (Kd.R_typed (tr HO_7.out)) (by decide) hg); replace BK241 := am (blk_grown (g := gb241) (o := .cells #[.slice (some ad253) l0_0.length c0_0, .slice A0_1 l0_1.length c0_1] 47 (0, 0)) (tb BK241.out) hg (Kd.R_ne HO_7.out BK241.out (by decide))); replace BK242 := am (blk_grown (g := gb242) (o := .cells #[.slice none 0 0, .slice none 0 0] 47 (0, 0)) (tb BK242.out) hg (Kd.R_ne HO_7.out BK242.out (by decide))); replace BK249 := am (blk_grown (g := gb249) (o := .cells #[.slice Ao10 t243.length co10, .slice Ao14 t246.length co14] 47 (0, 0)) (tb BK249.out) hg (Kd.R_ne HO_7.out BK249.out (by decide))); replace HB := am (hb); have HO257 := am (ho); clear HO_7; clear ho hb hg hat))
     go_roundg k1
     case measure => have := HK1.out; omega
     case rel => exact ⟨(y255), (wrap64 (x8_1 + 1)), (be_), H', ⟨(by have := HK1.out; omega)⟩, ⟨(tr HO257.out)⟩, ⟨B9x15_⟩, ⟨(tr HO_250001.out)⟩, ⟨(tb BK241.out)⟩, ⟨(tb BK242.out)⟩, ⟨(tb BK249.out)⟩, ⟨(te3 HB.out GE241.out GE242.out GE249.out)⟩⟩
    ·rw [if_neg c19] at H
     have c19b0 : decide (((rd_T83 l0_0 x8_1).f0) < a1) = false := decide_eq_false c19
     clear c19
     have H' := am H
     clear H; have hnb25 := NB241_242.out; have hnc25 := NB242_241.out; have hnb26 := NB241_249.out; have hnc26 := NB249_241.out; obtain ⟨hcz27_0, hcz27_1⟩ := cl2 BK241.out; obtain ⟨hfz27_0, hfz27_1⟩ := fr2 BK241.out
     have p253 : 0 ≤ (x8_1 : Int) := dga
     have q253 : x8_1 < (l0_0.length : Int) := dga
     obtain ⟨ad253, e253, hx253_0, hx253_1, hx253_2⟩ := at_T83 HR0_0.out x8_1 p253 q253; cases e253; replace hx253_0 := (HB.out.cell (World.block_lt_of_cell? w _ hx253_0)).trans hx253_0; replace hx253_1 := (HB.out.cell (World.block_lt_of_cell? w _ hx253_1)).trans hx253_1; replace hx253_2 := (HB.out.cell (World.block_lt_of_cell? w _ hx253_2)).trans hx253_2; replace p253 := eq_true p253; replace q253 := eq_true q253
     go_wp2
     go_roundg k1
     case measure => have := HK1.out; omega
     case rel => exact ⟨(x7_1), (wrap64 (x8_1 + 1)), (be_), H', ⟨(by have := HK1.out; omega)⟩, ⟨(tr HO_7.out)⟩, ⟨(tr HO_250000.out)⟩, ⟨(tr HO_250001.out)⟩, ⟨(tb BK241.out)⟩, ⟨(tb BK242.out)⟩, ⟨(tb BK249.out)⟩, ⟨(te3 HB.out GE241.out GE242.out GE249.out)⟩⟩
   ·rw [if_neg c17] at H
    have c17b0 : decide (x8_1 < (l0_0.length : Int)) = false := decide_eq_false c17
    clear c17
    by_cases c28 : x7_1.length < 4398046511104
    rotate_left
    ·rw [if_neg c28] at H; exact absurd H (by simp)
    rw [if_pos c28] at H; have LMc28 := am c28; clear c28; obtain ⟨y258, hy258⟩ : ∃ y_ : List (S83), y_ = (x7_1 ++ [(⟨a1, 0, (⟨#[]⟩ : ByteArray)⟩ : S83)]) := ⟨_, rfl⟩
    replace H : (spec_l15Open.l1 k1 a1 y258 0 l0_0 l0_1 t243 t246) = some (r1, r2, r3) := by first | (rw [hy258]; with_reducible exact H) | (have H2_ := (Option.bind_some _ _).symm.trans H; rw [hy258]; with_reducible exact H2_) | (have H2_ := (Option.bind_some _ _).symm.trans H; with_reducible exact H2_) | with_reducible exact H | (rw [hy258]; exact H) | exact H
    have Ny258 := am hy258; clear hy258
    have H' := am H
    clear H; have hnb29 := NB241_242.out; have hnc29 := NB242_241.out; have hnb30 := NB241_249.out; have hnc30 := NB249_241.out; obtain ⟨hcz31_0, hcz31_1⟩ := cl2 BK241.out; obtain ⟨hfz31_0, hfz31_1⟩ := fr2 BK241.out
    go_wp2_with (first | ((with_reducible refine gate_builtin (b := .append) (xs := #[.tmp 36, .tmp 39]) rfl ?_); at_builtin; refine Kd.R_append k83 (w0 := w) w.heap.size rfl (.tmp 36) (.tmp 39) 44 83 (.agg #[(.int .i64 0), (.int .i64 0), (.string ⟨#[]⟩)]) 32 rfl Try.underlying44 info83 rfl (by decide) (by omega) u7 x7_1 (⟨a1, 0, (⟨#[]⟩ : ByteArray)⟩ : S83) [.int .i64 a1, .int .i64 0, .string (⟨#[]⟩ : ByteArray)] (fun k_ => some k_ ≠ (.slice Ao10 t243.length co10 : Value).ownBlock) (fun _ => False) rfl rfl ?aP (fun _ hk => hk.elim) ?aF ?aO ?aB ?aS ?aL ?_; (case aP => exact k83_mkM _ _ _ (⟨a1, 0, (⟨#[]⟩ : ByteArray)⟩ : S83)); (case aB => exact (te3 HB.out GE241.out GE242.out GE249.out)); (case aF => exact B9x19_); (case aO => exact (tr HO_7.out)); (case aS => exact B9x22_); (case aL => have := LMc28.out; omega); intro v259 w32 ho hb hg hat; rw [← Ny258.out] at ho; replace HO_250000 := am (Kd.R_after (ok := (fun _ => True)) B9x13_ hg hat); replace HO_250001 := am (Kd.R_over' (tr HO_250001.out) (Kd.R_typed (tr HO_7.out)) (by decide) hg); replace BK241 := am (blk_grown (g := gb241) (o := .cells #[.slice A0_0 l0_0.length c0_0, .slice A0_1 l0_1.length c0_1] 47 (0, 0)) (tb BK241.out) hg (Kd.R_ne HO_7.out BK241.out (by decide))); replace BK242 := am (blk_grown (g := gb242) (o := .cells #[.slice none 0 0, .slice none 0 0] 47 (0, 0)) (tb BK242.out) hg (Kd.R_ne HO_7.out BK242.out (by decide))); replace BK249 := am (blk_grown (g := gb249) (o := .cells #[.slice Ao10 t243.length co10, .slice Ao14 t246.length co14] 47 (0, 0)) (tb BK249.out) hg (Kd.R_ne HO_7.out BK249.out (by decide))); replace HB := am (hb); have HO260 := am (ho); clear HO_7; clear ho hb hg hat))
    go_loopg [7, 9] k1 (fun kq v7 v9 w' => ∃ (x7_2 : List (S83)) (x9_2 : Int), v9 = .int .i64 x9_2 ∧ Aside0 (spec_l15Open.l1 kq a1 x7_2 x9_2 l0_0 l0_1 t243 t246 = some (r1, r2, r3)) ∧ Aside0 (kq ≤ k1) ∧ Aside0 (Kd.R k83 83 w' w.heap.size (fun k_ => some k_ ≠ ((.slice Ao10 t243.length co10) : Value).ownBlock) v7 x7_2) ∧ Aside0 (Kd.R k83 83 w' w.heap.size (fun k_ => some k_ ≠ (v7 : Value).ownBlock) (.slice Ao10 t243.length co10) t243) ∧ Aside0 (Kd.R k81 81 w' w.heap.size (fun _ => True) (.slice Ao14 t246.length co14) t246) ∧ Aside0 (w'.heap[gb241]? = some (.cells #[(.slice A0_0 l0_0.length c0_0), (.slice A0_1 l0_1.length c0_1)] 47 (0, 0))) ∧ Aside0 (w'.heap[gb242]? = some (.cells #[(.slice none 0 0), (.slice none 0 0)] 47 (0, 0))) ∧ Aside0 (w'.heap[gb249]? = some (.cells #[(.slice Ao10 t243.length co10), (.slice Ao14 t246.length co14)] 47 (0, 0))) ∧ Aside0 (Below w.heap.size w w'))
    case atStart => exact ⟨(y258), (0), (be_), H', ⟨Nat.le_refl _⟩, ⟨(tr HO260.out)⟩, ⟨B9x15_⟩, ⟨(tr HO_250001.out)⟩, ⟨(tb BK241.out)⟩, ⟨(tb BK242.out)⟩, ⟨(tb BK249.out)⟩, ⟨(te3 HB.out GE241.out GE242.out GE249.out)⟩⟩
    case round =>
     clear H'
     try clear c17
     try clear c17b0
     try clear c28
     try clear hcz13_0
     try clear hcz13_1
     try clear hcz31_0
     try clear hcz31_1
     try clear hcz7_0
     try clear hcz7_1
     try clear hfz13_0
     try clear hfz13_1
     try clear hfz31_0
     try clear hfz31_1
     try clear hfz7_0
     try clear hfz7_1
     obtain ⟨x7_2, x9_2, rfl, HA, HK2, HO_7, HO_250000, HO_250001, BK241, BK242, BK249, HB⟩ := hrel
     cases gk with
     | zero => exact absurd HA.out (by simp [spec_l15Open.l1])
     | succ k2 =>
      have H := HA.out; clear HA; simp only [spec_l15Open.l1] at H
      by_cases c33 : x9_2 < (l0_0.length : Int)
      ·rw [if_pos c33] at H
       have c33b0 : decide (x9_2 < (l0_0.length : Int)) = true := decide_eq_true c33
       clear c33
       by_cases c34 : 0 ≤ x9_2
       rotate_left
       ·rw [if_neg c34] at H; exact absurd H (by simp)
       rw [if_pos c34] at H
       have c34b0 : decide (0 ≤ x9_2) = true := decide_eq_true c34
       clear c34
       by_cases c35 : ((rd_T83 l0_0 x9_2).f0) > a1
       ·rw [if_pos c35] at H
        have c35b0 : decide (a1 < ((rd_T83 l0_0 x9_2).f0)) = true := decide_eq_true c35
        clear c35
        by_cases c36 : x7_2.length < 4398046511104
        rotate_left
        ·rw [if_neg c36] at H; exact absurd H (by simp)
        rw [if_pos c36] at H; have LMc36 := am c36; clear c36; obtain ⟨y263, hy263⟩ : ∃ y_ : List (S83), y_ = (x7_2 ++ [(⟨(rd_T83 l0_0 x9_2).f0, (rd_T83 l0_0 x9_2).f1, (rd_T83 l0_0 x9_2).f2⟩ : S83)]) := ⟨_, rfl⟩
        replace H : (spec_l15Open.l1 k2 a1 y263 (wrap64 (x9_2 + 1)) l0_0 l0_1 t243 t246) = some (r1, r2, r3) := by first | (rw [hy263]; with_reducible exact H) | (have H2_ := (Option.bind_some _ _).symm.trans H; rw [hy263]; with_reducible exact H2_) | (have H2_ := (Option.bind_some _ _).symm.trans H; with_reducible exact H2_) | with_reducible exact H | (rw [hy263]; exact H) | exact H
        have Ny263 := am hy263; clear hy263
        have H' := am H
        clear H; have hnb37 := NB241_242.out; have hnc37 := NB242_241.out; have hnb38 := NB241_249.out; have hnc38 := NB249_241.out; obtain ⟨hcz39_0, hcz39_1⟩ := cl2 BK241.out; obtain ⟨hfz39_0, hfz39_1⟩ := fr2 BK241.out
        have p261 : 0 ≤ (x9_2 : Int) := dga
        have q261 : x9_2 < (l0_0.length : Int) := dga
        obtain ⟨ad261, e261, hx261_0, hx261_1, hx261_2⟩ := at_T83 HR0_0.out x9_2 p261 q261; cases e261; replace hx261_0 := (HB.out.cell (World.block_lt_of_cell? w _ hx261_0)).trans hx261_0; replace hx261_1 := (HB.out.cell (World.block_lt_of_cell? w _ hx261_1)).trans hx261_1; replace hx261_2 := (HB.out.cell (World.block_lt_of_cell? w _ hx261_2)).trans hx261_2; replace p261 := eq_true p261; replace q261 := eq_true q261
        have p262 : 0 ≤ (x9_2 : Int) := dga
        have q262 : x9_2 < (l0_0.length : Int) := dga
        obtain ⟨ad262, e262, hx262_0, hx262_1, hx262_2⟩ := at_T83 HR0_0.out x9_2 p262 q262; obtain rfl : ad261 = ad262 := (by injection e262); replace hx262_0 := (HB.out.cell (World.block_lt_of_cell? w _ hx262_0)).trans hx262_0; replace hx262_1 := (HB.out.cell (World.block_lt_of_cell? w _ hx262_1)).trans hx262_1; replace hx262_2 := (HB.out.cell (World.block_lt_of_cell? w _ hx262_2)).trans hx262_2; replace p262 := eq_true p262; replace q262 := eq_true q262
        go_wp2_with (first | ((with_reducible refine gate_builtin (b := .append) (xs := #[.tmp 56, .tmp 62]) rfl ?_); at_builtin; refine Kd.R_append k83 (w0 := w) w.heap.size rfl (.tmp 56) (.tmp 62) 44 83 (.agg #[(.int .i64 0), (.int .i64 0), (.string ⟨#[]⟩)]) 32 rfl Try.underlying44 info83 rfl (by decide) (by omega) u7 x7_2 (⟨(rd_T83 l0_0 x9_2).f0, (rd_T83 l0_0 x9_2).f1, (rd_T83 l0_0 x9_2).f2⟩ : S83) [.int .i64 ((rd_T83 l0_0 x9_2).f0), .int .i64 ((rd_T83 l0_0 x9_2).f1), .string ((rd_T83 l0_0 x9_2).f2)] (fun k_ => some k_ ≠ (.slice Ao10 t243.length co10 : Value).ownBlock) (fun _ => False) rfl rfl ?aP (fun _ hk => hk.elim) ?aF ?aO ?aB ?aS ?aL ?_; (case aP => exact k83_mkM _ _ _ (⟨(rd_T83 l0_0 x9_2).f0, (rd_T83 l0_0 x9_2).f1, (rd_T83 l0_0 x9_2).f2⟩ : S83)); (case aB => exact (te3 HB.out GE241.out GE242.out GE249.out)); (case aF => exact B9x19_); (case aO => exact (tr HO_7.out)); (case aS => exact B9x22_); (case aL => have := LMc36.out; omega); intro v264 w40 ho hb hg hat; rw [← Ny263.out] at ho; replace HO_250000 := am (Kd.R_after (ok := (fun _ => True)) B9x13_ hg hat); replace HO_250001 := am (Kd.R_over' (tr HO_250001.out) (Kd.R_typed (tr HO_7.out)) (by decide) hg); replace BK241 := am (blk_grown (g := gb241) (o := .cells #[.slice (some ad261) l0_0.length c0_0, .slice A0_1 l0_1.length c0_1] 47 (0, 0)) (tb BK241.out) hg (Kd.R_ne HO_7.out BK241.out (by decide))); replace BK242 := am (blk_grown (g := gb242) (o := .cells #[.slice none 0 0, .slice none 0 0] 47 (0, 0)) (tb BK242.out) hg (Kd.R_ne HO_7.out BK242.out (by decide))); replace BK249 := am (blk_grown (g := gb249) (o := .cells #[.slice Ao10 t243.length co10, .slice Ao14 t246.length co14] 47 (0, 0)) (tb BK249.out) hg (Kd.R_ne HO_7.out BK249.out (by decide))); replace HB := am (hb); have HO265 := am (ho); clear HO_7; clear ho hb hg hat))
        go_roundg k2
        case measure => have := HK1.out; have := HK2.out; omega
        case rel => exact ⟨(y263), (wrap64 (x9_2 + 1)), (be_), H', ⟨(by have := HK1.out; have := HK2.out; omega)⟩, ⟨(tr HO265.out)⟩, ⟨B9x15_⟩, ⟨(tr HO_250001.out)⟩, ⟨(tb BK241.out)⟩, ⟨(tb BK242.out)⟩, ⟨(tb BK249.out)⟩, ⟨(te3 HB.out GE241.out GE242.out GE249.out)⟩⟩
       ·rw [if_neg c35] at H
        have c35b0 : decide (a1 < ((rd_T83 l0_0 x9_2).f0)) = false := decide_eq_false c35
        clear c35
        have H' := am H
        clear H; have hnb41 := NB241_242.out; have hnc41 := NB242_241.out; have hnb42 := NB241_249.out; have hnc42 := NB249_241.out; obtain ⟨hcz43_0, hcz43_1⟩ := cl2 BK241.out; obtain ⟨hfz43_0, hfz43_1⟩ := fr2 BK241.out
        have p261 : 0 ≤ (x9_2 : Int) := dga
        have q261 : x9_2 < (l0_0.length : Int) := dga
        obtain ⟨ad261, e261, hx261_0, hx261_1, hx261_2⟩ := at_T83 HR0_0.out x9_2 p261 q261; cases e261; replace hx261_0 := (HB.out.cell (World.block_lt_of_cell? w _ hx261_0)).trans hx261_0; replace hx261_1 := (HB.out.cell (World.block_lt_of_cell? w _ hx261_1)).trans hx261_1; replace hx261_2 := (HB.out.cell (World.block_lt_of_cell? w _ hx261_2)).trans hx261_2; replace p261 := eq_true p261; replace q261 := eq_true q261
        go_wp2
        go_roundg k2
        case measure => have := HK1.out; have := HK2.out; omega
        case rel => exact ⟨(x7_2), (wrap64 (x9_2 + 1)), (be_), H', ⟨(by have := HK1.out; have := HK2.out; omega)⟩, ⟨(tr HO_7.out)⟩, ⟨(tr HO_250000.out)⟩, ⟨(tr HO_250001.out)⟩, ⟨(tb BK241.out)⟩, ⟨(tb BK242.out)⟩, ⟨(tb BK249.out)⟩, ⟨(te3 HB.out GE241.out GE242.out GE249.out)⟩⟩
      ·rw [if_neg c33] at H
       have c33b0 : decide (x9_2 < (l0_0.length : Int)) = false := decide_eq_false c33
       clear c33
       by_cases c44 : (x7_2.length : Int) > 3
       ·rw [if_pos c44] at H
        have c44b0 : decide (3 < (x7_2.length : Int)) = true := decide_eq_true c44
        have c44b1 : decide (3 < x7_2.length) = true := decide_eq_true (by omega)
        clear c44; obtain ⟨y266, hy266⟩ : ∃ y_ : List (S83), y_ = (([] : List (S83))) := ⟨_, rfl⟩
        replace H : (if 1 ≤ (x7_2.length : Int) then ((some (x7_2.drop 1 : List (S83))).bind fun y269 => (if y266.length + y269.length < 4398046511104 then ((spec_Decimal.f k2 a1).bind fun t276 => (if 5 + t276.size ≤ 9223372036854775807 then (some ((y266 ++ y269), t246, (⟨#[111, 112, 101, 110, 32]⟩ : ByteArray) ++ t276)) else (none))) else (none))) else (none)) = some (r1, r2, r3) := by first | (rw [hy266]; with_reducible exact H) | (have H2_ := (Option.bind_some _ _).symm.trans H; rw [hy266]; with_reducible exact H2_) | (have H2_ := (Option.bind_some _ _).symm.trans H; with_reducible exact H2_) | with_reducible exact H | (rw [hy266]; exact H) | exact H
        have Ny266 := am hy266; clear hy266
        by_cases c45 : 1 ≤ (x7_2.length : Int)
        rotate_left
        ·rw [if_neg c45] at H; exact absurd H (by simp)
        rw [if_pos c45] at H; have c45b0 := eq_true c45
        have c45b1 : decide (1 ≤ (x7_2.length : Int)) = true := decide_eq_true c45
        clear c45; obtain ⟨y269, hy269⟩ : ∃ y_ : List (S83), y_ = (x7_2.drop 1) := ⟨_, rfl⟩
        replace H : (if y266.length + y269.length < 4398046511104 then ((spec_Decimal.f k2 a1).bind fun t276 => (if 5 + t276.size ≤ 9223372036854775807 then (some ((y266 ++ y269), t246, (⟨#[111, 112, 101, 110, 32]⟩ : ByteArray) ++ t276)) else (none))) else (none)) = some (r1, r2, r3) := by first | (rw [hy269]; with_reducible exact H) | (have H2_ := (Option.bind_some _ _).symm.trans H; rw [hy269]; with_reducible exact H2_) | (have H2_ := (Option.bind_some _ _).symm.trans H; with_reducible exact H2_) | with_reducible exact H | (rw [hy269]; exact H) | exact H
        have Ny269 := am hy269; clear hy269
        by_cases c46 : y266.length + y269.length < 4398046511104
        rotate_left
        ·rw [if_neg c46] at H; exact absurd H (by simp)
        rw [if_pos c46] at H; have LMc46 := am c46; clear c46; obtain ⟨y273, hy273⟩ : ∃ y_ : List (S83), y_ = (y266 ++ y269) := ⟨_, rfl⟩
        replace H : ((spec_Decimal.f k2 a1).bind fun t276 => (if 5 + t276.size ≤ 9223372036854775807 then (some (y273, t246, (⟨#[111, 112, 101, 110, 32]⟩ : ByteArray) ++ t276)) else (none))) = some (r1, r2, r3) := by first | (rw [hy273]; with_reducible exact H) | (have H2_ := (Option.bind_some _ _).symm.trans H; rw [hy273]; with_reducible exact H2_) | (have H2_ := (Option.bind_some _ _).symm.trans H; with_reducible exact H2_) | with_reducible exact H | (rw [hy273]; exact H) | exact H
        have Ny273 := am hy273; clear hy273; replace H := bsi H; obtain ⟨t276, A47, H⟩ := H; (try dsimp only at H)
        by_cases c48 : 5 + t276.size ≤ 9223372036854775807
        rotate_left
        ·rw [if_neg c48] at H; exact absurd H (by simp)
        rw [if_pos c48] at H; have c48b0 := eq_true c48
        have c48b1 : decide (5 + t276.size ≤ 9223372036854775807) = true := decide_eq_true c48
        try have c48b2 : (9223372036854775807 < 5 + t276.size) = False := eq_false (Nat.not_lt.2 c48)
        try (have c48b9 := c48b2; simp only [ByteArray.size_append] at c48b9)
        simp only [Option.some.injEq, Prod.mk.injEq] at H; obtain ⟨rfl, rfl, rfl⟩ := H; have hnb49 := NB241_242.out; have hnc49 := NB242_241.out; have hnb50 := NB241_249.out; have hnc50 := NB249_241.out; obtain ⟨hcz51_0, hcz51_1⟩ := cl2 BK241.out; obtain ⟨hfz51_0, hfz51_1⟩ := fr2 BK241.out; obtain ⟨Ao52, co52, eo52⟩ := Kd.R_slice HO_7.out; subst eo52
        try go_wp2_with (first | ((with_reducible refine gate_dst (N := 67) rfl ?_); refine Kd.R_lit k83 _ 83 ?hg (N := 67) ?hd (xs := ([] : List (S83))) (inner := []) (ok := fun _ => True) (okp := fun _ => True) ?hr ?hp (fun _ hk => hk) trivial (Below.refl _ _) (Nat.le_refl _) (by simp) ?_; (case hd => rfl); (case hg => rfl); (case hr => exact gs_); (case hp => exact (Reps.none _ _)); intro v267 w53 ho54 hb hg_ hnew_; clear hg_ hnew_; (first | rw [← Ny266.out] at ho54 | (simp only [Int.reduceToNat] at ho54; rw [← Ny266.out] at ho54)); replace HO_250001 := am (Kd.R_below (tr HO_250001.out) hb); have HO268 := am (Kd.R_lower (Kd.R_new' (Kd.R_new' ho54 (Kd.R_lt (tr HO_7.out))) (Kd.R_lt (tr HO_250000.out))) (below_size (te3 HB.out GE241.out GE242.out GE249.out))); replace HO_7 := am (Kd.R_elder' (tr HO_7.out) (Kd.R_base ho54) hb); replace HO_250000 := am (Kd.R_elder' (tr HO_250000.out) (Kd.R_base ho54) hb); replace BK241 := am (bb BK241.out hb); replace BK242 := am (bb BK242.out hb); replace BK249 := am (bb BK249.out hb); replace HB := am (below_step (te3 HB.out GE241.out GE242.out GE249.out) hb); clear hb ho54; have q55 : (1 : Int) ≤ ((x7_2.length : Int) : Int) := dga; obtain ⟨i055, hi055, _, hsz55, _⟩ := info_parts info83; have hroom55 : x7_2.length ≤ co52 := (Kd.R_reads' HO_7.out).2.1; have hC55 : Kd.C k83 _ Ao52 x7_2.length x7_2 := (Kd.R_reads' HO_7.out).2.2; have hcut55 := cut_from (P := Try.prog) 44 83 .i64 Try.underlying44 hi055 3 hsz55 Ao52 x7_2.length co52 1 (by omega) q55; have hr55 := Kd.C_drop (m := (1 : Int).toNat) (c := co52) hC55 (by omega) hroom55; obtain ⟨A55, hA55⟩ : ∃ A1, A1 = (if co52 = (1 : Int).toNat then Ao52 else (Ao52 : Option Addr).map (·.add ((1 : Int).toNat * 3))) := ⟨_, rfl⟩; obtain ⟨c55, hc55⟩ : ∃ c1, c1 = co52 - (1 : Int).toNat := ⟨_, rfl⟩; have hy55 : y269.length = x7_2.length - (1 : Int).toNat := (by rw [Ny269.out, List.length_drop] <;> omega); rw [show (x7_2).drop (1 : Int).toNat = y269 from Ny269.out.symm] at hr55; replace hr55 : Kd.C k83 _ A55 y269.length y269 := (by rw [hA55]; exact hr55); rw [← hy55, ← hA55, ← hc55] at hcut55; have HR272 := am hr55; have HC272 := am (show y269.length ≤ c55 from (by rw [hy55, hc55]; exact Nat.sub_le_sub_right hroom55 _)); clear hr55 hC55 hroom55 hi055 hsz55 hc55; have KY55 := am hy55; have KA55 := am hA55; clear hy55 hA55; have KL55 := am (show 1 ≤ x7_2.length from (by omega)); replace q55 := eq_true q55) | ((with_reducible refine gate_builtin (b := .append) (xs := #[.tmp 67, .tmp 69]) rfl ?_); at_builtin; refine Kd.R_append_rows k83 (w0 := w) w.heap.size rfl (.tmp 67) (.tmp 69) 44 83 (.agg #[(.int .i64 0), (.int .i64 0), (.string ⟨#[]⟩)]) 32 rfl Try.underlying44 info83 rfl (by decide) (by omega) v267 y266 y269 _ _ _ (fun k_ => some k_ ≠ (.slice Ao52 x7_2.length co52 : Value).ownBlock ∧ some k_ ≠ (.slice Ao10 t243.length co10 : Value).ownBlock) (fun _ => False) rfl rfl ?aO ?aR (fun _ _ h => h) (fun _ h => h.elim) ?aF ?aB ?aS ?aL ?_; (case aR => repeat (first | exact (by repeat (first | (with_reducible exact HR272.out) | (with_reducible refine Kd.C_alloc ?_ _) | (with_reducible refine Kd.C_drewN ?_ _) | (with_reducible refine Kd.C_drew ?_) | exact HR272.out)) | (with_reducible refine Kd.C_alloc ?_ _) | (with_reducible refine Kd.C_drewN ?_ _) | (with_reducible refine Kd.C_drew ?_))); (case aB => exact (te3 HB.out GE241.out GE242.out GE249.out)); (case aF => exact (fun k_ hk => ⟨Kd.fresh' (Kd.R_lt (tr HO_7.out)) k_ hk, Kd.fresh' (Kd.R_lt (tr HO_250000.out)) k_ hk⟩)); (case aO => (with_reducible repeat (first | apply Kd.R_alloc | apply Kd.R_drewN | apply Kd.R_drew)); exact Kd.R_mono HO268.out (fun _ hk => ⟨hk.1.2, hk.2⟩)); (case aS => exact B9x22_); (case aL => have := LMc46.out; omega); intro v274 w56 ho hb hg hat; rw [← Ny273.out] at ho; replace HO_250000 := am (Kd.R_after (ok := (fun k_ => some k_ ≠ (.slice Ao52 x7_2.length co52 : Value).ownBlock)) (tr HO_250000.out) hg hat); replace HO_250001 := am (Kd.R_over' (tr HO_250001.out) (Kd.R_typed (tr HO268.out)) (by decide) hg); replace BK241 := am (blk_grown (g := gb241) (o := .cells #[.slice A0_0 l0_0.length c0_0, .slice A0_1 l0_1.length c0_1] 47 (0, 0)) (tb BK241.out) hg (Kd.R_ne HO268.out BK241.out (by decide))); replace BK242 := am (blk_grown (g := gb242) (o := .cells #[.slice none 0 0, .slice none 0 0] 47 (0, 0)) (tb BK242.out) hg (Kd.R_ne HO268.out BK242.out (by decide))); replace BK249 := am (blk_grown (g := gb249) (o := .cells #[.slice Ao10 t243.length co10, .slice Ao14 t246.length co14] 47 (0, 0)) (tb BK249.out) hg (Kd.R_ne HO268.out BK249.out (by decide))); replace HB := am (hb); replace HR272 := am ((show Kd.C k83 w56 A55 y269.length y269 from (by rw [Ny269.out, KA55.out]; exact Kd.C_drop (m := 1) (c := co52) ((Kd.R_reads' (Kd.R_after (ok := (fun k_ => some k_ ≠ (.slice Ao10 t243.length co10 : Value).ownBlock)) (tr HO_7.out) hg hat)).2.2) KL55.out ((Kd.R_reads' (Kd.R_after (ok := (fun k_ => some k_ ≠ (.slice Ao10 t243.length co10 : Value).ownBlock)) (tr HO_7.out) hg hat)).2.1)))); replace HO_7 := am (Kd.R_after (ok := (fun k_ => some k_ ≠ (.slice Ao10 t243.length co10 : Value).ownBlock)) (tr HO_7.out) hg hat); have HO275 := am (ho); clear HO268; clear ho hb hg hat; obtain ⟨Ao57, co57, eo57⟩ := Kd.R_slice HO275.out; subst eo57; have hnb58 := NB249_242.out; have hnc58 := NB242_249.out; obtain ⟨hcz59_0, hcz59_1⟩ := cl2 BK249.out; obtain ⟨hfz59_0, hfz59_1⟩ := fr2 BK249.out))
        have n0_ : Aside0 (Kd.R k83 83 (w56.setCell ⟨gb249, 0, none⟩ (.slice Ao57 y273.length co57)) w.heap.size (fun k_ => some k_ ≠ (.slice Ao10 t243.length co10 : Value).ownBlock ∧ some k_ ≠ (.slice Ao57 y273.length co57 : Value).ownBlock) (.slice Ao52 x7_2.length co52) x7_2) := ⟨(by (with_reducible repeat (first | apply Kd.R_alloc | apply Kd.R_drewN | apply Kd.R_drew)); exact Kd.R_mono (Kd.R_far (p := ⟨gb249, 0, none⟩) (Kd.R_types HO_7.out BK249.out (by decide)) (fun _ hk => hk.2) (.slice Ao57 y273.length co57)) (fun _ hk => ⟨hk.1.1, hk.1.2⟩))⟩
        have n1_ : Aside0 (Kd.R k83 83 (w56.setCell ⟨gb249, 0, none⟩ (.slice Ao57 y273.length co57)) w.heap.size (fun k_ => some k_ ≠ (.slice Ao52 x7_2.length co52 : Value).ownBlock ∧ some k_ ≠ (.slice Ao57 y273.length co57 : Value).ownBlock) (.slice Ao10 t243.length co10) t243) := ⟨(by (with_reducible repeat (first | apply Kd.R_alloc | apply Kd.R_drewN | apply Kd.R_drew)); exact Kd.R_mono (Kd.R_far (p := ⟨gb249, 0, none⟩) (Kd.R_types HO_250000.out BK249.out (by decide)) (fun _ hk => hk.2) (.slice Ao57 y273.length co57)) (fun _ hk => ⟨hk.1.1, hk.1.2⟩))⟩
        have n2_ : Aside0 (Kd.R k81 81 (w56.setCell ⟨gb249, 0, none⟩ (.slice Ao57 y273.length co57)) w.heap.size (fun _ => True) (.slice Ao14 t246.length co14) t246) := ⟨(by (with_reducible repeat (first | apply Kd.R_alloc | apply Kd.R_drewN | apply Kd.R_drew)); exact Kd.R_mono (Kd.R_far (p := ⟨gb249, 0, none⟩) (Kd.R_types HO_250001.out BK249.out (by decide)) (fun _ hk => hk.2) (.slice Ao57 y273.length co57)) (fun _ hk => trivial))⟩
        have n3_ : Aside0 (Kd.R k83 83 (w56.setCell ⟨gb249, 0, none⟩ (.slice Ao57 y273.length co57)) w.heap.size (fun k_ => some k_ ≠ (.slice Ao52 x7_2.length co52 : Value).ownBlock ∧ some k_ ≠ (.slice Ao10 t243.length co10 : Value).ownBlock) (.slice Ao57 y273.length co57) y273) := ⟨(by (with_reducible repeat (first | apply Kd.R_alloc | apply Kd.R_drewN | apply Kd.R_drew)); exact Kd.R_mono (Kd.R_far (p := ⟨gb249, 0, none⟩) (Kd.R_types HO275.out BK249.out (by decide)) (fun _ hk => hk.2) (.slice Ao57 y273.length co57)) (fun _ hk => ⟨hk.1.1, hk.1.2⟩))⟩
        have n4_ : Aside0 ((w56.setCell ⟨gb249, 0, none⟩ (.slice Ao57 y273.length co57)).heap[gb241]? = some (.cells #[.slice A0_0 l0_0.length c0_0, .slice A0_1 l0_1.length c0_1] 47 (0, 0))) := ⟨(tp1 BK241.out NB241_249.out)⟩
        have n5_ : Aside0 ((w56.setCell ⟨gb249, 0, none⟩ (.slice Ao57 y273.length co57)).heap[gb242]? = some (.cells #[.slice none 0 0, .slice none 0 0] 47 (0, 0))) := ⟨(tp1 BK242.out NB242_249.out)⟩
        have n6_ : Aside0 ((w56.setCell ⟨gb249, 0, none⟩ (.slice Ao57 y273.length co57)).heap[gb249]? = some (.cells #[.slice Ao57 y273.length co57, .slice Ao14 t246.length co14] 47 (0, 0))) := ⟨(tp0 BK249.out)⟩
        have n7_ : Aside0 (Below w.heap.size w (w56.setCell ⟨gb249, 0, none⟩ (.slice Ao57 y273.length co57))) := ⟨(te3 HB.out GE241.out GE242.out GE249.out)⟩
        (try clear HO_7); (try clear HO_250000); (try clear HO_250001); (try clear HO275); (try clear BK241); (try clear BK242); (try clear BK249); (try clear HB); generalize (w56.setCell ⟨gb249, 0, none⟩ (.slice Ao57 y273.length co57)) = w60 at n0_ n1_ n2_ n3_ n4_ n5_ n6_ n7_ ⊢; have HO_7 := n0_; have HO_250000 := n1_; have HO_250001 := n2_; have HO275 := n3_; have BK241 := n4_; have BK242 := n5_; have BK249 := n6_; have HB := n7_; clear n0_ n1_ n2_ n3_ n4_ n5_ n6_ n7_; replace HO_7 := am (Kd.R_drew HO_7.out); replace HO_250000 := am (Kd.R_drew HO_250000.out); replace HO_250001 := am (Kd.R_drew HO_250001.out); replace HO275 := am (Kd.R_drew HO275.out); replace BK241 := am (blk_drew BK241.out); replace BK242 := am (blk_drew BK242.out); replace BK249 := am (blk_drew BK249.out); replace HB := am (below_drew1 HB.out); refine start_ (n := 6) (S := fun w' => w'.cell? ⟨gb249, 0, none⟩ = some (.slice Ao57 y273.length co57) ∧ w'.cell? ⟨gb249, 1, none⟩ = some (.slice Ao14 t246.length co14)) (ds := []) #[false, false, false, false, false, false] gk_ rfl rfl ⟨(blk_cell BK249.out 0).trans rfl, (blk_cell BK249.out 1).trans rfl⟩ (fun hHeld => ?_); generalize w60.drew = w61 at HO_7 HO_250000 HO_250001 HO275 BK241 BK242 BK249 HB hHeld ⊢; refine pure_ (i := 1) (N := some 74) (v := ?_) (a' := ?_) #[false, true, false, false, false, false] rfl rfl gk_ (fun _ _ _ h => h) (Or.inl ⟨(by rfl), ?_⟩) ?_ ?_; rotate_left
        ·intro w'; go_simp; with_reducible rfl
        rotate_left
        ·simp only [Act.put, List.setIfInBounds_toArray, List.set_cons_zero, List.set_cons_succ, i64_w, i32_w]; rfl
        refine take_ (i := 0) (N := some 73) (v := ?_) (a' := ?_) #[true, true, false, false, false, false] rfl rfl gk_ (fun _ _ _ h => h) (Or.inl ⟨(by rfl), ?_⟩) hHeld ?_ ?_; rotate_left
        ·rintro w' ⟨s0, s1⟩; go_simp; with_reducible rfl
        rotate_left
        ·simp only [Act.put, List.setIfInBounds_toArray, List.set_cons_zero, List.set_cons_succ, i64_w, i32_w]; rfl
        refine one_ (i := 2) (N := some 75) #[true, true, true, false, false, false] rfl rfl gk_ (by decide) (fun K hK => ?_); refine goes_ Try.func89 gk_ rfl #[.int .i64 a1] (by rfl) rfl rfl gm_ ?_
        with_reducible refine (spec_Decimal.calls k2 a1 t276 _ A47.out).mono ?_
        rintro e w62 ⟨rfl, hb⟩; refine ⟨_, rfl, ?_⟩; replace HO_7 := am (Kd.R_below (tr HO_7.out) hb); replace HO_250000 := am (Kd.R_below (tr HO_250000.out) hb); replace HO_250001 := am (Kd.R_below (tr HO_250001.out) hb); replace HO275 := am (Kd.R_below (tr HO275.out) hb); replace BK241 := am (bb BK241.out hb); replace BK242 := am (bb BK242.out hb); replace BK249 := am (bb BK249.out hb); replace HB := am (below_step (te3 HB.out GE241.out GE242.out GE249.out) hb); (try clear hb); (try clear hb2); (try clear hk); (try clear hi); (try clear hl); refine hK.out _ _ ⟨(blk_cell BK249.out 0).trans rfl, (blk_cell BK249.out 1).trans rfl⟩ (fun hHeld => ?_); clear hK K; refine norm_ (a' := ?_) ?_ ?_; rotate_left
        ·show Act.put _ (some 75) _ = _; simp only [Act.put, List.setIfInBounds_toArray, List.set_cons_zero, List.set_cons_succ, i64_w, i32_w]; rfl
        refine pure_ (i := 3) (N := some 76) (v := ?_) (a' := ?_) #[true, true, true, true, false, false] rfl rfl gk_ (fun _ _ _ h => h) (Or.inl ⟨(by rfl), ?_⟩) ?_ ?_; rotate_left
        ·intro w'; go_simp; with_reducible rfl
        rotate_left
        ·simp only [Act.put, List.setIfInBounds_toArray, List.set_cons_zero, List.set_cons_succ, i64_w, i32_w]; rfl
        refine one_ (i := 4) (N := none) #[true, true, true, true, true, false] rfl rfl gk_ (by decide) (fun K hK => ?_)
        have hs63 : w62.cell? ⟨gb242, 0, none⟩ = some (.slice none 0 0) := (blk_cell BK242.out 0).trans rfl
        have hfs63 := blk_frozen BK242.out 0; have hns63_0 := NB241_242.out; have hns63_2 := NB249_242.out; have hms63_0 := NB242_241.out; have hms63_2 := NB242_249.out
        have hs64 : w62.cell? ⟨gb242, 1, none⟩ = some (.slice none 0 0) := (blk_cell BK242.out 1).trans rfl
        have hfs64 := blk_frozen BK242.out 1; have hns64_0 := NB241_242.out; have hns64_2 := NB249_242.out; have hms64_0 := NB242_241.out; have hms64_2 := NB242_249.out; refine skip_ (w1 := ?_) (by rfl) rfl ?_ ?_; rotate_left
        ·go_simp; rfl
        refine hK.out _ _ ⟨((cell_far (p := ⟨gb242, _, none⟩) NB249_242.out _).trans (((cell_far (p := ⟨gb242, _, none⟩) NB249_242.out _).trans (hHeld.1)))), ((cell_far (p := ⟨gb242, _, none⟩) NB249_242.out _).trans (((cell_far (p := ⟨gb242, _, none⟩) NB249_242.out _).trans (hHeld.2))))⟩ (fun hHeld => ?_); clear hK K; refine pure_ (i := 5) (N := some 5) (v := ?_) (a' := ?_) #[true, true, true, true, true, true] rfl rfl gk_ (fun _ _ _ h => h) (Or.inl ⟨(by rfl), ?_⟩) ?_ ?_; rotate_left
        ·intro w'; go_simp; with_reducible rfl
        rotate_left
        ·simp only [Act.put, List.setIfInBounds_toArray, List.set_cons_zero, List.set_cons_succ, i64_w, i32_w]; rfl
        refine done_ gk_ ?_
        try go_wp2
        refine bodyPost_ret (results_ct rfl _ _ gb242 47 #[.slice Ao57 y273.length co57, .slice Ao14 t246.length co14] (0, 0) _ rfl (tp0 BK242.out) Try.underlying47 rfl gk_) rfl ?_; exact ⟨_, _, B9x21_, (by (with_reducible repeat (first | apply Kd.R_alloc | apply Kd.R_drewN | apply Kd.R_drew)); exact Kd.R_mono (Kd.R_far (p := ⟨gb242, 1, none⟩) (Kd.R_far (p := ⟨gb242, 0, none⟩) (Kd.R_types HO275.out BK242.out (by decide)) (fun _ hk => hk.2) (.slice Ao57 y273.length co57)) (fun _ hk => hk.2) (.slice Ao14 t246.length co14)) (fun _ hk => trivial)), (by (with_reducible repeat (first | apply Kd.R_alloc | apply Kd.R_drewN | apply Kd.R_drew)); exact Kd.R_mono (Kd.R_far (p := ⟨gb242, 1, none⟩) (Kd.R_far (p := ⟨gb242, 0, none⟩) (Kd.R_types HO_250001.out BK242.out (by decide)) (fun _ hk => hk.2) (.slice Ao57 y273.length co57)) (fun _ hk => hk.2) (.slice Ao14 t246.length co14)) (fun _ hk => trivial)), (te3 HB.out GE241.out GE242.out GE249.out)⟩
       ·rw [if_neg c44] at H
        have c44b0 : decide (3 < (x7_2.length : Int)) = false := decide_eq_false c44
        have c44b1 : decide (3 < x7_2.length) = false := decide_eq_false (by omega)
        clear c44; replace H := bsi H; obtain ⟨t277, A65, H⟩ := H; (try dsimp only at H)
        by_cases c66 : 5 + t277.size ≤ 9223372036854775807
        rotate_left
        ·rw [if_neg c66] at H; exact absurd H (by simp)
        rw [if_pos c66] at H; have c66b0 := eq_true c66
        have c66b1 : decide (5 + t277.size ≤ 9223372036854775807) = true := decide_eq_true c66
        try have c66b2 : (9223372036854775807 < 5 + t277.size) = False := eq_false (Nat.not_lt.2 c66)
        try (have c66b9 := c66b2; simp only [ByteArray.size_append] at c66b9)
        simp only [Option.some.injEq, Prod.mk.injEq] at H; obtain ⟨rfl, rfl, rfl⟩ := H; have hnb67 := NB241_242.out; have hnc67 := NB242_241.out; have hnb68 := NB241_249.out; have hnc68 := NB249_241.out; obtain ⟨hcz69_0, hcz69_1⟩ := cl2 BK241.out; obtain ⟨hfz69_0, hfz69_1⟩ := fr2 BK241.out; obtain ⟨Ao70, co70, eo70⟩ := Kd.R_slice HO_7.out; subst eo70; have hnb71 := NB249_242.out; have hnc71 := NB242_249.out; obtain ⟨hcz72_0, hcz72_1⟩ := cl2 BK249.out; obtain ⟨hfz72_0, hfz72_1⟩ := fr2 BK249.out
        try go_wp2
        have n0_ : Aside0 (Kd.R k83 83 (wr.setCell ⟨gb249, 0, none⟩ (.slice Ao70 x7_2.length co70)) w.heap.size (fun k_ => some k_ ≠ (.slice Ao10 t243.length co10 : Value).ownBlock) (.slice Ao70 x7_2.length co70) x7_2) := ⟨(tfr HO_7.out BK249.out (by decide))⟩
        have n1_ : Aside0 (Kd.R k83 83 (wr.setCell ⟨gb249, 0, none⟩ (.slice Ao70 x7_2.length co70)) w.heap.size (fun k_ => some k_ ≠ (.slice Ao70 x7_2.length co70 : Value).ownBlock) (.slice Ao10 t243.length co10) t243) := ⟨(tfr HO_250000.out BK249.out (by decide))⟩
        have n2_ : Aside0 (Kd.R k81 81 (wr.setCell ⟨gb249, 0, none⟩ (.slice Ao70 x7_2.length co70)) w.heap.size (fun _ => True) (.slice Ao14 t246.length co14) t246) := ⟨(by (with_reducible repeat (first | apply Kd.R_alloc | apply Kd.R_drewN | apply Kd.R_drew)); exact Kd.R_mono (Kd.R_far (p := ⟨gb249, 0, none⟩) (Kd.R_types HO_250001.out BK249.out (by decide)) (fun _ hk => hk.2) (.slice Ao70 x7_2.length co70)) (fun _ hk => trivial))⟩
        have n3_ : Aside0 ((wr.setCell ⟨gb249, 0, none⟩ (.slice Ao70 x7_2.length co70)).heap[gb241]? = some (.cells #[.slice A0_0 l0_0.length c0_0, .slice A0_1 l0_1.length c0_1] 47 (0, 0))) := ⟨(tp1 BK241.out NB241_249.out)⟩
        have n4_ : Aside0 ((wr.setCell ⟨gb249, 0, none⟩ (.slice Ao70 x7_2.length co70)).heap[gb242]? = some (.cells #[.slice none 0 0, .slice none 0 0] 47 (0, 0))) := ⟨(tp1 BK242.out NB242_249.out)⟩
        have n5_ : Aside0 ((wr.setCell ⟨gb249, 0, none⟩ (.slice Ao70 x7_2.length co70)).heap[gb249]? = some (.cells #[.slice Ao70 x7_2.length co70, .slice Ao14 t246.length co14] 47 (0, 0))) := ⟨(tp0 BK249.out)⟩
        have n6_ : Aside0 (Below w.heap.size w (wr.setCell ⟨gb249, 0, none⟩ (.slice Ao70 x7_2.length co70))) := ⟨(te3 HB.out GE241.out GE242.out GE249.out)⟩
        (try clear HO_7); (try clear HO_250000); (try clear HO_250001); (try clear BK241); (try clear BK242); (try clear BK249); (try clear HB); generalize (wr.setCell ⟨gb249, 0, none⟩ (.slice Ao70 x7_2.length co70)) = w73 at n0_ n1_ n2_ n3_ n4_ n5_ n6_ ⊢; have HO_7 := n0_; have HO_250000 := n1_; have HO_250001 := n2_; have BK241 := n3_; have BK242 := n4_; have BK249 := n5_; have HB := n6_; clear n0_ n1_ n2_ n3_ n4_ n5_ n6_; replace HO_7 := am (Kd.R_drew HO_7.out); replace HO_250000 := am (Kd.R_drew HO_250000.out); replace HO_250001 := am (Kd.R_drew HO_250001.out); replace BK241 := am (blk_drew BK241.out); replace BK242 := am (blk_drew BK242.out); replace BK249 := am (blk_drew BK249.out); replace HB := am (below_drew1 HB.out); refine start_ (n := 6) (S := fun w' => w'.cell? ⟨gb249, 0, none⟩ = some (.slice Ao70 x7_2.length co70) ∧ w'.cell? ⟨gb249, 1, none⟩ = some (.slice Ao14 t246.length co14)) (ds := []) #[false, false, false, false, false, false] gk_ rfl rfl ⟨(blk_cell BK249.out 0).trans rfl, (blk_cell BK249.out 1).trans rfl⟩ (fun hHeld => ?_); generalize w73.drew = w74 at HO_7 HO_250000 HO_250001 BK241 BK242 BK249 HB hHeld ⊢; refine pure_ (i := 1) (N := some 74) (v := ?_) (a' := ?_) #[false, true, false, false, false, false] rfl rfl gk_ (fun _ _ _ h => h) (Or.inl ⟨(by rfl), ?_⟩) ?_ ?_; rotate_left
        ·intro w'; go_simp; with_reducible rfl
        rotate_left
        ·simp only [Act.put, List.setIfInBounds_toArray, List.set_cons_zero, List.set_cons_succ, i64_w, i32_w]; rfl
        refine take_ (i := 0) (N := some 73) (v := ?_) (a' := ?_) #[true, true, false, false, false, false] rfl rfl gk_ (fun _ _ _ h => h) (Or.inl ⟨(by rfl), ?_⟩) hHeld ?_ ?_; rotate_left
        ·rintro w' ⟨s0, s1⟩; go_simp; with_reducible rfl
        rotate_left
        ·simp only [Act.put, List.setIfInBounds_toArray, List.set_cons_zero, List.set_cons_succ, i64_w, i32_w]; rfl
        refine one_ (i := 2) (N := some 75) #[true, true, true, false, false, false] rfl rfl gk_ (by decide) (fun K hK => ?_); refine goes_ Try.func89 gk_ rfl #[.int .i64 a1] (by rfl) rfl rfl gm_ ?_
        with_reducible refine (spec_Decimal.calls k2 a1 t277 _ A65.out).mono ?_
        rintro e w75 ⟨rfl, hb⟩; refine ⟨_, rfl, ?_⟩; replace HO_7 := am (Kd.R_below (tr HO_7.out) hb); replace HO_250000 := am (Kd.R_below (tr HO_250000.out) hb); replace HO_250001 := am (Kd.R_below (tr HO_250001.out) hb); replace BK241 := am (bb BK241.out hb); replace BK242 := am (bb BK242.out hb); replace BK249 := am (bb BK249.out hb); replace HB := am (below_step (te3 HB.out GE241.out GE242.out GE249.out) hb); (try clear hb); (try clear hb2); (try clear hk); (try clear hi); (try clear hl); refine hK.out _ _ ⟨(blk_cell BK249.out 0).trans rfl, (blk_cell BK249.out 1).trans rfl⟩ (fun hHeld => ?_); clear hK K; refine norm_ (a' := ?_) ?_ ?_; rotate_left
        ·show Act.put _ (some 75) _ = _; simp only [Act.put, List.setIfInBounds_toArray, List.set_cons_zero, List.set_cons_succ, i64_w, i32_w]; rfl
        refine pure_ (i := 3) (N := some 76) (v := ?_) (a' := ?_) #[true, true, true, true, false, false] rfl rfl gk_ (fun _ _ _ h => h) (Or.inl ⟨(by rfl), ?_⟩) ?_ ?_; rotate_left
        ·intro w'; go_simp; with_reducible rfl
        rotate_left
        ·simp only [Act.put, List.setIfInBounds_toArray, List.set_cons_zero, List.set_cons_succ, i64_w, i32_w]; rfl
        refine one_ (i := 4) (N := none) #[true, true, true, true, true, false] rfl rfl gk_ (by decide) (fun K hK => ?_)
        have hs76 : w75.cell? ⟨gb242, 0, none⟩ = some (.slice none 0 0) := (blk_cell BK242.out 0).trans rfl
        have hfs76 := blk_frozen BK242.out 0; have hns76_0 := NB241_242.out; have hns76_2 := NB249_242.out; have hms76_0 := NB242_241.out; have hms76_2 := NB242_249.out
        have hs77 : w75.cell? ⟨gb242, 1, none⟩ = some (.slice none 0 0) := (blk_cell BK242.out 1).trans rfl
        have hfs77 := blk_frozen BK242.out 1; have hns77_0 := NB241_242.out; have hns77_2 := NB249_242.out; have hms77_0 := NB242_241.out; have hms77_2 := NB242_249.out; refine skip_ (w1 := ?_) (by rfl) rfl ?_ ?_; rotate_left
        ·go_simp; rfl
        refine hK.out _ _ ⟨((cell_far (p := ⟨gb242, _, none⟩) NB249_242.out _).trans (((cell_far (p := ⟨gb242, _, none⟩) NB249_242.out _).trans (hHeld.1)))), ((cell_far (p := ⟨gb242, _, none⟩) NB249_242.out _).trans (((cell_far (p := ⟨gb242, _, none⟩) NB249_242.out _).trans (hHeld.2))))⟩ (fun hHeld => ?_); clear hK K; refine pure_ (i := 5) (N := some 5) (v := ?_) (a' := ?_) #[true, true, true, true, true, true] rfl rfl gk_ (fun _ _ _ h => h) (Or.inl ⟨(by rfl), ?_⟩) ?_ ?_; rotate_left
        ·intro w'; go_simp; with_reducible rfl
        rotate_left
        ·simp only [Act.put, List.setIfInBounds_toArray, List.set_cons_zero, List.set_cons_succ, i64_w, i32_w]; rfl
        refine done_ gk_ ?_
        try go_wp2
        refine bodyPost_ret (results_ct rfl _ _ gb242 47 #[.slice Ao70 x7_2.length co70, .slice Ao14 t246.length co14] (0, 0) _ rfl (tp0 BK242.out) Try.underlying47 rfl gk_) rfl ?_; exact ⟨_, _, B9x21_, (by (with_reducible repeat (first | apply Kd.R_alloc | apply Kd.R_drewN | apply Kd.R_drew)); exact Kd.R_mono (Kd.R_far (p := ⟨gb242, 1, none⟩) (Kd.R_far (p := ⟨gb242, 0, none⟩) (Kd.R_types HO_7.out BK242.out (by decide)) (fun _ hk => hk.2) (.slice Ao70 x7_2.length co70)) (fun _ hk => hk.2) (.slice Ao14 t246.length co14)) (fun _ hk => trivial)), (by (with_reducible repeat (first | apply Kd.R_alloc | apply Kd.R_drewN | apply Kd.R_drew)); exact Kd.R_mono (Kd.R_far (p := ⟨gb242, 1, none⟩) (Kd.R_far (p := ⟨gb242, 0, none⟩) (Kd.R_types HO_250001.out BK242.out (by decide)) (fun _ hk => hk.2) (.slice Ao70 x7_2.length co70)) (fun _ hk => hk.2) (.slice Ao14 t246.length co14)) (fun _ hk => trivial)), (te3 HB.out GE241.out GE242.out GE249.out)⟩

end Go.Proofs.Ytgffdijodnpolaa.QFnSameKeeps
