/- Functions that a law reaches, as functions of Lean, and the walks that show that the calls come to their answers: written by a program of this project out of the translation. No condition. -/
import Derived.Test.YtgffdijodnpolaaQFnSameKeepsx0
import Derived.Test.YtgffdijodnpolaaQFnSameKeepsx4
import Derived.Test.YtgffdijodnpolaaQFnSameKeepsx8
import Derived.Test.YtgffdijodnpolaaQFnSameKeepsx10
import Derived.Test.YtgffdijodnpolaaVFnSameKeepsShort4
import Derived.Test.YtgffdijodnpolaaVFnSameKeepshort3
import Derived.Test.YtgffdijodnpolaaVFnSameKeepsShort2
import Derived.Test.YtgffdijodnpolaaVFnSameKeepsShort
import Derived.Test.YtgffdijodnpolaaVFnSameKeepshort5
namespace Go.Proofs.Ytgffdijodnpolaa.QFnSameKeeps
open Go.RowKit Go.Proofs.YtgffdijodnpolaaW.PrintWords Go.Proofs.YtgffdijodnpolaaW.PrintLast Go.Proofs.YtgffdijodnpolaaW.PrintMore Go.Proofs.Ytgffdijodnpolaa.Short
attribute [local go_sem] max2_int min2_int max_two min_two max_three min_three max_four min_four   -- for this text's walks alone
set_option linter.unusedVariables false
set_option linter.unusedSimpArgs false

theorem B11x1_ {p : Prop} (h : p := by repeat (first | (with_reducible first | exact HI0.out | apply IsS47.alloc | apply IsS47.drewN | apply IsS47.drew | apply IsS47.set_1 | refine IsS47.far ?_ NB0_295.out _ | refine IsS47.far ?_ NB0_300.out _) | exact HI0.out)) : p := h
theorem B11x3_ {p : Prop} (h : p := by first | (rw [add_block]; exact Kd.foot_ne HR0_1.out (by omega) (by decide)) | (show (Addr.add _ _).block ≠ _; rw [add_block]; exact Kd.foot_ne HR0_1.out (by omega) (by decide)) | exact Kd.foot_ne HR0_1.out (by omega) (by decide) | (dsimp only; exact Kd.foot_ne HR0_1.out (by omega) (by decide))) : p := h
theorem B11x9_ {p : Prop} (h : p := by first | rfl | (simp [errW_none, errW_some] <;> rfl) | (simp [*, errW_none, errW_some] <;> rfl)) : p := h
theorem B11x11_ {p : Prop} (h : p := by first | exact Kd.R_lower (Kd.R_mono (IsS47.apart (show IsS47 w0 _ g (.slice A0_0 s0_0.length c0_0) v313 from B11x1_) (tr HO314.out) (by decide)) (fun _ h_ => h_.2)) HL.out | exact Kd.R_mono (IsS47.apart (show IsS47 w0 _ g (.slice A0_0 s0_0.length c0_0) v313 from B11x1_) (tr HO314.out) (by decide)) (fun _ h_ => h_.2)) : p := h
theorem B11x13_ {p : Prop} (h : p := by repeat (first | (with_reducible first | exact HI0.out | apply IsS47.alloc | apply IsS47.drewN | apply IsS47.drew | apply IsS47.set_1 | refine IsS47.far ?_ NB0_295.out _) | exact HI0.out)) : p := h
theorem B11x19_ {p : Prop} (h : p := by simp only [putAll, Act.put, List.setIfInBounds_toArray, List.set_cons_zero, List.set_cons_succ]) : p := h
theorem B11x20_ {p : Prop} (h : p := by exact Kd.R_keep HOW.out (tk2 HK.out GW295.out GW300.out) (fun _ h_ => h_)) : p := h
/-! ### spec_l15Do: function 107 -/
mutual
def spec_l15Do.j1 : Nat → Int → List (S83) → List (S81) → Int → Int → Int → ByteArray → ByteArray → Int → Option (ByteArray × (List (S81)))
 | 0, _, _, _, _, _, _, _, _, _ => none
 | k + 1, x1, x1000, x1001, x296000, x296001, x296002, x296003, x296004, x296005 => (spec_l15Put.f k x1000 x1001 x296003 x296004 x1).bind fun bt311 => (if bt311.1 = true then ((spec_Decimal.f k x1).bind fun t315 => (if 4 + t315.size ≤ 9223372036854775807 then (some ((⟨#[112, 117, 116, 32]⟩ : ByteArray) ++ t315, bt311.2)) else (none))) else (some ((⟨#[102, 117, 108, 108]⟩ : ByteArray), bt311.2)))
def spec_l15Do.l0 : Nat → List (S81) → Int → List (S83) → List (S81) → Int → Int → Int → ByteArray → ByteArray → Int → Option (ByteArray × (List (S81)))
 | 0, _, _, _, _, _, _, _, _, _, _ => none
 | k + 1, x9, x10, x1000, x1001, x296000, x296001, x296002, x296003, x296004, x296005 => if x10 < (x1001.length : Int) then (if 0 ≤ x10 then (if ((rd_T81 x1001 x10).f0).toList = x296003.toList then (spec_l15Do.l0 k x9 (wrap64 (x10 + 1)) x1000 x1001 x296000 x296001 x296002 x296003 x296004 x296005) else (if x9.length < 3518437208883 then (spec_l15Do.l0 k (x9 ++ [(⟨(rd_T81 x1001 x10).f0, (rd_T81 x1001 x10).f1, (rd_T81 x1001 x10).f2⟩ : S81)]) (wrap64 (x10 + 1)) x1000 x1001 x296000 x296001 x296002 x296003 x296004 x296005) else (none))) else (none)) else (some ((⟨#[100, 114, 111, 112]⟩ : ByteArray), x9))
end
def spec_l15Do.f (k : Nat) (s0_0 : List (S83)) (s0_1 : List (S81)) (a1 : Int) (a2_0 : Int) (a2_1 : Int) (a2_2 : Int) (a2_3 : ByteArray) (a2_4 : ByteArray) (a2_5 : Int) : Option (ByteArray × (List (S81))) := (spec_ItemOf.f k s0_0 s0_1 a2_3).bind fun bt296 => (if a2_0 = 3 then (if bt296.2.2.2 = true then ((spec_Decimal.f k bt296.2.2.1).bind fun t301 => (if 3 + t301.size ≤ 9223372036854775807 then (if ((⟨#[105, 115, 32]⟩ : ByteArray) ++ t301).size + 1 ≤ 9223372036854775807 then (if (((⟨#[105, 115, 32]⟩ : ByteArray) ++ t301) ++ (⟨#[32]⟩ : ByteArray)).size + bt296.2.1.size ≤ 9223372036854775807 then (some ((((⟨#[105, 115, 32]⟩ : ByteArray) ++ t301) ++ (⟨#[32]⟩ : ByteArray)) ++ bt296.2.1, s0_1)) else (none)) else (none)) else (none))) else (some ((⟨#[110, 111]⟩ : ByteArray), s0_1))) else (if a2_0 = 4 then (if bt296.2.2.2 = true then (spec_l15Do.l0 k (([] : List (S81))) 0 s0_0 s0_1 a2_0 a2_1 a2_2 a2_3 a2_4 a2_5) else (some ((⟨#[110, 111]⟩ : ByteArray), s0_1))) else (if a2_0 = 5 then (if bt296.2.2.2 = true then (if bt296.2.2.1 = a2_5 then (spec_l15Do.j1 k a1 s0_0 s0_1 a2_0 a2_1 a2_2 a2_3 a2_4 a2_5) else ((spec_Decimal.f k bt296.2.2.1).bind fun t310 => (if 4 + t310.size ≤ 9223372036854775807 then (some ((⟨#[110, 111, 116, 32]⟩ : ByteArray) ++ t310, s0_1)) else (none)))) else (some ((⟨#[110, 111]⟩ : ByteArray), s0_1))) else (spec_l15Do.j1 k a1 s0_0 s0_1 a2_0 a2_1 a2_2 a2_3 a2_4 a2_5))))
theorem spec_l15Do.mono_l : ∀ k, (∀ y0 y1 y2 y3 y4 y5 y6 y7 y8, LeO (spec_l15Do.j1 k y0 y1 y2 y3 y4 y5 y6 y7 y8) (spec_l15Do.j1 (k + 1) y0 y1 y2 y3 y4 y5 y6 y7 y8)) ∧ (∀ y0 y1 y2 y3 y4 y5 y6 y7 y8 y9, LeO (spec_l15Do.l0 k y0 y1 y2 y3 y4 y5 y6 y7 y8 y9) (spec_l15Do.l0 (k + 1) y0 y1 y2 y3 y4 y5 y6 y7 y8 y9))
 | 0 => ⟨fun _ _ _ _ _ _ _ _ _ r h => by simp [spec_l15Do.j1] at h, fun _ _ _ _ _ _ _ _ _ _ r h => by simp [spec_l15Do.l0] at h⟩
 | k + 1 => by
  obtain ⟨ih0, ih1⟩ := spec_l15Do.mono_l k
  refine ⟨?_, ?_⟩ <;> intros <;> (first | unfold spec_l15Do.j1 | unfold spec_l15Do.l0) <;> repeat' (with_reducible first | exact ih0 .. | exact ih1 .. | exact spec_Decimal.mono _ _ | exact spec_ItemOf.mono .. | exact spec_l15Put.mono .. | exact LeO.refl _ | exact LeO.none _ | refine LeO.ite ?_ ?_ | refine LeO.bind ?_ (fun _ => ?_))
theorem spec_l15Do.mono : ∀ a0 a1 a2 a3 a4 a5 a6 a7 a8 k, LeO (spec_l15Do.f k a0 a1 a2 a3 a4 a5 a6 a7 a8) (spec_l15Do.f (k + 1) a0 a1 a2 a3 a4 a5 a6 a7 a8) := by
 intro a0 a1 a2 a3 a4 a5 a6 a7 a8 k
 obtain ⟨ih0, ih1⟩ := spec_l15Do.mono_l k
 unfold spec_l15Do.f
 repeat' (with_reducible first | exact ih0 .. | exact ih1 .. | exact spec_Decimal.mono _ _ | exact spec_ItemOf.mono .. | exact spec_l15Put.mono .. | exact LeO.refl _ | exact LeO.none _ | refine LeO.ite ?_ ?_ | refine LeO.bind ?_ (fun _ => ?_))
def spec_l15Do.T1 : Bool × List (List Nat × List Nat) := (true, [([], []), ([0], [0]), ([1], [1]), ([], []), ([3], [3]), ([2, 4], [2, 4]), ([5], [5]), ([6], [6]), ([6], [6]), ([], []), ([9, 7, 5, 0, 1, 2, 3, 4, 5, 6, 7, 9], [7, 9]), ([8, 10, 0, 1, 2, 3, 4, 5, 6, 7, 8, 9, 10], [8])])
def spec_l15Do.B1 : List Nat := [0, 1, 3, 0, 8, 31, 63, 127, 127, 0, 767, 2047]
theorem spec_l15Do.tab1 : rtab .any (opsOf Try.f107 1) = spec_l15Do.T1 := by kernel_rfl
theorem spec_l15Do.bits1 : waitsOk spec_l15Do.T1.2 spec_l15Do.B1 = true := by kernel_rfl
def spec_l15Do.T6 : Bool × List (List Nat × List Nat) := (true, [([], []), ([0], [0]), ([1], [1]), ([2], [2]), ([3], [3]), ([], []), ([5], [5]), ([4, 6], [4, 6]), ([7, 2, 0, 1, 2, 3, 4, 5, 6, 7], [7])])
def spec_l15Do.B6 : List Nat := [0, 1, 3, 7, 15, 0, 32, 127, 255]
theorem spec_l15Do.tab6 : rtab .any (opsOf Try.f107 6) = spec_l15Do.T6 := by kernel_rfl
theorem spec_l15Do.bits6 : waitsOk spec_l15Do.T6.2 spec_l15Do.B6 = true := by kernel_rfl
def spec_l15Do.T14 : Bool × List (List Nat × List Nat) := (true, [([], []), ([0], [0]), ([1], [1]), ([2], [2]), ([], []), ([3, 4], [3, 4]), ([5], [5]), ([6], [6]), ([], []), ([8], [8]), ([7, 9], [7, 9])])
def spec_l15Do.B14 : List Nat := [0, 1, 3, 7, 0, 31, 63, 127, 0, 256, 1023]
theorem spec_l15Do.tab14 : rtab .any (opsOf Try.f107 14) = spec_l15Do.T14 := by kernel_rfl
theorem spec_l15Do.bits14 : waitsOk spec_l15Do.T14.2 spec_l15Do.B14 = true := by kernel_rfl
set_option maxHeartbeats 8000000 in
set_option maxRecDepth 100000 in
theorem spec_l15Do.calls (k : Nat) (g : Nat) (A0_0 : Option Addr) (c0_0 : Nat) (s0_0 : List (S83)) (A0_1 : Option Addr) (c0_1 : Nat) (s0_1 : List (S81)) (a1 : Int) (a2_0 : Int) (a2_1 : Int) (a2_2 : Int) (a2_3 : ByteArray) (a2_4 : ByteArray) (a2_5 : Int) (r1 : ByteArray) (r2 : List (S81)) (w0 w : World) (hI : IsS47 w0 w g (.slice A0_0 s0_0.length c0_0) (.slice A0_1 s0_1.length c0_1)) (hB : Below w0.heap.size w0 w) (hr0_0 : ∀ W_, KeepBut w W_ g none → Kd.C k83 W_ A0_0 s0_0.length s0_0) (hc0_0 : s0_0.length ≤ c0_0) (hr0_1 : ∀ W_, KeepBut w W_ g none → Kd.C k81 W_ A0_1 s0_1.length s0_1) (hc0_1 : s0_1.length ≤ c0_1) (ho0_1 : Kd.R k81 81 w w0.heap.size (fun k_ => k_ ≠ g) (.slice A0_1 s0_1.length c0_1) s0_1) (h : spec_l15Do.f k s0_0 s0_1 a1 a2_0 a2_1 a2_2 a2_3 a2_4 a2_5 = some (r1, r2)) :
  Calls Try.prog 107 #[.pointer (some ⟨g, 0, none⟩), .int .i64 a1, .agg #[.int .i64 a2_0, .int .i64 a2_1, .int .i64 a2_2, .string a2_3, .string a2_4, .int .i64 a2_5]] w fun e w' => ∃ v9_ : Value, e = .returned (.string r1) ∧ IsS47 w0 w' g (.slice A0_0 s0_0.length c0_0) v9_ ∧ Kd.R k81 81 w' w0.heap.size (fun k_ => k_ ≠ g) v9_ r2 ∧ Below w0.heap.size w0 w' ∧ KeepBut w w' g none := by
 have hu59 := Try.underlying59
 have hu47 := Try.underlying47
 have hu81 := Try.underlying81
 have HR0_0 := am hr0_0
 have HC0_0 := am hc0_0
 clear hr0_0 hc0_0
 have HR0_1 := am hr0_1
 have HC0_1 := am hc0_1
 clear hr0_1 hc0_1
 have HOW := am ho0_1
 clear ho0_1
 have HI0 := am hI
 have HK := am (KeepBut.refl w g none)
 have HL := am hB.size
 clear hI
 have HW0 := am hB.size
 have HB := am hB
 clear hB
 have H : ((spec_ItemOf.f k s0_0 s0_1 a2_3).bind fun bt296 => (if a2_0 = 3 then (if bt296.2.2.2 = true then ((spec_Decimal.f k bt296.2.2.1).bind fun t301 => (if 3 + t301.size ≤ 9223372036854775807 then (if ((⟨#[105, 115, 32]⟩ : ByteArray) ++ t301).size + 1 ≤ 9223372036854775807 then (if (((⟨#[105, 115, 32]⟩ : ByteArray) ++ t301) ++ (⟨#[32]⟩ : ByteArray)).size + bt296.2.1.size ≤ 9223372036854775807 then (some ((((⟨#[105, 115, 32]⟩ : ByteArray) ++ t301) ++ (⟨#[32]⟩ : ByteArray)) ++ bt296.2.1, s0_1)) else (none)) else (none)) else (none))) else (some ((⟨#[110, 111]⟩ : ByteArray), s0_1))) else (if a2_0 = 4 then (if bt296.2.2.2 = true then (spec_l15Do.l0 k (([] : List (S81))) 0 s0_0 s0_1 a2_0 a2_1 a2_2 a2_3 a2_4 a2_5) else (some ((⟨#[110, 111]⟩ : ByteArray), s0_1))) else (if a2_0 = 5 then (if bt296.2.2.2 = true then (if bt296.2.2.1 = a2_5 then (spec_l15Do.j1 k a1 s0_0 s0_1 a2_0 a2_1 a2_2 a2_3 a2_4 a2_5) else ((spec_Decimal.f k bt296.2.2.1).bind fun t310 => (if 4 + t310.size ≤ 9223372036854775807 then (some ((⟨#[110, 111, 116, 32]⟩ : ByteArray) ++ t310, s0_1)) else (none)))) else (some ((⟨#[110, 111]⟩ : ByteArray), s0_1))) else (spec_l15Do.j1 k a1 s0_0 s0_1 a2_0 a2_1 a2_2 a2_3 a2_4 a2_5))))) = some (r1, r2) := h
 clear h
 replace H := bsi H
 obtain ⟨⟨t296, t297, t298, t299⟩, A4, H⟩ := H
 (try dsimp only at H)
 have HC5 := am H
 clear H
 go_enter Try.func107, Try.ntmps107
 try go_wp2_with (first | ((with_reducible refine gate_dst (N := 5) rfl ?_); refine bx (N := 5) (cs := #[.int .i64 a2_0, .int .i64 a2_1, .int .i64 a2_2, .string a2_3, .string a2_4, .int .i64 a2_5]) (t := 59) ?_; intro gb295 hg w6 hbox hb; replace HB := am (below_step (te1 HB.out (IsS47.ge HI0.out)) hb); have BK295 := am (hbox); have GW295 := am ((bs hg (keep_size HK.out))); have GE295 := am ((Nat.le_trans HW0.out (bs hg (keep_size HK.out)) : w0.heap.size ≤ gb295)); replace HK := am (KeepBut.trans (tk0 HK.out) (KeepBut.of_below hb g none) (.inl rfl)); have NB0_295 := am ((nl hg (IsS47.lt HI0.out))); have NB295_0 := am ((ng hg (IsS47.lt HI0.out))); replace HI0 := am (IsS47.below (by repeat (first | (with_reducible first | exact HI0.out | apply IsS47.alloc | apply IsS47.drewN | apply IsS47.drew | apply IsS47.set_1) | exact HI0.out)) hb); clear hb hbox hg))
 replace BK295 := am (blk_drew BK295.out)
 replace HI0 := am (IsS47.drew HI0.out)
 replace HK := am (keep_drew HK.out)
 replace HB := am (below_drew1 HB.out)
 refine start_ (n := 12) (S := fun w' => w'.cell? ⟨g, 0, none⟩ = some (.slice A0_0 s0_0.length c0_0) ∧ w'.cell? ⟨g, 1, none⟩ = some (.slice A0_1 s0_1.length c0_1) ∧ w'.cell? ⟨gb295, 0, none⟩ = some (.int .i64 a2_0) ∧ w'.cell? ⟨gb295, 1, none⟩ = some (.int .i64 a2_1) ∧ w'.cell? ⟨gb295, 2, none⟩ = some (.int .i64 a2_2) ∧ w'.cell? ⟨gb295, 3, none⟩ = some (.string a2_3) ∧ w'.cell? ⟨gb295, 4, none⟩ = some (.string a2_4) ∧ w'.cell? ⟨gb295, 5, none⟩ = some (.int .i64 a2_5)) (ds := []) #[false, false, false, false, false, false, false, false, false, false, false, false] gk_ rfl rfl ⟨(blk_cell HI0.out.1 0).trans rfl, (blk_cell HI0.out.1 1).trans rfl, (blk_cell BK295.out 0).trans rfl, (blk_cell BK295.out 1).trans rfl, (blk_cell BK295.out 2).trans rfl, (blk_cell BK295.out 3).trans rfl, (blk_cell BK295.out 4).trans rfl, (blk_cell BK295.out 5).trans rfl⟩ (fun hHeld => ?_); refine with_tabW spec_l15Do.tab1 spec_l15Do.bits1 (fun HT_ HW_ => ?_)
 generalize w6.drew = w7 at BK295 HI0 HK HB hHeld ⊢
 refine pu_ 0 12 HT_ ?_
 refine pu_ 1 13 HT_ ?_
 refine pu_ 3 15 HT_ ?_
 refine ta_ 2 14 HT_ HW_ hHeld ?_
 refine ta_ 4 16 HT_ HW_ hHeld ?_
 refine join_ (σ := Nat) 2 #[true, true, true, true, true, true, true, true, true, true, false, false] (fun s_ => [(17, .tuple #[.agg #[.string t296, .string t297, .int .i64 t298], .bool t299]), (7, .pointer (some ⟨s_, 0, none⟩)), (11, .tuple #[.agg #[.string t296, .string t297, .int .i64 t298], .bool t299]), (18, .agg #[.string t296, .string t297, .int .i64 t298]), (19, .bool t299)]) (fun s_ w' => (w'.cell? ⟨g, 0, none⟩ = some (.slice A0_0 s0_0.length c0_0) ∧ w'.cell? ⟨g, 1, none⟩ = some (.slice A0_1 s0_1.length c0_1) ∧ w'.cell? ⟨gb295, 0, none⟩ = some (.int .i64 a2_0) ∧ w'.cell? ⟨gb295, 1, none⟩ = some (.int .i64 a2_1) ∧ w'.cell? ⟨gb295, 2, none⟩ = some (.int .i64 a2_2) ∧ w'.cell? ⟨gb295, 3, none⟩ = some (.string a2_3) ∧ w'.cell? ⟨gb295, 4, none⟩ = some (.string a2_4) ∧ w'.cell? ⟨gb295, 5, none⟩ = some (.int .i64 a2_5)) ∧ (w'.heap[gb295]? = some (.cells #[.int .i64 a2_0, .int .i64 a2_1, .int .i64 a2_2, .string a2_3, .string a2_4, .int .i64 a2_5] 59 (0, 0))) ∧ (w'.heap[s_]? = some (.cells #[.string (⟨#[]⟩ : ByteArray), .string (⟨#[]⟩ : ByteArray), .int .i64 0] 81 (0, 0))) ∧ (w.heap.size ≤ s_) ∧ (w0.heap.size ≤ s_) ∧ (g ≠ s_) ∧ (s_ ≠ g) ∧ (gb295 ≠ s_) ∧ (s_ ≠ gb295) ∧ (IsS47 w0 w' g (.slice A0_0 s0_0.length c0_0) (.slice A0_1 s0_1.length c0_1)) ∧ (KeepBut w w' g none) ∧ (Below w0.heap.size w0 w')) ?_ ?_
 rotate_left
 ·intro hCont; refine two_ (i := 5) (j := 9) (Ni := some 17) (Nj := some 7) #[true, true, true, true, true, true, false, false, false, false, false, false] #[true, true, true, true, true, false, false, false, false, true, false, false] rfl rfl rfl rfl (two_of HT_.out gk_) (by decide) (by decide) (fun K hK => ?_) (fun K hK => ?_)
  ·skip
   refine goes_ Try.func110 gk_ rfl #[.agg #[.slice A0_0 s0_0.length c0_0, .slice A0_1 s0_1.length c0_1], .string a2_3] (by rfl) rfl rfl gm_ ?_
   with_reducible refine (spec_ItemOf.calls k _ _ s0_0 _ _ s0_1 a2_3 t296 t297 t298 t299 _ ?side1 ?side2 ?side3 ?side4 A4.out).mono ?_
   (case side1 => exact Kd.C_foot_now HR0_0.out (tk1 HK.out GW295.out))
   (case side2 => exact HC0_0.out)
   (case side3 => exact Kd.C_foot_now HR0_1.out (tk1 HK.out GW295.out))
   (case side4 => exact HC0_1.out)
   rintro e w8 ⟨rfl, hb⟩; refine ⟨_, rfl, ?_⟩; replace BK295 := am (bb BK295.out hb); replace HK := am (KeepBut.trans (tk1 HK.out GW295.out) (KeepBut.of_below hb g none) (.inl rfl)); replace HB := am (below_step (te2 HB.out (IsS47.ge HI0.out) GE295.out) hb); replace HI0 := am (IsS47.below B11x13_ hb); (try clear hb); (try clear hb2); (try clear hk); (try clear hi); (try clear hl); refine hK.out _ _ ⟨(blk_cell HI0.out.1 0).trans rfl, (blk_cell HI0.out.1 1).trans rfl, (blk_cell BK295.out 0).trans rfl, (blk_cell BK295.out 1).trans rfl, (blk_cell BK295.out 2).trans rfl, (blk_cell BK295.out 3).trans rfl, (blk_cell BK295.out 4).trans rfl, (blk_cell BK295.out 5).trans rfl⟩ (fun hHeld => ?_); clear hK K; refine norm_ (a' := ?_) ?_ ?_; rotate_left
   ·show Act.put _ (some 17) _ = _; simp only [Act.put, List.setIfInBounds_toArray, List.set_cons_zero, List.set_cons_succ, i64_w, i32_w]; rfl
   refine pu_ 6 11 HT_ ?_; refine pu_ 7 18 HT_ ?_; refine pu_ 8 19 HT_ ?_; refine one_ (i := 9) (N := some 7) #[true, true, true, true, true, true, true, true, true, true, false, false] rfl rfl (one_of HT_.out gk_) (by decide) (fun K hK => ?_); refine box_step ?hg (N := 7) ?hd (cs := #[.string (⟨#[]⟩ : ByteArray), .string (⟨#[]⟩ : ByteArray), .int .i64 0]) (t := 81) ?hr ?_; (case hd => rfl); (case hg => rfl); (case hr => exact gs_); intro gb300 hg w9 hbox hb; replace HB := am (below_step (te2 HB.out (IsS47.ge HI0.out) GE295.out) hb); have BK300 := am (hbox); have GW300 := am ((bs hg (keep_size HK.out))); have GE300 := am ((Nat.le_trans HW0.out (bs hg (keep_size HK.out)) : w0.heap.size ≤ gb300)); replace HK := am (KeepBut.trans (tk1 HK.out GW295.out) (KeepBut.of_below hb g none) (.inl rfl)); have NB295_300 := am ((nl hg (blk_lt BK295.out))); have NB300_295 := am ((ng hg (blk_lt BK295.out))); replace BK295 := am (bb BK295.out hb); have NB0_300 := am ((nl hg (IsS47.lt HI0.out))); have NB300_0 := am ((ng hg (IsS47.lt HI0.out))); replace HI0 := am (IsS47.below B11x13_ hb); clear hb hbox hg; refine hK.out _ _ ⟨(blk_cell HI0.out.1 0).trans rfl, (blk_cell HI0.out.1 1).trans rfl, (blk_cell BK295.out 0).trans rfl, (blk_cell BK295.out 1).trans rfl, (blk_cell BK295.out 2).trans rfl, (blk_cell BK295.out 3).trans rfl, (blk_cell BK295.out 4).trans rfl, (blk_cell BK295.out 5).trans rfl⟩ (fun hHeld => ?_); clear hK K; refine norm_ (a' := ?_) ?_ ?_; rotate_left
   ·show Act.put _ (some 7) _ = _; simp only [Act.put, List.setIfInBounds_toArray, List.set_cons_zero, List.set_cons_succ, i64_w, i32_w]; rfl
   exact norm_ B11x19_ (hCont (gb300) _ ⟨hHeld, (tb BK295.out), (tb BK300.out), GW300.out, GE300.out, NB0_300.out, NB300_0.out, NB295_300.out, NB300_295.out, B11x1_, (tk2 HK.out GW295.out GW300.out), (te3 HB.out (IsS47.ge HI0.out) GE295.out GE300.out)⟩)
  ·skip
   refine box_step ?hg (N := 7) ?hd (cs := #[.string (⟨#[]⟩ : ByteArray), .string (⟨#[]⟩ : ByteArray), .int .i64 0]) (t := 81) ?hr ?_; (case hd => rfl); (case hg => rfl); (case hr => exact gs_); intro gb300 hg w8 hbox hb; replace HB := am (below_step (te2 HB.out (IsS47.ge HI0.out) GE295.out) hb); have BK300 := am (hbox); have GW300 := am ((bs hg (keep_size HK.out))); have GE300 := am ((Nat.le_trans HW0.out (bs hg (keep_size HK.out)) : w0.heap.size ≤ gb300)); replace HK := am (KeepBut.trans (tk1 HK.out GW295.out) (KeepBut.of_below hb g none) (.inl rfl)); have NB295_300 := am ((nl hg (blk_lt BK295.out))); have NB300_295 := am ((ng hg (blk_lt BK295.out))); replace BK295 := am (bb BK295.out hb); have NB0_300 := am ((nl hg (IsS47.lt HI0.out))); have NB300_0 := am ((ng hg (IsS47.lt HI0.out))); replace HI0 := am (IsS47.below B11x13_ hb); clear hb hbox hg; refine hK.out _ _ ⟨(blk_cell HI0.out.1 0).trans rfl, (blk_cell HI0.out.1 1).trans rfl, (blk_cell BK295.out 0).trans rfl, (blk_cell BK295.out 1).trans rfl, (blk_cell BK295.out 2).trans rfl, (blk_cell BK295.out 3).trans rfl, (blk_cell BK295.out 4).trans rfl, (blk_cell BK295.out 5).trans rfl⟩ (fun hHeld => ?_); clear hK K; refine norm_ (a' := ?_) ?_ ?_; rotate_left
   ·show Act.put _ (some 7) _ = _; simp only [Act.put, List.setIfInBounds_toArray, List.set_cons_zero, List.set_cons_succ, i64_w, i32_w]; rfl
   refine one_ (i := 5) (N := some 17) #[true, true, true, true, true, true, false, false, false, true, false, false] rfl rfl (one_of HT_.out gk_) (by decide) (fun K hK => ?_); refine goes_ Try.func110 gk_ rfl #[.agg #[.slice A0_0 s0_0.length c0_0, .slice A0_1 s0_1.length c0_1], .string a2_3] (by rfl) rfl rfl gm_ ?_
   with_reducible refine (spec_ItemOf.calls k _ _ s0_0 _ _ s0_1 a2_3 t296 t297 t298 t299 _ ?side1 ?side2 ?side3 ?side4 A4.out).mono ?_
   (case side1 => exact Kd.C_foot_now HR0_0.out (tk2 HK.out GW295.out GW300.out))
   (case side2 => exact HC0_0.out)
   (case side3 => exact Kd.C_foot_now HR0_1.out (tk2 HK.out GW295.out GW300.out))
   (case side4 => exact HC0_1.out)
   rintro e w9 ⟨rfl, hb⟩; refine ⟨_, rfl, ?_⟩; replace BK295 := am (bb BK295.out hb); replace BK300 := am (bb BK300.out hb); replace HK := am (KeepBut.trans (tk2 HK.out GW295.out GW300.out) (KeepBut.of_below hb g none) (.inl rfl)); replace HB := am (below_step (te3 HB.out (IsS47.ge HI0.out) GE295.out GE300.out) hb); replace HI0 := am (IsS47.below B11x1_ hb); (try clear hb); (try clear hb2); (try clear hk); (try clear hi); (try clear hl); refine hK.out _ _ ⟨(blk_cell HI0.out.1 0).trans rfl, (blk_cell HI0.out.1 1).trans rfl, (blk_cell BK295.out 0).trans rfl, (blk_cell BK295.out 1).trans rfl, (blk_cell BK295.out 2).trans rfl, (blk_cell BK295.out 3).trans rfl, (blk_cell BK295.out 4).trans rfl, (blk_cell BK295.out 5).trans rfl⟩ (fun hHeld => ?_); clear hK K; refine norm_ (a' := ?_) ?_ ?_; rotate_left
   ·show Act.put _ (some 17) _ = _; simp only [Act.put, List.setIfInBounds_toArray, List.set_cons_zero, List.set_cons_succ, i64_w, i32_w]; rfl
   refine pu_ 6 11 HT_ ?_; refine pu_ 7 18 HT_ ?_; refine pu_ 8 19 HT_ ?_; exact norm_ B11x19_ (hCont (gb300) _ ⟨hHeld, (tb BK295.out), (tb BK300.out), GW300.out, GE300.out, NB0_300.out, NB300_0.out, NB295_300.out, NB300_295.out, B11x1_, (tk2 HK.out GW295.out GW300.out), (te3 HB.out (IsS47.ge HI0.out) GE295.out GE300.out)⟩)
 rintro gb300 w10 ⟨hS_, h0_, h1_, h2_, h3_, h4_, h5_, h6_, h7_, h8_, h9_, h10_⟩
 have n0_ : Aside0 (w10.heap[gb295]? = some (.cells #[.int .i64 a2_0, .int .i64 a2_1, .int .i64 a2_2, .string a2_3, .string a2_4, .int .i64 a2_5] 59 (0, 0))) := ⟨h0_⟩
 have n1_ : Aside0 (w10.heap[gb300]? = some (.cells #[.string (⟨#[]⟩ : ByteArray), .string (⟨#[]⟩ : ByteArray), .int .i64 0] 81 (0, 0))) := ⟨h1_⟩
 have n2_ : Aside0 (w.heap.size ≤ gb300) := ⟨h2_⟩
 have n3_ : Aside0 (w0.heap.size ≤ gb300) := ⟨h3_⟩
 have n4_ : Aside0 (g ≠ gb300) := ⟨h4_⟩
 have n5_ : Aside0 (gb300 ≠ g) := ⟨h5_⟩
 have n6_ : Aside0 (gb295 ≠ gb300) := ⟨h6_⟩
 have n7_ : Aside0 (gb300 ≠ gb295) := ⟨h7_⟩
 have n8_ : Aside0 (IsS47 w0 w10 g (.slice A0_0 s0_0.length c0_0) (.slice A0_1 s0_1.length c0_1)) := ⟨h8_⟩
 have n9_ : Aside0 (KeepBut w w10 g none) := ⟨h9_⟩
 have n10_ : Aside0 (Below w0.heap.size w0 w10) := ⟨h10_⟩
 clear BK295
 clear HI0
 clear HK
 clear HB
 clear h0_ h1_ h2_ h3_ h4_ h5_ h6_ h7_ h8_ h9_ h10_
 have BK295 := n0_
 have BK300 := n1_
 have GW300 := n2_
 have GE300 := n3_
 have NB0_300 := n4_
 have NB300_0 := n5_
 have NB295_300 := n6_
 have NB300_295 := n7_
 have HI0 := n8_
 have HK := n9_
 have HB := n10_
 clear n0_ n1_ n2_ n3_ n4_ n5_ n6_ n7_ n8_ n9_ n10_
 have hHeld : w10.cell? ⟨g, 0, none⟩ = some (.slice A0_0 s0_0.length c0_0) ∧ w10.cell? ⟨g, 1, none⟩ = some (.slice A0_1 s0_1.length c0_1) ∧ w10.cell? ⟨gb295, 0, none⟩ = some (.int .i64 a2_0) ∧ w10.cell? ⟨gb295, 1, none⟩ = some (.int .i64 a2_1) ∧ w10.cell? ⟨gb295, 2, none⟩ = some (.int .i64 a2_2) ∧ w10.cell? ⟨gb295, 3, none⟩ = some (.string a2_3) ∧ w10.cell? ⟨gb295, 4, none⟩ = some (.string a2_4) ∧ w10.cell? ⟨gb295, 5, none⟩ = some (.int .i64 a2_5) := hS_
 refine norm_ (a' := ?_) ?_ ?_
 rotate_left
 ·simp only [putAll, Act.put, List.setIfInBounds_toArray, List.set_cons_zero, List.set_cons_succ]; rfl
 refine one_ (i := 10) (N := none) #[true, true, true, true, true, true, true, true, true, true, true, false] rfl rfl (one_of HT_.out gk_) (by decide) (fun K hK => ?_)
 have hs11 : w10.cell? ⟨gb300, 0, none⟩ = some (.string (⟨#[]⟩ : ByteArray)) := (blk_cell BK300.out 0).trans rfl
 have hfs11 := blk_frozen BK300.out 0
 have hns11_0 := NB295_300.out
 have hms11_0 := NB300_295.out
 have hs12 : w10.cell? ⟨gb300, 1, none⟩ = some (.string (⟨#[]⟩ : ByteArray)) := (blk_cell BK300.out 1).trans rfl
 have hfs12 := blk_frozen BK300.out 1
 have hns12_0 := NB295_300.out
 have hms12_0 := NB300_295.out
 have hs13 : w10.cell? ⟨gb300, 2, none⟩ = some (.int .i64 0) := (blk_cell BK300.out 2).trans rfl
 have hfs13 := blk_frozen BK300.out 2
 have hns13_0 := NB295_300.out
 have hms13_0 := NB300_295.out
 refine skip_ (w1 := ?_) (by rfl) rfl ?_ ?_
 rotate_left
 ·go_simp; rfl
 refine hK.out _ _ ⟨((cell_far (p := ⟨gb300, _, none⟩) NB0_300.out _).trans (((cell_far (p := ⟨gb300, _, none⟩) NB0_300.out _).trans (((cell_far (p := ⟨gb300, _, none⟩) NB0_300.out _).trans (hHeld.1)))))), ((cell_far (p := ⟨gb300, _, none⟩) NB0_300.out _).trans (((cell_far (p := ⟨gb300, _, none⟩) NB0_300.out _).trans (((cell_far (p := ⟨gb300, _, none⟩) NB0_300.out _).trans (hHeld.2.1)))))), ((cell_far (p := ⟨gb300, _, none⟩) NB295_300.out _).trans (((cell_far (p := ⟨gb300, _, none⟩) NB295_300.out _).trans (((cell_far (p := ⟨gb300, _, none⟩) NB295_300.out _).trans (hHeld.2.2.1)))))), ((cell_far (p := ⟨gb300, _, none⟩) NB295_300.out _).trans (((cell_far (p := ⟨gb300, _, none⟩) NB295_300.out _).trans (((cell_far (p := ⟨gb300, _, none⟩) NB295_300.out _).trans (hHeld.2.2.2.1)))))), ((cell_far (p := ⟨gb300, _, none⟩) NB295_300.out _).trans (((cell_far (p := ⟨gb300, _, none⟩) NB295_300.out _).trans (((cell_far (p := ⟨gb300, _, none⟩) NB295_300.out _).trans (hHeld.2.2.2.2.1)))))), ((cell_far (p := ⟨gb300, _, none⟩) NB295_300.out _).trans (((cell_far (p := ⟨gb300, _, none⟩) NB295_300.out _).trans (((cell_far (p := ⟨gb300, _, none⟩) NB295_300.out _).trans (hHeld.2.2.2.2.2.1)))))), ((cell_far (p := ⟨gb300, _, none⟩) NB295_300.out _).trans (((cell_far (p := ⟨gb300, _, none⟩) NB295_300.out _).trans (((cell_far (p := ⟨gb300, _, none⟩) NB295_300.out _).trans (hHeld.2.2.2.2.2.2.1)))))), ((cell_far (p := ⟨gb300, _, none⟩) NB295_300.out _).trans (((cell_far (p := ⟨gb300, _, none⟩) NB295_300.out _).trans (((cell_far (p := ⟨gb300, _, none⟩) NB295_300.out _).trans (hHeld.2.2.2.2.2.2.2))))))⟩ (fun hHeld => ?_)
 clear hK K
 refine pu_ 11 8 HT_ ?_
 refine done_ (done_of HT_.out gk_) ?_
 have hnb14 := NB295_300.out
 have hnc14 := NB300_295.out
 have hnb15 := NB295_0.out
 have hnc15 := NB0_295.out
 obtain ⟨hcz16_0, hcz16_1, hcz16_2, hcz16_3, hcz16_4, hcz16_5⟩ := cl6 BK295.out
 obtain ⟨hfz16_0, hfz16_1, hfz16_2, hfz16_3, hfz16_4, hfz16_5⟩ := fr6 BK295.out
 go_upto_block 0 with (fail)
 go_cut [] (fun wc => ∃ (kq : Nat), Aside0 (spec_l15Do.j1 kq a1 s0_0 s0_1 a2_0 a2_1 a2_2 a2_3 a2_4 a2_5 = some (r1, r2)) ∧ Aside0 (kq ≤ k) ∧ Aside0 (wc.heap[gb295]? = some (.cells #[.int .i64 a2_0, .int .i64 a2_1, .int .i64 a2_2, .string a2_3, .string a2_4, .int .i64 a2_5] 59 (0, 0))) ∧ Aside0 (wc.heap[gb300]? = some (.cells #[.string t296, .string t297, .int .i64 t298] 81 (0, 0))) ∧ Aside0 (IsS47 w0 wc g (.slice A0_0 s0_0.length c0_0) (.slice A0_1 s0_1.length c0_1)) ∧ Aside0 (KeepBut w wc g none) ∧ Aside0 (Below w0.heap.size w0 wc))
 case first =>
  have H := HC5.out; clear HC5
  by_cases c17 : a2_0 = 3
  ·rw [if_pos c17] at H; have c17b0 := beq_iff_eq.mpr c17; have c17b1 := bne_eq_false_iff_eq.mpr c17; clear c17
   (first | rw [c17b0] | (simp only [i64_w, i32_w]; rw [c17b0]) | skip)
   by_cases c18 : t299 = true
   ·subst c18; rw [if_pos rfl] at H; replace H := bsi H; obtain ⟨t301, A19, H⟩ := H; (try dsimp only at H)
    by_cases c20 : 3 + t301.size ≤ 9223372036854775807
    rotate_left
    ·rw [if_neg c20] at H; exact absurd H (by simp)
    rw [if_pos c20] at H; have c20b0 := eq_true c20
    have c20b1 : decide (3 + t301.size ≤ 9223372036854775807) = true := decide_eq_true c20
    try have c20b2 : (9223372036854775807 < 3 + t301.size) = False := eq_false (Nat.not_lt.2 c20)
    try (have c20b9 := c20b2; simp only [ByteArray.size_append] at c20b9)
    by_cases c21 : ((⟨#[105, 115, 32]⟩ : ByteArray) ++ t301).size + 1 ≤ 9223372036854775807
    rotate_left
    ·rw [if_neg c21] at H; exact absurd H (by simp)
    rw [if_pos c21] at H; have c21b0 := eq_true c21
    have c21b1 : decide (((⟨#[105, 115, 32]⟩ : ByteArray) ++ t301).size + 1 ≤ 9223372036854775807) = true := decide_eq_true c21
    try have c21b2 : (9223372036854775807 < ((⟨#[105, 115, 32]⟩ : ByteArray) ++ t301).size + 1) = False := eq_false (Nat.not_lt.2 c21)
    try have c21b8 : (9223372036854775807 < 3 + t301.size + 1) = False := eq_false (by have z0_ : (⟨#[105, 115, 32]⟩ : ByteArray).size = 3 := rfl; have h_ := c21; simp only [ByteArray.size_append, ByteArray.size_extract, decide_eq_true_eq, decide_eq_false_iff_not] at *; omega)
    try (have c21b9 := c21b2; simp only [ByteArray.size_append] at c21b9)
    by_cases c22 : (((⟨#[105, 115, 32]⟩ : ByteArray) ++ t301) ++ (⟨#[32]⟩ : ByteArray)).size + t297.size ≤ 9223372036854775807
    rotate_left
    ·rw [if_neg c22] at H; exact absurd H (by simp)
    rw [if_pos c22] at H; have c22b0 := eq_true c22
    have c22b1 : decide ((((⟨#[105, 115, 32]⟩ : ByteArray) ++ t301) ++ (⟨#[32]⟩ : ByteArray)).size + t297.size ≤ 9223372036854775807) = true := decide_eq_true c22
    try have c22b2 : (9223372036854775807 < (((⟨#[105, 115, 32]⟩ : ByteArray) ++ t301) ++ (⟨#[32]⟩ : ByteArray)).size + t297.size) = False := eq_false (Nat.not_lt.2 c22)
    try have c22b8 : (9223372036854775807 < 3 + t301.size + 1 + t297.size) = False := eq_false (by have z0_ : (⟨#[105, 115, 32]⟩ : ByteArray).size = 3 := rfl; have z1_ : (⟨#[32]⟩ : ByteArray).size = 1 := rfl; have h_ := c22; simp only [ByteArray.size_append, ByteArray.size_extract, decide_eq_true_eq, decide_eq_false_iff_not] at *; omega)
    try (have c22b9 := c22b2; simp only [ByteArray.size_append] at c22b9)
    simp only [Option.some.injEq, Prod.mk.injEq] at H; obtain ⟨rfl, rfl⟩ := H
    try go_wp2
    have n0_ : Aside0 ((((w10.setCell ⟨gb300, 0, none⟩ (.string t296)).setCell ⟨gb300, 1, none⟩ (.string t297)).setCell ⟨gb300, 2, none⟩ (.int .i64 t298)).heap[gb295]? = some (.cells #[.int .i64 a2_0, .int .i64 a2_1, .int .i64 a2_2, .string a2_3, .string a2_4, .int .i64 a2_5] 59 (0, 0))) := ⟨(tp1 BK295.out NB295_300.out)⟩
    have n1_ : Aside0 ((((w10.setCell ⟨gb300, 0, none⟩ (.string t296)).setCell ⟨gb300, 1, none⟩ (.string t297)).setCell ⟨gb300, 2, none⟩ (.int .i64 t298)).heap[gb300]? = some (.cells #[.string t296, .string t297, .int .i64 t298] 81 (0, 0))) := ⟨(tp0 BK300.out)⟩
    have n2_ : Aside0 (IsS47 w0 (((w10.setCell ⟨gb300, 0, none⟩ (.string t296)).setCell ⟨gb300, 1, none⟩ (.string t297)).setCell ⟨gb300, 2, none⟩ (.int .i64 t298)) g (.slice A0_0 s0_0.length c0_0) (.slice A0_1 s0_1.length c0_1)) := ⟨B11x1_⟩
    have n3_ : Aside0 (KeepBut w (((w10.setCell ⟨gb300, 0, none⟩ (.string t296)).setCell ⟨gb300, 1, none⟩ (.string t297)).setCell ⟨gb300, 2, none⟩ (.int .i64 t298)) g none) := ⟨(tk2 HK.out GW295.out GW300.out)⟩
    have n4_ : Aside0 (Below w0.heap.size w0 (((w10.setCell ⟨gb300, 0, none⟩ (.string t296)).setCell ⟨gb300, 1, none⟩ (.string t297)).setCell ⟨gb300, 2, none⟩ (.int .i64 t298))) := ⟨(te3 HB.out (IsS47.ge HI0.out) GE295.out GE300.out)⟩
    (try clear BK295); (try clear BK300); (try clear HI0); (try clear HK); (try clear HB); generalize (((w10.setCell ⟨gb300, 0, none⟩ (.string t296)).setCell ⟨gb300, 1, none⟩ (.string t297)).setCell ⟨gb300, 2, none⟩ (.int .i64 t298)) = w23 at n0_ n1_ n2_ n3_ n4_ ⊢; have BK295 := n0_; have BK300 := n1_; have HI0 := n2_; have HK := n3_; have HB := n4_; clear n0_ n1_ n2_ n3_ n4_; replace BK295 := am (blk_drew BK295.out); replace BK300 := am (blk_drew BK300.out); replace HI0 := am (IsS47.drew HI0.out); replace HK := am (keep_drew HK.out); replace HB := am (below_drew1 HB.out); refine start_ (n := 9) (S := fun w' => w'.cell? ⟨gb300, 0, none⟩ = some (.string t296) ∧ w'.cell? ⟨gb300, 1, none⟩ = some (.string t297) ∧ w'.cell? ⟨gb300, 2, none⟩ = some (.int .i64 t298)) (ds := []) #[false, false, false, false, false, false, false, false, false] gk_ rfl rfl ⟨(blk_cell BK300.out 0).trans rfl, (blk_cell BK300.out 1).trans rfl, (blk_cell BK300.out 2).trans rfl⟩ (fun hHeld => ?_); refine with_tabW spec_l15Do.tab6 spec_l15Do.bits6 (fun HT_ HW_ => ?_); generalize w23.drew = w24 at BK295 BK300 HI0 HK HB hHeld ⊢; refine pu_ 0 26 HT_ ?_; refine pu_ 5 31 HT_ ?_; refine ta_ 1 27 HT_ HW_ hHeld ?_; refine ta_ 6 32 HT_ HW_ hHeld ?_; refine one_ (i := 2) (N := some 28) #[true, true, true, false, false, true, true, false, false] rfl rfl (one_of HT_.out gk_) (by decide) (fun K hK => ?_); refine goes_ Try.func89 gk_ rfl #[.int .i64 t298] (by rfl) rfl rfl gm_ ?_
    with_reducible refine (spec_Decimal.calls k t298 t301 _ A19.out).mono ?_
    rintro e w25 ⟨rfl, hb⟩; refine ⟨_, rfl, ?_⟩; replace BK295 := am (bb BK295.out hb); replace BK300 := am (bb BK300.out hb); replace HK := am (KeepBut.trans (tk2 HK.out GW295.out GW300.out) (KeepBut.of_below hb g none) (.inl rfl)); replace HB := am (below_step (te3 HB.out (IsS47.ge HI0.out) GE295.out GE300.out) hb); replace HI0 := am (IsS47.below B11x1_ hb); (try clear hb); (try clear hb2); (try clear hk); (try clear hi); (try clear hl); refine hK.out _ _ ⟨(blk_cell BK300.out 0).trans rfl, (blk_cell BK300.out 1).trans rfl, (blk_cell BK300.out 2).trans rfl⟩ (fun hHeld => ?_); clear hK K; refine norm_ (a' := ?_) ?_ ?_; rotate_left
    ·show Act.put _ (some 28) _ = _; simp only [Act.put, List.setIfInBounds_toArray, List.set_cons_zero, List.set_cons_succ, i64_w, i32_w]; rfl
    refine pu_ 3 29 HT_ ?_; refine pu_ 4 30 HT_ ?_; refine pu_ 7 33 HT_ ?_; refine pu_ 8 6 HT_ ?_; refine done_ (done_of HT_.out gk_) ?_
    try go_wp2
    go_ret; exact ⟨_, B11x9_, B11x1_, Kd.R_keep HOW.out (tk2 HK.out GW295.out GW300.out) (fun _ h_ => h_), (te3 HB.out (IsS47.ge HI0.out) GE295.out GE300.out), (tk2 HK.out GW295.out GW300.out)⟩
   ·replace c18 := Bool.eq_false_iff.mpr c18; subst c18; rw [if_neg (show ¬ (false = true) by decide)] at H; simp only [Option.some.injEq, Prod.mk.injEq] at H; obtain ⟨rfl, rfl⟩ := H
    go_wp2
    go_ret; exact ⟨_, B11x9_, B11x1_, Kd.R_keep HOW.out (tk2 HK.out GW295.out GW300.out) (fun _ h_ => h_), (te3 HB.out (IsS47.ge HI0.out) GE295.out GE300.out), (tk2 HK.out GW295.out GW300.out)⟩
  ·rw [if_neg c17] at H; have c17b0 := beq_eq_false_iff_ne.mpr c17; have c17b1 := bne_iff_ne.mpr c17
   (first | rw [c17b0] | (simp only [i64_w, i32_w]; rw [c17b0]) | skip)
   by_cases c26 : a2_0 = 4
   ·rw [if_pos c26] at H; have c26b0 := beq_iff_eq.mpr c26; have c26b1 := bne_eq_false_iff_eq.mpr c26; clear c26
    by_cases c27 : t299 = true
    ·subst c27; rw [if_pos rfl] at H; obtain ⟨y302, hy302⟩ : ∃ y_ : List (S81), y_ = (([] : List (S81))) := ⟨_, rfl⟩
     replace H : (spec_l15Do.l0 k y302 0 s0_0 s0_1 a2_0 a2_1 a2_2 a2_3 a2_4 a2_5) = some (r1, r2) := by first | (rw [hy302]; with_reducible exact H) | (have H2_ := (Option.bind_some _ _).symm.trans H; rw [hy302]; with_reducible exact H2_) | (have H2_ := (Option.bind_some _ _).symm.trans H; with_reducible exact H2_) | with_reducible exact H | (rw [hy302]; exact H) | exact H
     have Ny302 := am hy302; clear hy302
     have H' := am H
     clear H
     go_wp2_with (first | ((with_reducible refine gate_dst (N := 38) rfl ?_); refine Kd.R_lit k81 _ 81 ?hg (N := 38) ?hd (xs := ([] : List (S81))) (inner := []) (ok := fun _ => True) (okp := fun _ => True) ?hr ?hp (fun _ hk => hk) trivial (Below.refl _ _) (Nat.le_refl _) (by simp) ?_; (case hd => rfl); (case hg => rfl); (case hr => exact gs_); (case hp => exact (Reps.none _ _)); intro v303 w28 ho29 hb hg_ hnew_; clear hg_ hnew_; (first | rw [← Ny302.out] at ho29 | (simp only [Int.reduceToNat] at ho29; rw [← Ny302.out] at ho29)); have HO304 := am (Kd.R_lower (Kd.R_newB ho29 (g := gb300) (o := .cells #[.string t296, .string t297, .int .i64 t298] 81 (0, 0)) (tp0 BK300.out)) (keep_size (w := w) (g := g) (row := none) (tk2 HK.out GW295.out GW300.out))); replace BK295 := am (blk_below (g := gb295) (o := .cells #[.int .i64 a2_0, .int .i64 a2_1, .int .i64 a2_2, .string a2_3, .string a2_4, .int .i64 a2_5] 59 (0, 0)) (tp1 BK295.out NB295_300.out) hb); replace BK300 := am (blk_below (g := gb300) (o := .cells #[.string t296, .string t297, .int .i64 t298] 81 (0, 0)) (tp0 BK300.out) hb); replace HK := am (KeepBut.trans (tk2 HK.out GW295.out GW300.out) (KeepBut.of_below hb g none) (.inl rfl)); replace HB := am (below_step (te3 HB.out (IsS47.ge HI0.out) GE295.out GE300.out) hb); replace HI0 := am (IsS47.below (show IsS47 w0 (((w10.setCell ⟨gb300, 0, none⟩ (.string t296)).setCell ⟨gb300, 1, none⟩ (.string t297)).setCell ⟨gb300, 2, none⟩ (.int .i64 t298)) g (.slice A0_0 s0_0.length c0_0) (.slice A0_1 s0_1.length c0_1) from B11x1_) hb); clear hb ho29))
     go_loopg [9, 10] k (fun kq v9 v10 w' => ∃ (x9_1 : List (S81)) (x10_1 : Int), v10 = .int .i64 x10_1 ∧ Aside0 (spec_l15Do.l0 kq x9_1 x10_1 s0_0 s0_1 a2_0 a2_1 a2_2 a2_3 a2_4 a2_5 = some (r1, r2)) ∧ Aside0 (kq ≤ k) ∧ Aside0 (Kd.R k81 81 w' w.heap.size (fun k_ => k_ ≠ gb300) v9 x9_1) ∧ Aside0 (w'.heap[gb295]? = some (.cells #[.int .i64 a2_0, .int .i64 a2_1, .int .i64 a2_2, .string a2_3, .string a2_4, .int .i64 a2_5] 59 (0, 0))) ∧ Aside0 (w'.heap[gb300]? = some (.cells #[.string t296, .string t297, .int .i64 t298] 81 (0, 0))) ∧ Aside0 (IsS47 w0 w' g (.slice A0_0 s0_0.length c0_0) (.slice A0_1 s0_1.length c0_1)) ∧ Aside0 (KeepBut w w' g none) ∧ Aside0 (Below w0.heap.size w0 w'))
     case atStart => exact ⟨(y302), (0), (be_), H', ⟨Nat.le_refl _⟩, ⟨(by (with_reducible repeat (first | apply Kd.R_alloc | apply Kd.R_drewN | apply Kd.R_drew)); exact Kd.R_mono HO304.out (fun _ hk => hk.2))⟩, ⟨(tb BK295.out)⟩, ⟨(tb BK300.out)⟩, ⟨B11x1_⟩, ⟨(tk2 HK.out GW295.out GW300.out)⟩, ⟨(te3 HB.out (IsS47.ge HI0.out) GE295.out GE300.out)⟩⟩
     case round =>
      clear H'
      try clear c17
      try clear c17b0
      try clear c17b1
      try clear c26
      try clear c26b0
      try clear c26b1
      try clear c27
      try clear hcz16_0
      try clear hcz16_1
      try clear hcz16_2
      try clear hcz16_3
      try clear hcz16_4
      try clear hcz16_5
      try clear hfz16_0
      try clear hfz16_1
      try clear hfz16_2
      try clear hfz16_3
      try clear hfz16_4
      try clear hfz16_5
      obtain ⟨x9_1, x10_1, rfl, HA, HK1, HO_9, BK295, BK300, HI0, HK, HB⟩ := hrel
      cases gk with
      | zero => exact absurd HA.out (by simp [spec_l15Do.l0])
      | succ k1 =>
       have H := HA.out; clear HA; simp only [spec_l15Do.l0] at H
       by_cases c30 : x10_1 < (s0_1.length : Int)
       ·rw [if_pos c30] at H
        have c30b0 : decide (x10_1 < (s0_1.length : Int)) = true := decide_eq_true c30
        clear c30
        by_cases c31 : 0 ≤ x10_1
        rotate_left
        ·rw [if_neg c31] at H; exact absurd H (by simp)
        rw [if_pos c31] at H
        have c31b0 : decide (0 ≤ x10_1) = true := decide_eq_true c31
        clear c31
        by_cases c32 : ((rd_T81 s0_1 x10_1).f0).toList = a2_3.toList
        ·rw [if_pos c32] at H; have c32b0 := beq_iff_eq.mpr c32; have c32b1 := bne_eq_false_iff_eq.mpr c32; clear c32
         have H' := am H
         clear H; obtain ⟨HGz33, hgz33⟩ := HI0.out; have hcz33_0 := cellS47_0 HGz33; have hcz33_1 := cellS47_1 HGz33; have hfz33_1 := blk_frozen HGz33 1; clear HGz33 hgz33
         try go_wp2
         replace HO_9 := am (Kd.R_drew HO_9.out); replace BK295 := am (blk_drew BK295.out); replace BK300 := am (blk_drew BK300.out); replace HI0 := am (IsS47.drew HI0.out); replace HK := am (keep_drew HK.out); replace HB := am (below_drew1 HB.out)
         have p305 : 0 ≤ (x10_1 : Int) := dga
         have q305 : x10_1 < (s0_1.length : Int) := dga
         obtain ⟨ad305, e305, hx305_0, hx305_1, hx305_2⟩ := at_T81 (Kd.C_foot_now HR0_1.out HK.out) x10_1 p305 q305; have hw305_2 := hx305_2; have hw305_1 := hx305_1; have hw305_0 := hx305_0; cases e305; have hne305_2 := (show (⟨(ad305.add ((x10_1).toNat * 3)).block, (ad305.add ((x10_1).toNat * 3)).off + 2, none⟩ : Addr).block ≠ g from B11x3_); have hlt305_2 := (Kd.foot_lt HR0_1.out (by omega) (by decide)); have hne305_1 := (show (⟨(ad305.add ((x10_1).toNat * 3)).block, (ad305.add ((x10_1).toNat * 3)).off + 1, none⟩ : Addr).block ≠ g from B11x3_); have hlt305_1 := (Kd.foot_lt HR0_1.out (by omega) (by decide)); have hne305_0 := (show ((ad305.add ((x10_1).toNat * 3)) : Addr).block ≠ g from B11x3_); have hlt305_0 := (Kd.foot_lt HR0_1.out (by omega) (by decide)); replace p305 := eq_true p305; replace q305 := eq_true q305; refine start_ (n := 11) (S := fun w' => w'.cell? ⟨g, 0, none⟩ = some (.slice A0_0 s0_0.length c0_0) ∧ w'.cell? ⟨g, 1, none⟩ = some (.slice (some ad305) s0_1.length c0_1) ∧ w'.cell? ⟨gb295, 0, none⟩ = some (.int .i64 a2_0) ∧ w'.cell? ⟨gb295, 1, none⟩ = some (.int .i64 a2_1) ∧ w'.cell? ⟨gb295, 2, none⟩ = some (.int .i64 a2_2) ∧ w'.cell? ⟨gb295, 3, none⟩ = some (.string a2_3) ∧ w'.cell? ⟨gb295, 4, none⟩ = some (.string a2_4) ∧ w'.cell? ⟨gb295, 5, none⟩ = some (.int .i64 a2_5) ∧ w'.cell? (ad305.add ((x10_1).toNat * 3)) = some (.string ((rd_T81 s0_1 x10_1).f0)) ∧ w'.cell? ⟨(ad305.add ((x10_1).toNat * 3)).block, (ad305.add ((x10_1).toNat * 3)).off + 1, none⟩ = some (.string ((rd_T81 s0_1 x10_1).f1)) ∧ w'.cell? ⟨(ad305.add ((x10_1).toNat * 3)).block, (ad305.add ((x10_1).toNat * 3)).off + 2, none⟩ = some (.int .i64 ((rd_T81 s0_1 x10_1).f2))) (ds := []) #[false, false, false, false, false, false, false, false, false, false, false] gk_ rfl rfl ⟨(blk_cell HI0.out.1 0).trans rfl, (blk_cell HI0.out.1 1).trans rfl, (blk_cell BK295.out 0).trans rfl, (blk_cell BK295.out 1).trans rfl, (blk_cell BK295.out 2).trans rfl, (blk_cell BK295.out 3).trans rfl, (blk_cell BK295.out 4).trans rfl, (blk_cell BK295.out 5).trans rfl, hx305_0, hx305_1, hx305_2⟩ (fun hHeld => ?_); refine with_tabW spec_l15Do.tab14 spec_l15Do.bits14 (fun HT_ HW_ => ?_); generalize wr.drew = w34 at HO_9 BK295 BK300 HI0 HK HB hx305_0 hx305_1 hx305_2 hHeld ⊢; refine pu_ 0 48 HT_ ?_; refine pu_ 1 49 HT_ ?_; refine pu_ 2 50 HT_ ?_; refine pu_ 4 52 HT_ ?_; refine pu_ 8 56 HT_ ?_; refine ta_ 3 51 HT_ HW_ hHeld ?_; refine pu_ 5 53 HT_ ?_; refine pu_ 6 54 HT_ ?_; refine ta_ 7 55 HT_ HW_ hHeld ?_; refine ta_ 9 57 HT_ HW_ hHeld ?_; refine pu_ 10 58 HT_ ?_; refine done_ (done_of HT_.out gk_) ?_
         try go_wp2
         go_roundg k1
         case measure => have := HK1.out; omega
         case rel => exact ⟨(x9_1), (wrap64 (x10_1 + 1)), (be_), H', ⟨(by have := HK1.out; omega)⟩, ⟨(tr HO_9.out)⟩, ⟨(tb BK295.out)⟩, ⟨(tb BK300.out)⟩, ⟨B11x1_⟩, ⟨(tk2 HK.out GW295.out GW300.out)⟩, ⟨(te3 HB.out (IsS47.ge HI0.out) GE295.out GE300.out)⟩⟩
        ·rw [if_neg c32] at H; have c32b0 := beq_eq_false_iff_ne.mpr c32; have c32b1 := bne_iff_ne.mpr c32
         by_cases c35 : x9_1.length < 3518437208883
         rotate_left
         ·rw [if_neg c35] at H; exact absurd H (by simp)
         rw [if_pos c35] at H; have LMc35 := am c35; clear c35; obtain ⟨y307, hy307⟩ : ∃ y_ : List (S81), y_ = (x9_1 ++ [(⟨(rd_T81 s0_1 x10_1).f0, (rd_T81 s0_1 x10_1).f1, (rd_T81 s0_1 x10_1).f2⟩ : S81)]) := ⟨_, rfl⟩
         replace H : (spec_l15Do.l0 k1 y307 (wrap64 (x10_1 + 1)) s0_0 s0_1 a2_0 a2_1 a2_2 a2_3 a2_4 a2_5) = some (r1, r2) := by first | (rw [hy307]; with_reducible exact H) | (have H2_ := (Option.bind_some _ _).symm.trans H; rw [hy307]; with_reducible exact H2_) | (have H2_ := (Option.bind_some _ _).symm.trans H; with_reducible exact H2_) | with_reducible exact H | (rw [hy307]; exact H) | exact H
         have Ny307 := am hy307; clear hy307
         have H' := am H
         clear H; obtain ⟨HGz36, hgz36⟩ := HI0.out; have hcz36_0 := cellS47_0 HGz36; have hcz36_1 := cellS47_1 HGz36; have hfz36_1 := blk_frozen HGz36 1; clear HGz36 hgz36
         try go_wp2
         replace HO_9 := am (Kd.R_drew HO_9.out); replace BK295 := am (blk_drew BK295.out); replace BK300 := am (blk_drew BK300.out); replace HI0 := am (IsS47.drew HI0.out); replace HK := am (keep_drew HK.out); replace HB := am (below_drew1 HB.out)
         have p305 : 0 ≤ (x10_1 : Int) := dga
         have q305 : x10_1 < (s0_1.length : Int) := dga
         obtain ⟨ad305, e305, hx305_0, hx305_1, hx305_2⟩ := at_T81 (Kd.C_foot_now HR0_1.out HK.out) x10_1 p305 q305; have hw305_2 := hx305_2; have hw305_1 := hx305_1; have hw305_0 := hx305_0; cases e305; have hne305_2 := (show (⟨(ad305.add ((x10_1).toNat * 3)).block, (ad305.add ((x10_1).toNat * 3)).off + 2, none⟩ : Addr).block ≠ g from B11x3_); have hlt305_2 := (Kd.foot_lt HR0_1.out (by omega) (by decide)); have hne305_1 := (show (⟨(ad305.add ((x10_1).toNat * 3)).block, (ad305.add ((x10_1).toNat * 3)).off + 1, none⟩ : Addr).block ≠ g from B11x3_); have hlt305_1 := (Kd.foot_lt HR0_1.out (by omega) (by decide)); have hne305_0 := (show ((ad305.add ((x10_1).toNat * 3)) : Addr).block ≠ g from B11x3_); have hlt305_0 := (Kd.foot_lt HR0_1.out (by omega) (by decide)); replace p305 := eq_true p305; replace q305 := eq_true q305; refine start_ (n := 11) (S := fun w' => w'.cell? ⟨g, 0, none⟩ = some (.slice A0_0 s0_0.length c0_0) ∧ w'.cell? ⟨g, 1, none⟩ = some (.slice (some ad305) s0_1.length c0_1) ∧ w'.cell? ⟨gb295, 0, none⟩ = some (.int .i64 a2_0) ∧ w'.cell? ⟨gb295, 1, none⟩ = some (.int .i64 a2_1) ∧ w'.cell? ⟨gb295, 2, none⟩ = some (.int .i64 a2_2) ∧ w'.cell? ⟨gb295, 3, none⟩ = some (.string a2_3) ∧ w'.cell? ⟨gb295, 4, none⟩ = some (.string a2_4) ∧ w'.cell? ⟨gb295, 5, none⟩ = some (.int .i64 a2_5) ∧ w'.cell? (ad305.add ((x10_1).toNat * 3)) = some (.string ((rd_T81 s0_1 x10_1).f0)) ∧ w'.cell? ⟨(ad305.add ((x10_1).toNat * 3)).block, (ad305.add ((x10_1).toNat * 3)).off + 1, none⟩ = some (.string ((rd_T81 s0_1 x10_1).f1)) ∧ w'.cell? ⟨(ad305.add ((x10_1).toNat * 3)).block, (ad305.add ((x10_1).toNat * 3)).off + 2, none⟩ = some (.int .i64 ((rd_T81 s0_1 x10_1).f2))) (ds := []) #[false, false, false, false, false, false, false, false, false, false, false] gk_ rfl rfl ⟨(blk_cell HI0.out.1 0).trans rfl, (blk_cell HI0.out.1 1).trans rfl, (blk_cell BK295.out 0).trans rfl, (blk_cell BK295.out 1).trans rfl, (blk_cell BK295.out 2).trans rfl, (blk_cell BK295.out 3).trans rfl, (blk_cell BK295.out 4).trans rfl, (blk_cell BK295.out 5).trans rfl, hx305_0, hx305_1, hx305_2⟩ (fun hHeld => ?_); refine with_tabW spec_l15Do.tab14 spec_l15Do.bits14 (fun HT_ HW_ => ?_); generalize wr.drew = w37 at HO_9 BK295 BK300 HI0 HK HB hx305_0 hx305_1 hx305_2 hHeld ⊢; refine pu_ 0 48 HT_ ?_; refine pu_ 1 49 HT_ ?_; refine pu_ 2 50 HT_ ?_; refine pu_ 4 52 HT_ ?_; refine pu_ 8 56 HT_ ?_; refine ta_ 3 51 HT_ HW_ hHeld ?_; refine pu_ 5 53 HT_ ?_; refine pu_ 6 54 HT_ ?_; refine ta_ 7 55 HT_ HW_ hHeld ?_; refine ta_ 9 57 HT_ HW_ hHeld ?_; refine pu_ 10 58 HT_ ?_; refine done_ (done_of HT_.out gk_) ?_; obtain ⟨HGz38, hgz38⟩ := HI0.out; have hcz38_0 := cellS47_0 HGz38; have hcz38_1 := cellS47_1 HGz38; have hfz38_1 := blk_frozen HGz38 1; clear HGz38 hgz38
         have p306 : 0 ≤ (x10_1 : Int) := dga
         have q306 : x10_1 < (s0_1.length : Int) := dga
         obtain ⟨ad306, e306, hx306_0, hx306_1, hx306_2⟩ := at_T81 (Kd.C_foot_now HR0_1.out HK.out) x10_1 p306 q306; obtain rfl : ad305 = ad306 := (by injection e306); replace p306 := eq_true p306; replace q306 := eq_true q306
         try go_wp2_with (first | ((with_reducible refine gate_builtin (b := .append) (xs := #[.tmp 59, .tmp 67]) rfl ?_); at_builtin; refine Kd.R_append k81 w.heap.size rfl (.tmp 59) (.tmp 67) 45 81 (.agg #[(.string ⟨#[]⟩), (.string ⟨#[]⟩), (.int .i64 0)]) 40 rfl Try.underlying45 info81 rfl (by decide) (by omega) u9 x9_1 (⟨(rd_T81 s0_1 x10_1).f0, (rd_T81 s0_1 x10_1).f1, (rd_T81 s0_1 x10_1).f2⟩ : S81) [.string ((rd_T81 s0_1 x10_1).f0), .string ((rd_T81 s0_1 x10_1).f1), .int .i64 ((rd_T81 s0_1 x10_1).f2)] (fun k_ => k_ ≠ gb300) (fun _ => False) rfl rfl ?aP (fun _ hk => hk.elim) ?aF ?aO (Below.refl _ _) ?aS ?aL ?_; (case aP => exact k81_mkM _ _ _ (⟨(rd_T81 s0_1 x10_1).f0, (rd_T81 s0_1 x10_1).f1, (rd_T81 s0_1 x10_1).f2⟩ : S81)); (case aF => exact (fun k_ hk => Kd.freshB (g := gb300) (o := .cells #[.string t296, .string t297, .int .i64 t298] 81 (0, 0)) (tb BK300.out) k_ hk)); (case aO => exact (tr HO_9.out)); (case aS => exact (keep_size (w := w) (g := g) (row := none) (tk2 HK.out GW295.out GW300.out))); (case aL => have := LMc35.out; omega); intro v308 w39 ho hb hg hat; rw [← Ny307.out] at ho; replace BK295 := am (blk_grown (g := gb295) (o := .cells #[.int .i64 a2_0, .int .i64 a2_1, .int .i64 a2_2, .string a2_3, .string a2_4, .int .i64 a2_5] 59 (0, 0)) (tb BK295.out) hg (Kd.R_ne HO_9.out BK295.out (by decide))); replace BK300 := am (blk_grown (g := gb300) (o := .cells #[.string t296, .string t297, .int .i64 t298] 81 (0, 0)) (tb BK300.out) hg (Kd.R_away HO_9.out (fun _ hk => hk))); replace HB := am (below_weaken (te3 HB.out (IsS47.ge HI0.out) GE295.out GE300.out) HL.out hb); replace HI0 := am (IsS47.grown (by repeat (first | (with_reducible first | exact HI0.out | apply IsS47.alloc | apply IsS47.drewN | apply IsS47.drew | apply IsS47.set_1 | apply IsS47.far (p := ⟨gb295, _, none⟩) (hne := NB0_295.out) | apply IsS47.far (p := ⟨gb300, _, none⟩) (hne := NB0_300.out)) | exact HI0.out)) hg (IsS47.own_ne HI0.out HO_9.out (by decide))); replace HK := am (KeepBut.trans (tk2 HK.out GW295.out GW300.out) (KeepBut.of_grown hg g) (Kd.R_base2 HO_9.out)); have HO309 := am (ho); clear HO_9; clear ho hb hg hat))
         go_roundg k1
         case measure => have := HK1.out; omega
         case rel => exact ⟨(y307), (wrap64 (x10_1 + 1)), (be_), H', ⟨(by have := HK1.out; omega)⟩, ⟨(tr HO309.out)⟩, ⟨(tb BK295.out)⟩, ⟨(tb BK300.out)⟩, ⟨B11x1_⟩, ⟨(tk2 HK.out GW295.out GW300.out)⟩, ⟨(te3 HB.out (IsS47.ge HI0.out) GE295.out GE300.out)⟩⟩
       ·rw [if_neg c30] at H
        have c30b0 : decide (x10_1 < (s0_1.length : Int)) = false := decide_eq_false c30
        clear c30; simp only [Option.some.injEq, Prod.mk.injEq] at H; obtain ⟨rfl, rfl⟩ := H; obtain ⟨HGz40, hgz40⟩ := HI0.out; have hcz40_0 := cellS47_0 HGz40; have hcz40_1 := cellS47_1 HGz40; have hfz40_1 := blk_frozen HGz40 1; clear HGz40 hgz40; obtain ⟨Ao41, co41, eo41⟩ := Kd.R_slice HO_9.out; subst eo41
        go_wp2
        go_ret
        exact ⟨_, B11x9_, B11x1_, (by first | exact Kd.R_lower (Kd.R_mono (IsS47.apart (show IsS47 w0 _ g (.slice A0_0 s0_0.length c0_0) (.slice Ao41 x9_1.length co41) from B11x1_) (tr (Kd.R_mono (Kd.R_far (p := ⟨g, 1, none⟩) (IsS47.apart HI0.out HO_9.out (by decide)) (fun _ hk => hk.2) (.slice Ao41 x9_1.length co41)) (fun _ h_ => h_.1))) (by decide)) (fun _ h_ => h_.2)) HL.out | exact Kd.R_mono (IsS47.apart (show IsS47 w0 _ g (.slice A0_0 s0_0.length c0_0) (.slice Ao41 x9_1.length co41) from B11x1_) (tr (Kd.R_mono (Kd.R_far (p := ⟨g, 1, none⟩) (IsS47.apart HI0.out HO_9.out (by decide)) (fun _ hk => hk.2) (.slice Ao41 x9_1.length co41)) (fun _ h_ => h_.1))) (by decide)) (fun _ h_ => h_.2)), (te3 HB.out (IsS47.ge HI0.out) GE295.out GE300.out), (tk2 HK.out GW295.out GW300.out)⟩
    ·replace c27 := Bool.eq_false_iff.mpr c27; subst c27; rw [if_neg (show ¬ (false = true) by decide)] at H; simp only [Option.some.injEq, Prod.mk.injEq] at H; obtain ⟨rfl, rfl⟩ := H
     go_wp2
     go_ret; exact ⟨_, B11x9_, B11x1_, Kd.R_keep HOW.out (tk2 HK.out GW295.out GW300.out) (fun _ h_ => h_), (te3 HB.out (IsS47.ge HI0.out) GE295.out GE300.out), (tk2 HK.out GW295.out GW300.out)⟩
   ·rw [if_neg c26] at H; have c26b0 := beq_eq_false_iff_ne.mpr c26; have c26b1 := bne_iff_ne.mpr c26
    by_cases c42 : a2_0 = 5
    ·rw [if_pos c42] at H; have c42b0 := beq_iff_eq.mpr c42; have c42b1 := bne_eq_false_iff_eq.mpr c42; clear c42
     by_cases c43 : t299 = true
     ·subst c43; rw [if_pos rfl] at H
      by_cases c44 : t298 = a2_5
      ·rw [if_pos c44] at H; have c44b0 := beq_iff_eq.mpr c44; have c44b1 := bne_eq_false_iff_eq.mpr c44; clear c44
       have H' := am H
       clear H; have hnb45 := NB300_295.out; have hnc45 := NB295_300.out; have hnb46 := NB300_0.out; have hnc46 := NB0_300.out; obtain ⟨hcz47_0, hcz47_1, hcz47_2⟩ := cl3 BK300.out; obtain ⟨hfz47_0, hfz47_1, hfz47_2⟩ := fr3 BK300.out; have hnb48 := NB295_0.out; have hnc48 := NB0_295.out; obtain ⟨hcz49_0, hcz49_1, hcz49_2, hcz49_3, hcz49_4, hcz49_5⟩ := cl6 BK295.out; obtain ⟨hfz49_0, hfz49_1, hfz49_2, hfz49_3, hfz49_4, hfz49_5⟩ := fr6 BK295.out
       go_wp2
       go_meet
       case rel => exact ⟨_, H', ⟨gl_⟩, ⟨(tp1 BK295.out NB295_300.out)⟩, ⟨(tp0 BK300.out)⟩, ⟨B11x1_⟩, ⟨(tk2 HK.out GW295.out GW300.out)⟩, ⟨(te3 HB.out (IsS47.ge HI0.out) GE295.out GE300.out)⟩⟩
      ·rw [if_neg c44] at H; have c44b0 := beq_eq_false_iff_ne.mpr c44; have c44b1 := bne_iff_ne.mpr c44; replace H := bsi H; obtain ⟨t310, A50, H⟩ := H; (try dsimp only at H)
       by_cases c51 : 4 + t310.size ≤ 9223372036854775807
       rotate_left
       ·rw [if_neg c51] at H; exact absurd H (by simp)
       rw [if_pos c51] at H; have c51b0 := eq_true c51
       have c51b1 : decide (4 + t310.size ≤ 9223372036854775807) = true := decide_eq_true c51
       try have c51b2 : (9223372036854775807 < 4 + t310.size) = False := eq_false (Nat.not_lt.2 c51)
       try (have c51b9 := c51b2; simp only [ByteArray.size_append] at c51b9)
       simp only [Option.some.injEq, Prod.mk.injEq] at H; obtain ⟨rfl, rfl⟩ := H; have hnb52 := NB300_295.out; have hnc52 := NB295_300.out; have hnb53 := NB300_0.out; have hnc53 := NB0_300.out; obtain ⟨hcz54_0, hcz54_1, hcz54_2⟩ := cl3 BK300.out; obtain ⟨hfz54_0, hfz54_1, hfz54_2⟩ := fr3 BK300.out; have hnb55 := NB295_0.out; have hnc55 := NB0_295.out; obtain ⟨hcz56_0, hcz56_1, hcz56_2, hcz56_3, hcz56_4, hcz56_5⟩ := cl6 BK295.out; obtain ⟨hfz56_0, hfz56_1, hfz56_2, hfz56_3, hfz56_4, hfz56_5⟩ := fr6 BK295.out
       go_wp2_with (first | ((with_reducible refine gate_callee (f := 89) rfl ?_); refine goesL_ (some 84) rfl rfl Try.func89 gk_ rfl #[.int .i64 t298] rfl gm_ ?_; (with_reducible refine (spec_Decimal.calls k t298 t310 _ A50.out).mono ?_); rintro e w57 ⟨rfl, hb⟩; refine ⟨_, rfl, ?_⟩; replace BK295 := am (blk_below (g := gb295) (o := .cells #[.int .i64 a2_0, .int .i64 a2_1, .int .i64 a2_2, .string a2_3, .string a2_4, .int .i64 a2_5] 59 (0, 0)) (tp1 BK295.out NB295_300.out) hb); replace BK300 := am (blk_below (g := gb300) (o := .cells #[.string t296, .string t297, .int .i64 t298] 81 (0, 0)) (tp0 BK300.out) hb); replace HK := am (KeepBut.trans (tk2 HK.out GW295.out GW300.out) (KeepBut.of_below hb g none) (.inl rfl)); replace HB := am (below_step (te3 HB.out (IsS47.ge HI0.out) GE295.out GE300.out) hb); replace HI0 := am (IsS47.below (show IsS47 w0 (((w10.setCell ⟨gb300, 0, none⟩ (.string t296)).setCell ⟨gb300, 1, none⟩ (.string t297)).setCell ⟨gb300, 2, none⟩ (.int .i64 t298)) g (.slice A0_0 s0_0.length c0_0) (.slice A0_1 s0_1.length c0_1) from B11x1_) hb); (try clear hb); (try clear hl)))
       go_ret; exact ⟨_, B11x9_, B11x1_, Kd.R_keep HOW.out (tk2 HK.out GW295.out GW300.out) (fun _ h_ => h_), (te3 HB.out (IsS47.ge HI0.out) GE295.out GE300.out), (tk2 HK.out GW295.out GW300.out)⟩
     ·replace c43 := Bool.eq_false_iff.mpr c43; subst c43; rw [if_neg (show ¬ (false = true) by decide)] at H; simp only [Option.some.injEq, Prod.mk.injEq] at H; obtain ⟨rfl, rfl⟩ := H
      go_wp2
      go_ret; exact ⟨_, B11x9_, B11x1_, Kd.R_keep HOW.out (tk2 HK.out GW295.out GW300.out) (fun _ h_ => h_), (te3 HB.out (IsS47.ge HI0.out) GE295.out GE300.out), (tk2 HK.out GW295.out GW300.out)⟩
    ·rw [if_neg c42] at H; have c42b0 := beq_eq_false_iff_ne.mpr c42; have c42b1 := bne_iff_ne.mpr c42
     have H' := am H
     clear H
     go_wp2
     go_meet
     case rel => exact ⟨_, H', ⟨gl_⟩, ⟨(tp1 BK295.out NB295_300.out)⟩, ⟨(tp0 BK300.out)⟩, ⟨B11x1_⟩, ⟨(tk2 HK.out GW295.out GW300.out)⟩, ⟨(te3 HB.out (IsS47.ge HI0.out) GE295.out GE300.out)⟩⟩
 case rest =>
  clear HC5
  try clear hcz16_0
  try clear hcz16_1
  try clear hcz16_2
  try clear hcz16_3
  try clear hcz16_4
  try clear hcz16_5
  try clear hfz16_0
  try clear hfz16_1
  try clear hfz16_2
  try clear hfz16_3
  try clear hfz16_4
  try clear hfz16_5
  obtain ⟨kq, HA, HJ4, BK295, BK300, HI0, HK, HB⟩ := hcut
  cases kq with
  | zero => exact absurd HA.out (by simp [spec_l15Do.j1])
  | succ kj4 =>
   have H := HA.out; clear HA; simp only [spec_l15Do.j1] at H; replace H := bsi H; obtain ⟨⟨t311, t312⟩, A58, H⟩ := H; (try dsimp only at H)
   by_cases c59 : t311 = true
   ·subst c59; rw [if_pos rfl] at H; replace H := bsi H; obtain ⟨t315, A60, H⟩ := H; (try dsimp only at H)
    by_cases c61 : 4 + t315.size ≤ 9223372036854775807
    rotate_left
    ·rw [if_neg c61] at H; exact absurd H (by simp)
    rw [if_pos c61] at H; have c61b0 := eq_true c61
    have c61b1 : decide (4 + t315.size ≤ 9223372036854775807) = true := decide_eq_true c61
    try have c61b2 : (9223372036854775807 < 4 + t315.size) = False := eq_false (Nat.not_lt.2 c61)
    try (have c61b9 := c61b2; simp only [ByteArray.size_append] at c61b9)
    simp only [Option.some.injEq, Prod.mk.injEq] at H; obtain ⟨rfl, rfl⟩ := H; have hnb62 := NB295_300.out; have hnc62 := NB300_295.out; have hnb63 := NB295_0.out; have hnc63 := NB0_295.out; obtain ⟨hcz64_0, hcz64_1, hcz64_2, hcz64_3, hcz64_4, hcz64_5⟩ := cl6 BK295.out; obtain ⟨hfz64_0, hfz64_1, hfz64_2, hfz64_3, hfz64_4, hfz64_5⟩ := fr6 BK295.out
    go_wp2_with (first | ((with_reducible refine gate_callee (f := 111) rfl ?_); refine goesL_ (some 93) rfl rfl Try.func111 gk_ rfl #[.pointer (some ⟨g, 0, none⟩), .agg #[.string a2_3, .string a2_4, .int .i64 a1]] rfl gm_ ?_; (with_reducible refine (spec_l15Put.calls kj4 g A0_0 c0_0 s0_0 A0_1 c0_1 s0_1 a2_3 a2_4 a1 true t312 w0 _ ?side1 ?side2 ?side3 ?side4 ?side5 ?side6 ?side7 A58.out).mono ?_); (case side1 => exact B11x1_); (case side2 => exact (te3 HB.out (IsS47.ge HI0.out) GE295.out GE300.out)); (case side3 => exact Kd.C_foot_step HR0_0.out (tk2 HK.out GW295.out GW300.out)); (case side4 => exact HC0_0.out); (case side5 => exact Kd.C_foot_step HR0_1.out (tk2 HK.out GW295.out GW300.out)); (case side6 => exact HC0_1.out); (case side7 => exact B11x20_); rintro e w65 ⟨v313, rfl, hi, hl, hb, hk⟩; refine ⟨_, rfl, ?_⟩; replace BK295 := am (kb hk BK295.out NB295_0.out); replace BK300 := am (kb hk BK300.out NB300_0.out); have HO314 := am (hl); replace HK := am (KeepBut.trans (tk2 HK.out GW295.out GW300.out) hk (.inl rfl)); replace HB := am (hb); replace HI0 := am (hi); (try clear hb hk hi); (try clear hl)) | ((with_reducible refine gate_callee (f := 89) rfl ?_); refine goesL_ (some 96) rfl rfl Try.func89 gk_ rfl #[.int .i64 a1] rfl gm_ ?_; (with_reducible refine (spec_Decimal.calls kj4 a1 t315 _ A60.out).mono ?_); rintro e w66 ⟨rfl, hb⟩; refine ⟨_, rfl, ?_⟩; replace HO314 := am (Kd.R_below (tr HO314.out) hb); replace BK295 := am (bb BK295.out hb); replace BK300 := am (bb BK300.out hb); replace HK := am (KeepBut.trans (tk2 HK.out GW295.out GW300.out) (KeepBut.of_below hb g none) (.inl rfl)); replace HB := am (below_step (te3 HB.out (IsS47.ge HI0.out) GE295.out GE300.out) hb); replace HI0 := am (IsS47.below B11x1_ hb); (try clear hb); (try clear hl)))
    go_ret; exact ⟨_, B11x9_, B11x1_, B11x11_, (te3 HB.out (IsS47.ge HI0.out) GE295.out GE300.out), (tk2 HK.out GW295.out GW300.out)⟩
   ·replace c59 := Bool.eq_false_iff.mpr c59; subst c59; rw [if_neg (show ¬ (false = true) by decide)] at H; simp only [Option.some.injEq, Prod.mk.injEq] at H; obtain ⟨rfl, rfl⟩ := H; have hnb67 := NB295_300.out; have hnc67 := NB300_295.out; have hnb68 := NB295_0.out; have hnc68 := NB0_295.out; obtain ⟨hcz69_0, hcz69_1, hcz69_2, hcz69_3, hcz69_4, hcz69_5⟩ := cl6 BK295.out; obtain ⟨hfz69_0, hfz69_1, hfz69_2, hfz69_3, hfz69_4, hfz69_5⟩ := fr6 BK295.out
    go_wp2_with (first | ((with_reducible refine gate_callee (f := 111) rfl ?_); refine goesL_ (some 93) rfl rfl Try.func111 gk_ rfl #[.pointer (some ⟨g, 0, none⟩), .agg #[.string a2_3, .string a2_4, .int .i64 a1]] rfl gm_ ?_; (with_reducible refine (spec_l15Put.calls kj4 g A0_0 c0_0 s0_0 A0_1 c0_1 s0_1 a2_3 a2_4 a1 false t312 w0 _ ?side1 ?side2 ?side3 ?side4 ?side5 ?side6 ?side7 A58.out).mono ?_); (case side1 => exact B11x1_); (case side2 => exact (te3 HB.out (IsS47.ge HI0.out) GE295.out GE300.out)); (case side3 => exact Kd.C_foot_step HR0_0.out (tk2 HK.out GW295.out GW300.out)); (case side4 => exact HC0_0.out); (case side5 => exact Kd.C_foot_step HR0_1.out (tk2 HK.out GW295.out GW300.out)); (case side6 => exact HC0_1.out); (case side7 => exact B11x20_); rintro e w70 ⟨v313, rfl, hi, hl, hb, hk⟩; refine ⟨_, rfl, ?_⟩; replace BK295 := am (kb hk BK295.out NB295_0.out); replace BK300 := am (kb hk BK300.out NB300_0.out); have HO314 := am (hl); replace HK := am (KeepBut.trans (tk2 HK.out GW295.out GW300.out) hk (.inl rfl)); replace HB := am (hb); replace HI0 := am (hi); (try clear hb hk hi); (try clear hl)))
    go_ret; exact ⟨_, B11x9_, B11x1_, B11x11_, (te3 HB.out (IsS47.ge HI0.out) GE295.out GE300.out), (tk2 HK.out GW295.out GW300.out)⟩

end Go.Proofs.Ytgffdijodnpolaa.QFnSameKeeps
