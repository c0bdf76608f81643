/- Functions that a law reaches, as functions of Lean, and the walks that show that the calls come to their answers: written by a program of this project out of the translation. No condition. -/
import Derived.Test.YtgffdijodnpolaaQFnPutsx0
import Derived.Test.YtgffdijodnpolaaQFnPutsx10
import Derived.Test.YtgffdijodnpolaaQFnPutsx11
import Derived.Test.YtgffdijodnpolaaVFnPutsShort4
import Derived.Test.YtgffdijodnpolaaVFnPutshort3
import Derived.Test.YtgffdijodnpolaaVFnPutsShort2
import Derived.Test.YtgffdijodnpolaaVFnPutsShort
namespace Go.Proofs.Ytgffdijodnpolaa.QFnPuts
open Go.RowKit Go.Proofs.YtgffdijodnpolaaW.PrintWords Go.Proofs.YtgffdijodnpolaaW.PrintLast Go.Proofs.YtgffdijodnpolaaW.PrintMore Go.Proofs.Ytgffdijodnpolaa.Short
attribute [local go_sem] max2_int min2_int max_two min_two max_three min_three max_four min_four   -- for this text's walks alone
set_option linter.unusedVariables false
set_option linter.unusedSimpArgs false

theorem B12x0_ {p : Prop} (h : p := by repeat (first | (with_reducible first | exact HB.out | apply below_alloc | apply pw_below_drewN | apply below_drew1 | refine below_set ?_ GE516.out | refine below_set ?_ GE517.out | refine below_set ?_ GE518.out) | exact HB.out)) : p := h
theorem B12x1_ {p : Prop} (h : p := by repeat (first | (with_reducible first | exact HB.out | apply below_alloc | apply pw_below_drewN | apply below_drew1 | refine below_set ?_ GE516.out | refine below_set ?_ GE517.out | refine below_set ?_ GE518.out | refine below_set ?_ GE528.out) | exact HB.out)) : p := h
theorem B12x2_ {p : Prop} (h : p := by (with_reducible repeat (first | apply Kd.R_alloc | apply Kd.R_drewN | apply Kd.R_drew)); exact (Kd.R_mono (Kd.R_far (p := ⟨gb528, 2, none⟩) (Kd.R_types HO534.out BK528.out (by decide)) (fun _ hk => hk.2) (.slice Ao50 y532.length co50)) (fun _ h_ => h_.1))) : p := h
theorem B12x3_ {p : Prop} (h : p := by (try simp only [List.map_toArray, List.map_cons, List.map_nil]); first | done | rfl | (simp only [List.length_drop, List.length_take]; rfl)) : p := h
theorem B12x4_ {p : Prop} (h : p := by (repeat (with_reducible (first | exact BK516.out | apply blk_drewN | apply blk_drew | apply blk_alloc | apply blk_put | apply bf NB516_528.out))); repeat (first | exact BK516.out | (simp only [List.setIfInBounds_toArray, List.set_cons_zero, List.set_cons_succ]; with_reducible rfl) | rfl)) : p := h
theorem B12x5_ {p : Prop} (h : p := by (repeat (with_reducible (first | exact BK517.out | apply blk_drewN | apply blk_drew | apply blk_alloc | apply blk_put | apply bf NB517_528.out))); repeat (first | exact BK517.out | (simp only [List.setIfInBounds_toArray, List.set_cons_zero, List.set_cons_succ]; with_reducible rfl) | rfl)) : p := h
theorem B12x6_ {p : Prop} (h : p := by (repeat (with_reducible (first | exact BK518.out | apply blk_drewN | apply blk_drew | apply blk_alloc | apply blk_put | apply bf NB518_528.out))); repeat (first | exact BK518.out | (simp only [List.setIfInBounds_toArray, List.set_cons_zero, List.set_cons_succ]; with_reducible rfl) | rfl)) : p := h
theorem B12x7_ {p : Prop} (h : p := by (repeat (with_reducible (first | exact BK518.out | apply blk_drewN | apply blk_drew | apply blk_alloc | apply blk_put))); repeat (first | exact BK518.out | (simp only [List.setIfInBounds_toArray, List.set_cons_zero, List.set_cons_succ]; with_reducible rfl) | rfl)) : p := h
theorem B12x8_ {p : Prop} (h : p := by (repeat (with_reducible (first | exact BK528.out | apply blk_drewN | apply blk_drew | apply blk_alloc | apply blk_put))); repeat (first | exact BK528.out | (simp only [List.setIfInBounds_toArray, List.set_cons_zero, List.set_cons_succ]; with_reducible rfl) | rfl)) : p := h
theorem B12x9_ {p : Prop} (h : p := by repeat (first | exact (Kd.C_below HR0_2.out HB.out) | (with_reducible refine Kd.C_alloc ?_ _) | (with_reducible refine Kd.C_drewN ?_ _) | (with_reducible refine Kd.C_drew ?_))) : p := h
theorem B12x10_ {p : Prop} (h : p := by (with_reducible repeat (first | refine blk_drewN ?_ _ | refine blk_drew ?_ | refine blk_alloc ?_ _)); exact BK517.out) : p := h
theorem B12x11_ {p : Prop} (h : p := by (with_reducible repeat (first | refine blk_drewN ?_ _ | refine blk_drew ?_ | refine blk_alloc ?_ _)); exact BK516.out) : p := h
theorem B12x12_ {p : Prop} (h : p := by (with_reducible repeat (first | refine blk_drewN ?_ _ | refine blk_drew ?_ | refine blk_alloc ?_ _)); exact BK518.out) : p := h
theorem B12x13_ {p : Prop} (h : p := by kernel_rfl) : p := h
theorem B12x14_ {p : Prop} (h : p := by refine (Kd.R_reads' (e := 28) (base := w.heap.size) (ok := fun k_ => k_ ≠ gb517) (n := y532.length) (c := co50) ?_).2.2; exact B12x2_) : p := h
theorem B12x15_ {p : Prop} (h : p := by first | (go_simp; done) | (go_simp; rfl)) : p := h
theorem B12x16_ {p : Prop} (h : p := by first | (with_reducible assumption) | assumption) : p := h
/-! ### impl_LogPut: function 9 -/
def impl_LogPut.j0 : Nat → Int → Bool → Int → Int → List (S28) → Int → Int → ByteArray → Option (Int × Int × (List (S28)) × Bool)
 | 0, _, _, _, _, _, _, _, _ => none
 | k + 1, x1, x28, x517000, x517001, x517002, x518000, x518001, x518002 => if x28 = true then (some (0, 0, ([] : List (S28)), false)) else ((impl_copyLog.f x517000 x517001 x517002).bind fun bt523 => (if 0 ≤ (wrap64 ((wrap64 (x1 - x517000)) - 1)) then (if (wrap64 ((wrap64 (x1 - x517000)) - 1)) ≤ (bt523.2.2.length : Int) then ((some (bt523.2.2.take ((wrap64 ((wrap64 (x1 - x517000)) - 1)) : Int).toNat : List (S28))).bind fun y529 => (if y529.length < 4398046511104 then ((some (y529 ++ [(⟨x518000, x518001, x518002⟩ : S28)] : List (S28))).bind fun y532 => ((impl_LogOk.f k bt523.1 bt523.2.1 y532).bind fun t535 => (if t535 = true then (some (bt523.1, bt523.2.1, y532, true)) else (some (0, 0, ([] : List (S28)), false))))) else (none))) else (none)) else (none)))
def impl_LogPut.f (k : Nat) (a0_0 : Int) (a0_1 : Int) (l0_2 : List (S28)) (a1 : Int) (a2_0 : Int) (a2_1 : Int) (a2_2 : ByteArray) : Option (Int × Int × (List (S28)) × Bool) := (impl_LogLast.f a0_0 a0_1 l0_2).bind fun bt519 => ((impl_LogOk.f k a0_0 a0_1 l0_2).bind fun t521 => (if t521 = true then ((impl_within.f a1 (wrap64 (a0_0 + 1)) (wrap64 (bt519.1 + 1))).bind fun t522 => (impl_LogPut.j0 k a1 (!t522) a0_0 a0_1 l0_2 a2_0 a2_1 a2_2)) else (impl_LogPut.j0 k a1 true a0_0 a0_1 l0_2 a2_0 a2_1 a2_2)))
theorem impl_LogPut.mono_l : ∀ k, (∀ y0 y1 y2 y3 y4 y5 y6 y7, LeO (impl_LogPut.j0 k y0 y1 y2 y3 y4 y5 y6 y7) (impl_LogPut.j0 (k + 1) y0 y1 y2 y3 y4 y5 y6 y7))
 | 0 => fun _ _ _ _ _ _ _ _ r h => by simp [impl_LogPut.j0] at h
 | k + 1 => by
  have ih0 := impl_LogPut.mono_l k
  ·intro y0 y1 y2 y3 y4 y5 y6 y7
   unfold impl_LogPut.j0
   repeat' first
   | (with_reducible exact ih0 _ _ _ _ _ _ _ _)
   | (with_reducible exact impl_LogOk.mono _ _ _ _)
   | (with_reducible first | exact LeO.refl _ | exact LeO.none _ | refine LeO.ite ?_ ?_ | refine LeO.bind ?_ (fun _ => ?_))
   | exact ih0 _ _ _ _ _ _ _ _
   | exact impl_LogOk.mono _ _ _ _
theorem impl_LogPut.mono : ∀ a0 a1 a2 a3 a4 a5 a6 k, LeO (impl_LogPut.f k a0 a1 a2 a3 a4 a5 a6) (impl_LogPut.f (k + 1) a0 a1 a2 a3 a4 a5 a6) := by
 intro a0 a1 a2 a3 a4 a5 a6 k
 have ih0 := impl_LogPut.mono_l k
 unfold impl_LogPut.f
 repeat' first
   | (with_reducible exact ih0 _ _ _ _ _ _ _ _)
   | (with_reducible exact impl_LogOk.mono _ _ _ _)
   | (with_reducible first | exact LeO.refl _ | exact LeO.none _ | refine LeO.ite ?_ ?_ | refine LeO.bind ?_ (fun _ => ?_))
   | exact ih0 _ _ _ _ _ _ _ _
   | exact impl_LogOk.mono _ _ _ _
def impl_LogPut.T5 : Bool × List (List Nat × List Nat) := (true, [([], []), ([0], [0]), ([], []), ([], []), ([3], [3]), ([2, 4], [2, 4]), ([5], [5]), ([1, 6], [1, 6]), ([], []), ([8], [8]), ([7, 9], [7, 9]), ([0, 1, 2, 3, 4, 5, 6, 7, 8, 9, 10], []), ([11, 10, 10, 0, 1, 2, 3, 4, 5, 6, 7, 8, 9, 10], [10, 11])])
def impl_LogPut.B5 : List Nat := [0, 1, 0, 0, 8, 28, 60, 127, 0, 256, 1023, 2047, 4095]
theorem impl_LogPut.tab5 : rtab .any (opsOf Try.f9 5) = impl_LogPut.T5 := by kernel_rfl
theorem impl_LogPut.bits5 : waitsOk impl_LogPut.T5.2 impl_LogPut.B5 = true := by kernel_rfl
set_option maxHeartbeats 8000000 in
set_option maxRecDepth 100000 in
theorem impl_LogPut.calls (k : Nat) (a0_0 : Int) (a0_1 : Int) (A0_2 : Option Addr) (c0_2 : Nat) (l0_2 : List (S28)) (a1 : Int) (a2_0 : Int) (a2_1 : Int) (a2_2 : ByteArray) (r1 : Int) (r2 : Int) (r3 : List (S28)) (r4 : Bool) (w : World) (hr0_2 : Kd.C k28 w A0_2 l0_2.length l0_2) (hc0_2 : l0_2.length ≤ c0_2) (h : impl_LogPut.f k a0_0 a0_1 l0_2 a1 a2_0 a2_1 a2_2 = some (r1, r2, r3, r4)) :
  Calls Try.prog 9 #[.agg #[.int .i64 a0_0, .int .i64 a0_1, .slice A0_2 l0_2.length c0_2], .int .i64 a1, .agg #[.int .i64 a2_0, .int .i64 a2_1, .string a2_2]] w fun e w' => ∃ v2_ : Value, e = .returned (.tuple #[.agg #[.int .i64 r1, .int .i64 r2, v2_], .bool r4]) ∧ Kd.R k28 28 w' w.heap.size (fun _ => True) v2_ r3 ∧ Below w.heap.size w w' := by
 have hu26 := Try.underlying26
 have hu28 := Try.underlying28
 have HR0_2 := Aside0.mk hr0_2
 have HC0_2 := Aside0.mk hc0_2
 clear hr0_2 hc0_2
 have HB := Aside0.mk (Below.refl w.heap.size w)
 have H : ((impl_LogLast.f a0_0 a0_1 l0_2).bind fun bt519 => ((impl_LogOk.f k a0_0 a0_1 l0_2).bind fun t521 => (if t521 = true then ((impl_within.f a1 (wrap64 (a0_0 + 1)) (wrap64 (bt519.1 + 1))).bind fun t522 => (impl_LogPut.j0 k a1 (!t522) a0_0 a0_1 l0_2 a2_0 a2_1 a2_2)) else (impl_LogPut.j0 k a1 true a0_0 a0_1 l0_2 a2_0 a2_1 a2_2)))) = some (r1, r2, r3, r4) := h
 clear h
 replace H := bsi H
 obtain ⟨⟨t519, t520⟩, A4, H⟩ := H
 (try dsimp only at H)
 have HC5 := Aside0.mk H
 clear H
 go_enter Try.func9, Try.ntmps9
 go_upto_region 2 with (first | ((with_reducible refine gate_dst (N := 3) rfl ?_); refine box_event ?hg (N := 3) ?hd (cs := #[.int .i64 a0_0, .int .i64 a0_1, .slice A0_2 l0_2.length c0_2]) (t := 26) ?hr ?_; (case hd => rfl); (case hg => rfl); (case hr => exact B12x15_); intro gb516 hg w6 hbox hb; have BK516 := Aside0.mk (hbox); have GW516 := Aside0.mk ((bs hg (below_size HB.out))); have GE516 := Aside0.mk ((bs hg (below_size HB.out))); replace HB := Aside0.mk (below_step (by repeat (first | (with_reducible first | exact HB.out | apply below_alloc | apply pw_below_drewN | apply below_drew1) | exact HB.out)) hb); clear hb hbox hg) | ((with_reducible refine gate_dst (N := 5) rfl ?_); refine box_event ?hg (N := 5) ?hd (cs := #[.int .i64 a2_0, .int .i64 a2_1, .string a2_2]) (t := 28) ?hr ?_; (case hd => rfl); (case hg => rfl); (case hr => exact B12x15_); intro gb517 hg w7 hbox hb; have BK517 := Aside0.mk (hbox); have GW517 := Aside0.mk ((bs hg (below_size HB.out))); have GE517 := Aside0.mk ((bs hg (below_size HB.out))); replace HB := Aside0.mk (below_step (by repeat (first | (with_reducible first | exact HB.out | apply below_alloc | apply pw_below_drewN | apply below_drew1 | refine below_set ?_ GE516.out) | exact HB.out)) hb); have NB516_517 := Aside0.mk ((nl hg (blk_lt BK516.out))); have NB517_516 := Aside0.mk ((ng hg (blk_lt BK516.out))); replace BK516 := Aside0.mk (bb BK516.out hb); clear hb hbox hg) | ((with_reducible refine gate_dst (N := 6) rfl ?_); refine box_event ?hg (N := 6) ?hd (cs := #[.int .i64 0, .int .i64 0, .slice none 0 0]) (t := 26) ?hr ?_; (case hd => rfl); (case hg => rfl); (case hr => exact B12x15_); intro gb518 hg w8 hbox hb; have BK518 := Aside0.mk (hbox); have GW518 := Aside0.mk ((bs hg (below_size HB.out))); have GE518 := Aside0.mk ((bs hg (below_size HB.out))); replace HB := Aside0.mk (below_step (by repeat (first | (with_reducible first | exact HB.out | apply below_alloc | apply pw_below_drewN | apply below_drew1 | refine below_set ?_ GE516.out | refine below_set ?_ GE517.out) | exact HB.out)) hb); have NB516_518 := Aside0.mk ((nl hg (blk_lt BK516.out))); have NB518_516 := Aside0.mk ((ng hg (blk_lt BK516.out))); replace BK516 := Aside0.mk (bb BK516.out hb); have NB517_518 := Aside0.mk ((nl hg (blk_lt BK517.out))); have NB518_517 := Aside0.mk ((ng hg (blk_lt BK517.out))); replace BK517 := Aside0.mk (bb BK517.out hb); clear hb hbox hg; have hnb9 := NB516_517.out; have hnc9 := NB517_516.out; have hnb10 := NB516_518.out; have hnc10 := NB518_516.out; obtain ⟨hcz11_0, hcz11_1, hcz11_2⟩ := cl3 BK516.out; obtain ⟨hfz11_0, hfz11_1, hfz11_2⟩ := fr3 BK516.out) | ((with_reducible refine gate_callee (f := 17) rfl ?_); refine goesL_ (some 13) rfl rfl Try.func17 B12x13_ rfl #[.agg #[.int .i64 a0_0, .int .i64 a0_1, .slice A0_2 l0_2.length c0_2]] rfl B12x3_ ?_; (with_reducible refine (impl_LogLast.calls a0_0 a0_1 _ _ l0_2 t519 t520 _ ?side1 ?side2 A4.out).mono ?_); (case side1 => exact B12x9_); (case side2 => exact HC0_2.out); rintro e w12 ⟨rfl, hb⟩; refine ⟨_, rfl, ?_⟩; replace BK516 := Aside0.mk (bb BK516.out hb); replace BK517 := Aside0.mk (bb BK517.out hb); replace BK518 := Aside0.mk (bb BK518.out hb); replace HB := Aside0.mk (below_step B12x0_ hb); (try clear hb)))
 (try simp only [Act.put, List.setIfInBounds_toArray, List.set_cons_zero, List.set_cons_succ])
 go_cut [28] (fun v28 wc => ∃ (kq : Nat) (x28_4 : Bool), v28 = .bool x28_4 ∧ Aside0 (impl_LogPut.j0 kq a1 x28_4 a0_0 a0_1 l0_2 a2_0 a2_1 a2_2 = some (r1, r2, r3, r4)) ∧ Aside0 (kq ≤ k) ∧ Aside0 (wc.heap[gb516]? = some (.cells #[.int .i64 a0_0, .int .i64 a0_1, (.slice A0_2 l0_2.length c0_2)] 26 (0, 0))) ∧ Aside0 (wc.heap[gb517]? = some (.cells #[.int .i64 a2_0, .int .i64 a2_1, .string a2_2] 28 (0, 0))) ∧ Aside0 (wc.heap[gb518]? = some (.cells #[.int .i64 0, .int .i64 0, (.slice none 0 0)] 26 (0, 0))) ∧ Aside0 (Below w.heap.size w wc))
 case first =>
  have H := HC5.out
  clear HC5
  replace H := bsi H
  obtain ⟨t521, A13, H⟩ := H
  (try dsimp only at H)
  by_cases c14 : t521 = true
  ·subst c14
   rw [if_pos rfl] at H
   replace H := bsi H
   obtain ⟨t522, A15, H⟩ := H
   (try dsimp only at H)
   have H' := Aside0.mk H
   clear H
   have hnb16 := NB516_517.out
   have hnc16 := NB517_516.out
   have hnb17 := NB516_518.out
   have hnc17 := NB518_516.out
   obtain ⟨hcz18_0, hcz18_1, hcz18_2⟩ := cl3 BK516.out
   obtain ⟨hfz18_0, hfz18_1, hfz18_2⟩ := fr3 BK516.out
   go_wp2_with (first | ((with_reducible refine gate_callee (f := 18) rfl ?_); refine goesL_ (some 17) rfl rfl Try.func18 B12x13_ rfl #[.agg #[.int .i64 a0_0, .int .i64 a0_1, .slice A0_2 l0_2.length c0_2]] rfl B12x3_ ?_; (with_reducible refine (impl_LogOk.calls k a0_0 a0_1 _ _ l0_2 true _ ?side1 ?side2 A13.out).mono ?_); (case side1 => exact B12x9_); (case side2 => exact HC0_2.out); rintro e w19 ⟨rfl, hb⟩; refine ⟨_, rfl, ?_⟩; replace BK516 := Aside0.mk (bb BK516.out hb); replace BK517 := Aside0.mk (bb BK517.out hb); replace BK518 := Aside0.mk (bb BK518.out hb); replace HB := Aside0.mk (below_step B12x0_ hb); (try clear hb); obtain ⟨hcz20_0, hcz20_1, hcz20_2⟩ := cl3 BK516.out; obtain ⟨hfz20_0, hfz20_1, hfz20_2⟩ := fr3 BK516.out) | (go_at_call 45; (with_reducible refine (impl_within.calls a1 (wrap64 (a0_0 + 1)) (wrap64 (t519 + 1)) t522 _ A15.out).mono ?_); rintro e w' ⟨rfl, ⟨nd, rfl⟩⟩))
   go_meet
   case rel => exact ⟨_, (!t522), (be_), H', ⟨(by first | omega | exact Nat.le_refl _)⟩, ⟨B12x11_⟩, ⟨B12x10_⟩, ⟨B12x12_⟩, ⟨B12x0_⟩⟩
  ·replace c14 := Bool.eq_false_iff.mpr c14
   subst c14
   rw [if_neg (show ¬ (false = true) by decide)] at H
   have H' := Aside0.mk H
   clear H
   have hnb21 := NB516_517.out
   have hnc21 := NB517_516.out
   have hnb22 := NB516_518.out
   have hnc22 := NB518_516.out
   obtain ⟨hcz23_0, hcz23_1, hcz23_2⟩ := cl3 BK516.out
   obtain ⟨hfz23_0, hfz23_1, hfz23_2⟩ := fr3 BK516.out
   go_wp2_with (first | ((with_reducible refine gate_callee (f := 18) rfl ?_); refine goesL_ (some 17) rfl rfl Try.func18 B12x13_ rfl #[.agg #[.int .i64 a0_0, .int .i64 a0_1, .slice A0_2 l0_2.length c0_2]] rfl B12x3_ ?_; (with_reducible refine (impl_LogOk.calls k a0_0 a0_1 _ _ l0_2 false _ ?side1 ?side2 A13.out).mono ?_); (case side1 => exact B12x9_); (case side2 => exact HC0_2.out); rintro e w24 ⟨rfl, hb⟩; refine ⟨_, rfl, ?_⟩; replace BK516 := Aside0.mk (bb BK516.out hb); replace BK517 := Aside0.mk (bb BK517.out hb); replace BK518 := Aside0.mk (bb BK518.out hb); replace HB := Aside0.mk (below_step B12x0_ hb); (try clear hb)))
   go_meet
   case rel => exact ⟨_, (true), (be_), H', ⟨(by first | omega | exact Nat.le_refl _)⟩, ⟨B12x11_⟩, ⟨B12x10_⟩, ⟨B12x12_⟩, ⟨B12x0_⟩⟩
 case rest =>
  clear HC5
  try clear hcz11_0
  try clear hcz11_1
  try clear hcz11_2
  try clear hfz11_0
  try clear hfz11_1
  try clear hfz11_2
  obtain ⟨kq, x28_4, rfl, HA, HJ4, BK516, BK517, BK518, HB⟩ := hcut
  cases kq with
  | zero => exact absurd HA.out (by simp [impl_LogPut.j0])
  | succ kj4 =>
   have H := HA.out
   clear HA
   simp only [impl_LogPut.j0] at H
   by_cases c25 : x28_4 = true
   ·subst c25
    rw [if_pos rfl] at H
    simp only [Option.some.injEq, Prod.mk.injEq] at H
    obtain ⟨rfl, rfl, rfl, rfl⟩ := H
    have hnb26 := NB518_516.out
    have hnc26 := NB516_518.out
    have hnb27 := NB518_517.out
    have hnc27 := NB517_518.out
    obtain ⟨hcz28_0, hcz28_1, hcz28_2⟩ := cl3 BK518.out
    obtain ⟨hfz28_0, hfz28_1, hfz28_2⟩ := fr3 BK518.out
    go_wp2
    refine bodyPost_ret (results_ct rfl _ _ gb518 26 #[.int .i64 0, .int .i64 0, .slice none 0 0] (0, 0) _ rfl B12x7_ Try.underlying26 rfl B12x13_) rfl ?_
    exact ⟨_, by first | rfl | (simp [errW_none, errW_some] <;> rfl) | (simp [*, errW_none, errW_some] <;> rfl), by first | exact Kd.R_nil _ _ _ _ _ | exact Kd.N_nil _ _ _ _ _ | exact Kd.V_nil _ _ _ _ _ | exact Kd.Q_nil _ _ _ _ _ | exact Kd.S_nil _ _ _ _ _, by repeat (first | (with_reducible first | exact HB.out | apply below_alloc | apply pw_below_drewN | apply below_drew1 | refine below_set ?_ GE516.out | refine below_set ?_ GE517.out | refine below_set ?_ GE518.out) | exact HB.out)⟩
   ·replace c25 := Bool.eq_false_iff.mpr c25
    subst c25
    rw [if_neg (show ¬ (false = true) by decide)] at H
    replace H := bsi H
    obtain ⟨⟨t523, t524, t525⟩, A29, H⟩ := H
    (try dsimp only at H)
    obtain ⟨ji30, hji30⟩ : ∃ j_ : Int, (wrap64 ((wrap64 (a1 - a0_0)) - 1)) = j_ := ⟨_, rfl⟩
    replace H : (if 0 ≤ (ji30) then (if (ji30) ≤ (t525.length : Int) then ((some (t525.take ((ji30) : Int).toNat : List (S28))).bind fun y529 => (if y529.length < 4398046511104 then ((some (y529 ++ [(⟨a2_0, a2_1, a2_2⟩ : S28)] : List (S28))).bind fun y532 => ((impl_LogOk.f kj4 t523 t524 y532).bind fun t535 => (if t535 = true then (some (t523, t524, y532, true)) else (some (0, 0, ([] : List (S28)), false))))) else (none))) else (none)) else (none)) = some (r1, r2, r3, r4) := by first | (rw [hji30] at H; exact H) | (simp only [hji30] at H ⊢; exact H)
    (try rw [hji30] at A29)
    have hji30w : (IntKind.i64.wrap ((wrap64 (a1 - a0_0)) - 1)) = ji30 := (i64_w _).trans hji30
    by_cases c31 : 0 ≤ (ji30)
    rotate_left
    ·rw [if_neg c31] at H
     exact absurd H (by simp)
    rw [if_pos c31] at H
    have c31b0 := eq_true c31
    have c31b1 : decide (0 ≤ (ji30)) = true := decide_eq_true c31
    clear c31
    by_cases c32 : (ji30) ≤ (t525.length : Int)
    rotate_left
    ·rw [if_neg c32] at H
     exact absurd H (by simp)
    rw [if_pos c32] at H
    have c32b0 := eq_true c32
    have c32b1 : decide ((ji30) ≤ (t525.length : Int)) = true := decide_eq_true c32
    clear c32
    obtain ⟨y529, hy529⟩ : ∃ y_ : List (S28), y_ = (t525.take ((ji30) : Int).toNat) := ⟨_, rfl⟩
    replace H : (if y529.length < 4398046511104 then ((some (y529 ++ [(⟨a2_0, a2_1, a2_2⟩ : S28)] : List (S28))).bind fun y532 => ((impl_LogOk.f kj4 t523 t524 y532).bind fun t535 => (if t535 = true then (some (t523, t524, y532, true)) else (some (0, 0, ([] : List (S28)), false))))) else (none)) = some (r1, r2, r3, r4) := by first | (rw [hy529]; with_reducible exact H) | (have H2_ := (Option.bind_some _ _).symm.trans H; rw [hy529]; with_reducible exact H2_) | (have H2_ := (Option.bind_some _ _).symm.trans H; with_reducible exact H2_) | with_reducible exact H | (rw [hy529]; exact H) | exact H
    have Ny529 := Aside0.mk hy529
    clear hy529
    by_cases c33 : y529.length < 4398046511104
    rotate_left
    ·rw [if_neg c33] at H
     exact absurd H (by simp)
    rw [if_pos c33] at H
    have LMc33 := Aside0.mk c33
    clear c33
    obtain ⟨y532, hy532⟩ : ∃ y_ : List (S28), y_ = (y529 ++ [(⟨a2_0, a2_1, a2_2⟩ : S28)]) := ⟨_, rfl⟩
    replace H : ((impl_LogOk.f kj4 t523 t524 y532).bind fun t535 => (if t535 = true then (some (t523, t524, y532, true)) else (some (0, 0, ([] : List (S28)), false)))) = some (r1, r2, r3, r4) := by first | (rw [hy532]; with_reducible exact H) | (have H2_ := (Option.bind_some _ _).symm.trans H; rw [hy532]; with_reducible exact H2_) | (have H2_ := (Option.bind_some _ _).symm.trans H; with_reducible exact H2_) | with_reducible exact H | (rw [hy532]; exact H) | exact H
    have Ny532 := Aside0.mk hy532
    clear hy532
    replace H := bsi H
    obtain ⟨t535, A34, H⟩ := H
    (try dsimp only at H)
    have HL_172 := Aside0.mk H
    clear H
    have hnb36 := NB516_517.out
    have hnc36 := NB517_516.out
    have hnb37 := NB516_518.out
    have hnc37 := NB518_516.out
    obtain ⟨hcz38_0, hcz38_1, hcz38_2⟩ := cl3 BK516.out
    obtain ⟨hfz38_0, hfz38_1, hfz38_2⟩ := fr3 BK516.out
    try go_wp2_with (first | ((with_reducible refine gate_callee (f := 46) rfl ?_); refine goesL_ (some 31) rfl rfl Try.func46 B12x13_ rfl #[.agg #[.int .i64 a0_0, .int .i64 a0_1, .slice A0_2 l0_2.length c0_2]] rfl B12x3_ ?_; (with_reducible refine (impl_copyLog.calls a0_0 a0_1 _ _ l0_2 t523 t524 t525 _ ?side1 ?side2 A29.out).mono ?_); (case side1 => exact B12x9_); (case side2 => exact HC0_2.out); rintro e w39 ⟨v526, rfl, ho0, hb⟩; refine ⟨_, rfl, ?_⟩; have HO527 := Aside0.mk (Kd.R_lower (Kd.R_newB ho0 (g := gb517) (o := .cells #[.int .i64 a2_0, .int .i64 a2_1, .string a2_2] 28 (0, 0)) B12x10_) (below_size B12x0_)); replace BK516 := Aside0.mk (bb BK516.out hb); replace BK517 := Aside0.mk (bb BK517.out hb); replace BK518 := Aside0.mk (bb BK518.out hb); replace HB := Aside0.mk (below_step B12x0_ hb); (try clear hb); (try clear ho0)) | ((with_reducible refine gate_dst (N := 10) rfl ?_); refine box_event ?hg (N := 10) ?hd (cs := #[.int .i64 0, .int .i64 0, .slice none 0 0]) (t := 26) ?hr ?_; (case hd => rfl); (case hg => rfl); (case hr => exact B12x15_); intro gb528 hg w40 hbox hb; replace HO527 := Aside0.mk (Kd.R_below (by (with_reducible repeat (first | apply Kd.R_alloc | apply Kd.R_drewN | apply Kd.R_drew)); exact HO527.out) hb); have BK528 := Aside0.mk (hbox); have GW528 := Aside0.mk ((bs hg (below_size HB.out))); have GE528 := Aside0.mk ((bs hg (below_size HB.out))); replace HB := Aside0.mk (below_step B12x0_ hb); have NB516_528 := Aside0.mk ((nl hg (blk_lt BK516.out))); have NB528_516 := Aside0.mk ((ng hg (blk_lt BK516.out))); replace BK516 := Aside0.mk (bb BK516.out hb); have NB517_528 := Aside0.mk ((nl hg (blk_lt BK517.out))); have NB528_517 := Aside0.mk ((ng hg (blk_lt BK517.out))); replace BK517 := Aside0.mk (bb BK517.out hb); have NB518_528 := Aside0.mk ((nl hg (blk_lt BK518.out))); have NB528_518 := Aside0.mk ((ng hg (blk_lt BK518.out))); replace BK518 := Aside0.mk (bb BK518.out hb); clear hb hbox hg; have hnb41 := NB528_516.out; have hnc41 := NB516_528.out; have hnb42 := NB528_517.out; have hnc42 := NB517_528.out; have hnb43 := NB528_518.out; have hnc43 := NB518_528.out; obtain ⟨hcz44_0, hcz44_1, hcz44_2⟩ := cl3 BK528.out; obtain ⟨hfz44_0, hfz44_1, hfz44_2⟩ := fr3 BK528.out; obtain ⟨Ao45, co45, eo45⟩ := Kd.R_slice HO527.out; subst eo45))
    have n0_ : Aside0 (Kd.R k28 28 (((w40.setCell ⟨gb528, 0, none⟩ (.int .i64 t523)).setCell ⟨gb528, 1, none⟩ (.int .i64 t524)).setCell ⟨gb528, 2, none⟩ (.slice Ao45 t525.length co45)) w.heap.size (fun k_ => k_ ≠ gb517) (.slice Ao45 t525.length co45) t525) := ⟨(by (with_reducible repeat (first | apply Kd.R_alloc | apply Kd.R_drewN | apply Kd.R_drew)); exact Kd.R_mono (Kd.R_far (p := ⟨gb528, 2, none⟩) (Kd.R_far (p := ⟨gb528, 1, none⟩) (Kd.R_far (p := ⟨gb528, 0, none⟩) (Kd.R_types HO527.out BK528.out (by decide)) (fun _ hk => hk.2) (.int .i64 t523)) (fun _ hk => hk.2) (.int .i64 t524)) (fun _ hk => hk.2) (.slice Ao45 t525.length co45)) (fun _ hk => hk.1.2))⟩
    have n1_ : Aside0 ((((w40.setCell ⟨gb528, 0, none⟩ (.int .i64 t523)).setCell ⟨gb528, 1, none⟩ (.int .i64 t524)).setCell ⟨gb528, 2, none⟩ (.slice Ao45 t525.length co45)).heap[gb516]? = some (.cells #[.int .i64 a0_0, .int .i64 a0_1, .slice A0_2 l0_2.length c0_2] 26 (0, 0))) := ⟨B12x4_⟩
    have n2_ : Aside0 ((((w40.setCell ⟨gb528, 0, none⟩ (.int .i64 t523)).setCell ⟨gb528, 1, none⟩ (.int .i64 t524)).setCell ⟨gb528, 2, none⟩ (.slice Ao45 t525.length co45)).heap[gb517]? = some (.cells #[.int .i64 a2_0, .int .i64 a2_1, .string a2_2] 28 (0, 0))) := ⟨B12x5_⟩
    have n3_ : Aside0 ((((w40.setCell ⟨gb528, 0, none⟩ (.int .i64 t523)).setCell ⟨gb528, 1, none⟩ (.int .i64 t524)).setCell ⟨gb528, 2, none⟩ (.slice Ao45 t525.length co45)).heap[gb518]? = some (.cells #[.int .i64 0, .int .i64 0, .slice none 0 0] 26 (0, 0))) := ⟨B12x6_⟩
    have n4_ : Aside0 ((((w40.setCell ⟨gb528, 0, none⟩ (.int .i64 t523)).setCell ⟨gb528, 1, none⟩ (.int .i64 t524)).setCell ⟨gb528, 2, none⟩ (.slice Ao45 t525.length co45)).heap[gb528]? = some (.cells #[.int .i64 t523, .int .i64 t524, .slice Ao45 t525.length co45] 26 (0, 0))) := ⟨B12x8_⟩
    have n5_ : Aside0 (Below w.heap.size w (((w40.setCell ⟨gb528, 0, none⟩ (.int .i64 t523)).setCell ⟨gb528, 1, none⟩ (.int .i64 t524)).setCell ⟨gb528, 2, none⟩ (.slice Ao45 t525.length co45))) := ⟨B12x1_⟩
    (try clear HO527)
    (try clear BK516)
    (try clear BK517)
    (try clear BK518)
    (try clear BK528)
    (try clear HB)
    generalize (((w40.setCell ⟨gb528, 0, none⟩ (.int .i64 t523)).setCell ⟨gb528, 1, none⟩ (.int .i64 t524)).setCell ⟨gb528, 2, none⟩ (.slice Ao45 t525.length co45)) = w46 at n0_ n1_ n2_ n3_ n4_ n5_ ⊢
    have HO527 := n0_
    have BK516 := n1_
    have BK517 := n2_
    have BK518 := n3_
    have BK528 := n4_
    have HB := n5_
    clear n0_ n1_ n2_ n3_ n4_ n5_
    replace HO527 := Aside0.mk (Kd.R_drew HO527.out)
    replace BK516 := Aside0.mk (blk_drew BK516.out)
    replace BK517 := Aside0.mk (blk_drew BK517.out)
    replace BK518 := Aside0.mk (blk_drew BK518.out)
    replace BK528 := Aside0.mk (blk_drew BK528.out)
    replace HB := Aside0.mk (below_drew1 HB.out)
    have q48 : ((ji30) : Int) ≤ ((t525.length : Int) : Int) := of_decide_eq_true B12x16_
    obtain ⟨i048, hi048, _, hsz48, _⟩ := info_parts info28
    have hcut48 := cut_to (P := Try.prog) 24 28 .i64 Try.underlying24 hi048 Ao45 t525.length co45 (ji30) (of_decide_eq_true B12x16_) q48 (Kd.R_reads' HO527.out).2.1
    have hr48 := Kd.R_take (m := ((ji30) : Int).toNat) HO527.out (by omega)
    have hy48 : y529.length = ((ji30) : Int).toNat := (by rw [Ny529.out, List.length_take]; omega)
    rw [← Ny529.out] at hr48
    rw [← hy48] at hr48 hcut48
    clear hy48 hi048 hsz48 HO527
    have HO531 := Aside0.mk hr48
    clear hr48
    replace q48 := eq_true q48
    refine start_ (n := 13) (S := fun w' => w'.cell? ⟨gb528, 0, none⟩ = some (.int .i64 t523) ∧ w'.cell? ⟨gb528, 1, none⟩ = some (.int .i64 t524) ∧ w'.cell? ⟨gb528, 2, none⟩ = some (.slice Ao45 t525.length co45) ∧ w'.cell? ⟨gb516, 0, none⟩ = some (.int .i64 a0_0) ∧ w'.cell? ⟨gb516, 1, none⟩ = some (.int .i64 a0_1) ∧ w'.cell? ⟨gb516, 2, none⟩ = some (.slice A0_2 l0_2.length c0_2) ∧ w'.cell? ⟨gb517, 0, none⟩ = some (.int .i64 a2_0) ∧ w'.cell? ⟨gb517, 1, none⟩ = some (.int .i64 a2_1) ∧ w'.cell? ⟨gb517, 2, none⟩ = some (.string a2_2)) (ds := [12]) #[false, false, false, false, false, false, false, false, false, false, false, false, false] B12x13_ rfl rfl ⟨(blk_cell BK528.out 0).trans rfl, (blk_cell BK528.out 1).trans rfl, (blk_cell BK528.out 2).trans rfl, (blk_cell BK516.out 0).trans rfl, (blk_cell BK516.out 1).trans rfl, (blk_cell BK516.out 2).trans rfl, (blk_cell BK517.out 0).trans rfl, (blk_cell BK517.out 1).trans rfl, (blk_cell BK517.out 2).trans rfl⟩ (fun hHeld => ?_); refine with_tabW impl_LogPut.tab5 impl_LogPut.bits5 (fun HT_ HW_ => ?_)
    generalize w46.drew = w47 at BK516 BK517 BK518 BK528 HB HO531 hHeld ⊢
    refine pu_ 0 32 HT_ ?_
    refine pu_ 2 34 HT_ ?_
    refine pu_ 3 35 HT_ ?_
    refine ta_ 1 33 HT_ HW_ hHeld ?_
    refine ta_ 4 36 HT_ HW_ hHeld ?_
    refine pu_ 5 37 HT_ ?_
    refine pu_ 6 38 HT_ ?_
    refine pu_ 7 39 HT_ ?_
    refine ta_ 8 40 HT_ HW_ hHeld ?_
    refine one_ (i := 9) (N := some 41) #[true, true, true, true, true, true, true, true, true, true, false, false, false] rfl rfl (one_of HT_.out B12x13_) (by decide) (fun K hK => ?_)
    refine value_ (w1 := ?_) (v := ?_) (by rfl) rfl ?_ ?_
    rotate_left 2
    ·go_simp
     constructor
     ·rfl
     ·rfl
    refine hK.out _ _ ⟨(blk_cell (blk_alloc BK528.out _) 0).trans rfl, (blk_cell (blk_alloc BK528.out _) 1).trans rfl, (blk_cell (blk_alloc BK528.out _) 2).trans rfl, (blk_cell (blk_alloc BK516.out _) 0).trans rfl, (blk_cell (blk_alloc BK516.out _) 1).trans rfl, (blk_cell (blk_alloc BK516.out _) 2).trans rfl, (blk_cell (blk_alloc BK517.out _) 0).trans rfl, (blk_cell (blk_alloc BK517.out _) 1).trans rfl, (blk_cell (blk_alloc BK517.out _) 2).trans rfl⟩ (fun hHeld => ?_)
    clear hK K
    refine norm_ (a' := ?_) ?_ ?_
    rotate_left
    ·show Act.put _ (some 41) _ = _
     simp only [Act.put, List.setIfInBounds_toArray, List.set_cons_zero, List.set_cons_succ, i64_w, i32_w]
     rfl
    refine one_ (i := 10) (N := some 42) #[true, true, true, true, true, true, true, true, true, true, true, false, false] rfl rfl (one_of HT_.out B12x13_) (by decide) (fun K hK => ?_)
    refine Kd.R_append_step k28 (w0 := w) w.heap.size (by rfl) (.tmp 39) (.tmp 41) 24 28 (.agg #[(.int .i64 0), (.int .i64 0), (.string ⟨#[]⟩)]) 32 rfl Try.underlying24 info28 rfl (by decide) (by omega) (.slice Ao45 y529.length co45) y529 (⟨a2_0, a2_1, a2_2⟩ : S28) [.int .i64 a2_0, .int .i64 a2_1, .string a2_2] (fun k_ => k_ ≠ gb517) (fun _ => False) rfl rfl ?aP (fun _ hk => hk.elim) ?aF ?aO ?aB ?aS ?aL ?_
    (case aP => exact k28_mkM _ _ _ (⟨a2_0, a2_1, a2_2⟩ : S28))
    (case aB => exact B12x1_)
    (case aF => exact (fun k_ hk => Kd.freshB (g := gb517) (o := .cells #[.int .i64 a2_0, .int .i64 a2_1, .string a2_2] 28 (0, 0)) B12x10_ k_ hk))
    (case aO => (with_reducible repeat (first | apply Kd.R_alloc | apply Kd.R_drewN | apply Kd.R_drew)); exact HO531.out)
    (case aS => exact (below_size B12x1_))
    (case aL => have := LMc33.out; omega)
    intro v533 w49 ho hb hg hat
    rw [← Ny532.out] at ho
    replace BK516 := Aside0.mk (blk_grown (g := gb516) (o := .cells #[.int .i64 a0_0, .int .i64 a0_1, .slice A0_2 l0_2.length c0_2] 26 (0, 0)) B12x11_ hg (Kd.R_ne HO531.out BK516.out (by decide)))
    replace BK517 := Aside0.mk (blk_grown (g := gb517) (o := .cells #[.int .i64 a2_0, .int .i64 a2_1, .string a2_2] 28 (0, 0)) B12x10_ hg (Kd.R_away HO531.out (fun _ hk => hk)))
    replace BK518 := Aside0.mk (blk_grown (g := gb518) (o := .cells #[.int .i64 0, .int .i64 0, .slice none 0 0] 26 (0, 0)) B12x12_ hg (Kd.R_ne HO531.out BK518.out (by decide)))
    replace BK528 := Aside0.mk (blk_grown (g := gb528) (o := .cells #[.int .i64 t523, .int .i64 t524, .slice Ao45 t525.length co45] 26 (0, 0)) (by (with_reducible repeat (first | refine blk_drewN ?_ _ | refine blk_drew ?_ | refine blk_alloc ?_ _)); exact BK528.out) hg (Kd.R_ne HO531.out BK528.out (by decide)))
    replace HB := Aside0.mk (hb)
    have HO534 := Aside0.mk (ho)
    clear HO531
    clear ho hb hg hat
    obtain ⟨Ao50, co50, eo50⟩ := Kd.R_slice HO534.out
    (first | subst eo50 | (injection eo50 with f1_ f2_ f3_; have f4_ := f1_.symm; have f5_ := f3_.symm; clear f1_ f2_ f3_; subst f4_; subst f5_))
    refine hK.out _ _ ⟨(blk_cell BK528.out 0).trans rfl, (blk_cell BK528.out 1).trans rfl, (blk_cell BK528.out 2).trans rfl, (blk_cell BK516.out 0).trans rfl, (blk_cell BK516.out 1).trans rfl, (blk_cell BK516.out 2).trans rfl, (blk_cell BK517.out 0).trans rfl, (blk_cell BK517.out 1).trans rfl, (blk_cell BK517.out 2).trans rfl⟩ (fun hHeld => ?_)
    clear hK K
    refine norm_ (a' := ?_) ?_ ?_
    rotate_left
    ·show Act.put _ (some 42) _ = _
     simp only [Act.put, List.setIfInBounds_toArray, List.set_cons_zero, List.set_cons_succ, i64_w, i32_w]
     rfl
    refine pu_ 11 43 HT_ ?_
    refine last_ (i := 12) (N := none) #[true, true, true, true, true, true, true, true, true, true, true, true, true] rfl rfl (one_of HT_.out B12x13_) (by decide) (fun K hK => ?_)
    have hs51 : w49.cell? ⟨gb528, 2, none⟩ = some (.slice Ao45 t525.length co45) := (blk_cell BK528.out 2).trans rfl
    have hfs51 := blk_frozen BK528.out 2
    have hns51_0 := NB516_528.out
    have hns51_1 := NB517_528.out
    have hns51_2 := NB518_528.out
    have hms51_0 := NB528_516.out
    have hms51_1 := NB528_517.out
    have hms51_2 := NB528_518.out
    refine skip_ (w1 := ?_) (by rfl) rfl ?_ ?_
    rotate_left
    ·go_simp
     rfl
    refine hK.out _ _ ?_
    clear hK K
    refine done_ (done_of HT_.out B12x13_) ?_
    obtain ⟨hcz52_0, hcz52_1, hcz52_2⟩ := cl3 BK528.out
    obtain ⟨hfz52_0, hfz52_1, hfz52_2⟩ := fr3 BK528.out
    have H := HL_172.out
    clear HL_172
    by_cases c35 : t535 = true
    ·subst c35
     rw [if_pos rfl] at H
     simp only [Option.some.injEq, Prod.mk.injEq] at H
     obtain ⟨rfl, rfl, rfl, rfl⟩ := H
     try go_wp2_with (first | ((with_reducible refine gate_callee (f := 18) rfl ?_); refine goesL_ (some 45) rfl rfl Try.func18 B12x13_ rfl #[.agg #[.int .i64 t523, .int .i64 t524, .slice Ao50 y532.length co50]] rfl B12x3_ ?_; (with_reducible refine (impl_LogOk.calls kj4 t523 t524 _ _ y532 true _ ?side1 ?side2 A34.out).mono ?_); (case side1 => exact B12x14_); (case side2 => exact (Kd.R_reads' HO534.out).2.1); rintro e w53 ⟨rfl, hb⟩; refine ⟨_, rfl, ?_⟩; replace HO534 := Aside0.mk (Kd.R_below B12x2_ hb); replace BK516 := Aside0.mk (blk_below (g := gb516) (o := .cells #[.int .i64 a0_0, .int .i64 a0_1, .slice A0_2 l0_2.length c0_2] 26 (0, 0)) B12x4_ hb); replace BK517 := Aside0.mk (blk_below (g := gb517) (o := .cells #[.int .i64 a2_0, .int .i64 a2_1, .string a2_2] 28 (0, 0)) B12x5_ hb); replace BK518 := Aside0.mk (blk_below (g := gb518) (o := .cells #[.int .i64 0, .int .i64 0, .slice none 0 0] 26 (0, 0)) B12x6_ hb); replace BK528 := Aside0.mk (blk_below (g := gb528) (o := .cells #[.int .i64 t523, .int .i64 t524, .slice Ao50 y532.length co50] 26 (0, 0)) B12x8_ hb); replace HB := Aside0.mk (below_step B12x1_ hb); (try clear hb); obtain ⟨hcz54_0, hcz54_1, hcz54_2⟩ := cl3 BK528.out; obtain ⟨hfz54_0, hfz54_1, hfz54_2⟩ := fr3 BK528.out; have hnb55 := NB518_517.out; have hnc55 := NB517_518.out; obtain ⟨hcz56_0, hcz56_1, hcz56_2⟩ := cl3 BK518.out; obtain ⟨hfz56_0, hfz56_1, hfz56_2⟩ := fr3 BK518.out))
     refine bodyPost_ret (results_ct rfl _ _ gb518 26 #[.int .i64 t523, .int .i64 t524, .slice Ao50 y532.length co50] (0, 0) _ rfl B12x7_ Try.underlying26 rfl B12x13_) rfl ?_
     exact ⟨_, by first | rfl | (simp [errW_none, errW_some] <;> rfl) | (simp only [← hji30]; first | rfl | (simp [errW_none, errW_some] <;> rfl)) | (simp [*, errW_none, errW_some] <;> rfl), by (with_reducible repeat (first | apply Kd.R_alloc | apply Kd.R_drewN | apply Kd.R_drew)); exact Kd.R_mono (Kd.R_far (p := ⟨gb518, 2, none⟩) (Kd.R_far (p := ⟨gb518, 1, none⟩) (Kd.R_far (p := ⟨gb518, 0, none⟩) (Kd.R_types HO534.out BK518.out (by decide)) (fun _ hk => hk.2) (.int .i64 t523)) (fun _ hk => hk.2) (.int .i64 t524)) (fun _ hk => hk.2) (.slice Ao50 y532.length co50)) (fun _ hk => trivial), by repeat (first | (with_reducible first | exact HB.out | apply below_alloc | apply pw_below_drewN | apply below_drew1 | refine below_set ?_ GE516.out | refine below_set ?_ GE517.out | refine below_set ?_ GE518.out | refine below_set ?_ GE528.out) | exact HB.out)⟩
    ·replace c35 := Bool.eq_false_iff.mpr c35
     subst c35
     rw [if_neg (show ¬ (false = true) by decide)] at H
     simp only [Option.some.injEq, Prod.mk.injEq] at H
     obtain ⟨rfl, rfl, rfl, rfl⟩ := H
     try go_wp2_with (first | ((with_reducible refine gate_callee (f := 18) rfl ?_); refine goesL_ (some 45) rfl rfl Try.func18 B12x13_ rfl #[.agg #[.int .i64 t523, .int .i64 t524, .slice Ao50 y532.length co50]] rfl B12x3_ ?_; (with_reducible refine (impl_LogOk.calls kj4 t523 t524 _ _ y532 false _ ?side1 ?side2 A34.out).mono ?_); (case side1 => exact B12x14_); (case side2 => exact (Kd.R_reads' HO534.out).2.1); rintro e w74 ⟨rfl, hb⟩; refine ⟨_, rfl, ?_⟩; replace HO534 := Aside0.mk (Kd.R_below B12x2_ hb); replace BK516 := Aside0.mk (blk_below (g := gb516) (o := .cells #[.int .i64 a0_0, .int .i64 a0_1, .slice A0_2 l0_2.length c0_2] 26 (0, 0)) B12x4_ hb); replace BK517 := Aside0.mk (blk_below (g := gb517) (o := .cells #[.int .i64 a2_0, .int .i64 a2_1, .string a2_2] 28 (0, 0)) B12x5_ hb); replace BK518 := Aside0.mk (blk_below (g := gb518) (o := .cells #[.int .i64 0, .int .i64 0, .slice none 0 0] 26 (0, 0)) B12x6_ hb); replace BK528 := Aside0.mk (blk_below (g := gb528) (o := .cells #[.int .i64 t523, .int .i64 t524, .slice Ao50 y532.length co50] 26 (0, 0)) B12x8_ hb); replace HB := Aside0.mk (below_step B12x1_ hb); (try clear hb); have hnb75 := NB518_517.out; have hnc75 := NB517_518.out; obtain ⟨hcz76_0, hcz76_1, hcz76_2⟩ := cl3 BK518.out; obtain ⟨hfz76_0, hfz76_1, hfz76_2⟩ := fr3 BK518.out))
     refine bodyPost_ret (results_ct rfl _ _ gb518 26 #[.int .i64 0, .int .i64 0, .slice none 0 0] (0, 0) _ rfl B12x7_ Try.underlying26 rfl B12x13_) rfl ?_
     exact ⟨_, by first | rfl | (simp [errW_none, errW_some] <;> rfl) | (simp only [← hji30]; first | rfl | (simp [errW_none, errW_some] <;> rfl)) | (simp [*, errW_none, errW_some] <;> rfl), by first | exact Kd.R_nil _ _ _ _ _ | exact Kd.N_nil _ _ _ _ _ | exact Kd.V_nil _ _ _ _ _ | exact Kd.Q_nil _ _ _ _ _ | exact Kd.S_nil _ _ _ _ _, by repeat (first | (with_reducible first | exact HB.out | apply below_alloc | apply pw_below_drewN | apply below_drew1 | refine below_set ?_ GE516.out | refine below_set ?_ GE517.out | refine below_set ?_ GE518.out | refine below_set ?_ GE528.out) | exact HB.out)⟩

end Go.Proofs.Ytgffdijodnpolaa.QFnPuts
