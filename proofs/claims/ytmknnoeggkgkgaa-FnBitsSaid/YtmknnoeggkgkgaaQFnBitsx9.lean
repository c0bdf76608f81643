/- Functions that a law reaches, as functions of Lean, and the walks that show that the calls come to their answers: written by a program of this project out of the translation. No condition. -/
import Derived.Test.YtmknnoeggkgkgaaQFnBitsx0
import Derived.Test.YtmknnoeggkgkgaaQFnBitsx4
import Derived.Test.YtmknnoeggkgkgaaQFnBitsx5
import Derived.Test.YtmknnoeggkgkgaaQFnBitsx8
import Derived.Test.YtmknnoeggkgkgaaVFnBitshort4
import Derived.Test.YtmknnoeggkgkgaaVFnBitshort3
import Derived.Test.YtmknnoeggkgkgaaVFnBitsShort2
import Derived.Test.YtmknnoeggkgkgaaVFnBitsShort
namespace Go.Proofs.Ytmknnoeggkgkgaa.QFnBits
open Go.RowKit Go.Proofs.YtmknnoeggkgkgaaW.PrintWords Go.Proofs.YtmknnoeggkgkgaaW.PrintLast Go.Proofs.YtmknnoeggkgkgaaW.PrintMore Go.Proofs.Ytmknnoeggkgkgaa.Short
attribute [local go_sem] max2_int min2_int max_two min_two max_three min_three max_four min_four   -- for this text's walks alone
set_option linter.unusedVariables false
set_option linter.unusedSimpArgs false

theorem B9x0_ {p : Prop} (h : p := by repeat (first | (with_reducible first | exact HI419.out | apply IsS159.alloc | apply IsS159.drewN | apply IsS159.drew | apply IsS159.set_1 | apply IsS159.set_2 | refine IsS159.far ?_ NB419_415.out _ | refine IsS159.far ?_ NB419_433.out _) | exact HI419.out)) : p := h
theorem B9x1_ {p : Prop} (h : p := by repeat (first | (with_reducible first | exact HB.out | apply below_alloc | apply pw_below_drewN | apply below_drew1 | refine below_set ?_ (IsS159.ge HI419.out) | refine below_set ?_ GE415.out | refine below_set ?_ GE433.out) | exact HB.out)) : p := h
theorem B9x2_ {p : Prop} (h : p := by (try simp only [List.map_toArray, List.map_cons, List.map_nil]); first | done | rfl | (simp only [List.length_drop, List.length_take]; rfl)) : p := h
theorem B9x3_ {p : Prop} (h : p := by repeat (first | (with_reducible first | exact HI419.out | apply IsS159.alloc | apply IsS159.drewN | apply IsS159.drew | apply IsS159.set_1 | apply IsS159.set_2 | refine IsS159.far ?_ NB419_415.out _ | refine IsS159.far ?_ NB419_433.out _ | refine IsS159.far ?_ NB419_460.out _) | exact HI419.out)) : p := h
theorem B9x4_ {p : Prop} (h : p := by repeat (first | (with_reducible first | exact HB.out | apply below_alloc | apply pw_below_drewN | apply below_drew1 | refine below_set ?_ (IsS159.ge HI419.out) | refine below_set ?_ GE415.out | refine below_set ?_ GE433.out | refine below_set ?_ GE460.out) | exact HB.out)) : p := h
theorem B9x5_ {p : Prop} (h : p := by (with_reducible repeat (first | apply Kd.N_alloc | apply Kd.N_drewN | apply Kd.N_drew)); exact HO_6.out) : p := h
theorem B9x6_ {p : Prop} (h : p := by repeat (first | (with_reducible first | exact HB.out | apply below_alloc | apply pw_below_drewN | apply below_drew1 | refine below_set ?_ (IsS159.ge HI419.out) | refine below_set ?_ GE415.out) | exact HB.out)) : p := h
theorem B9x7_ {p : Prop} (h : p := by (with_reducible repeat (first | refine blk_drewN ?_ _ | refine blk_drew ?_ | refine blk_alloc ?_ _)); exact BK415.out) : p := h
theorem B9x8_ {p : Prop} (h : p := by (with_reducible repeat (first | refine blk_drewN ?_ _ | refine blk_drew ?_ | refine blk_alloc ?_ _)); exact BK433.out) : p := h
theorem B9x9_ {p : Prop} (h : p := by repeat (first | (with_reducible first | exact HI419.out | apply IsS159.alloc | apply IsS159.drewN | apply IsS159.drew | apply IsS159.set_1 | apply IsS159.set_2 | refine IsS159.far ?_ NB419_415.out _) | exact HI419.out)) : p := h
theorem B9x10_ {p : Prop} (h : p := by (repeat (with_reducible (first | exact BK415.out | apply blk_drewN | apply blk_drew | apply blk_alloc | apply blk_put | apply bf NB415_433.out))); repeat (first | exact BK415.out | (simp only [List.setIfInBounds_toArray, List.set_cons_zero, List.set_cons_succ]; with_reducible rfl) | rfl)) : p := h
theorem B9x11_ {p : Prop} (h : p := by (repeat (with_reducible (first | exact BK433.out | apply blk_drewN | apply blk_drew | apply blk_alloc | apply blk_put))); repeat (first | exact BK433.out | (simp only [List.setIfInBounds_toArray, List.set_cons_zero, List.set_cons_succ]; with_reducible rfl) | rfl)) : p := h
theorem B9x12_ {p : Prop} (h : p := by (with_reducible repeat (first | apply Kd.N_alloc | apply Kd.N_drewN | apply Kd.N_drew)); exact HO422.out) : p := h
theorem B9x13_ {p : Prop} (h : p := by kernel_rfl) : p := h
theorem B9x14_ {p : Prop} (h : p := by (with_reducible repeat (first | apply Kd.V_alloc | apply Kd.V_drewN | apply Kd.V_drew)); exact HL459_2.out) : p := h
theorem B9x15_ {p : Prop} (h : p := by (with_reducible repeat (first | apply Kd.V_alloc | apply Kd.V_drewN | apply Kd.V_drew)); exact HL459_3.out) : p := h
theorem B9x16_ {p : Prop} (h : p := by (repeat (with_reducible (first | exact BK415.out | apply blk_drewN | apply blk_drew | apply blk_alloc | apply blk_put))); repeat (first | exact BK415.out | (simp only [List.setIfInBounds_toArray, List.set_cons_zero, List.set_cons_succ]; with_reducible rfl) | rfl)) : p := h
theorem B9x17_ {p : Prop} (h : p := by first | (go_simp; done) | (go_simp; rfl)) : p := h
theorem B9x18_ {p : Prop} (h : p := by (with_reducible repeat (first | apply Kd.N_alloc | apply Kd.N_drewN | apply Kd.N_drew)); exact Kd.N_mono HO422.out (fun _ hk => ⟨hk.1.1, ⟨hk.2, ⟨hk.1.2.1, ⟨hk.1.2.2.2, hk.1.2.2.1⟩⟩⟩⟩)) : p := h
theorem B9x19_ {p : Prop} (h : p := by first | (with_reducible assumption) | assumption) : p := h
theorem B9x20_ {p : Prop} (h : p := by (with_reducible repeat (first | apply Kd.N_alloc | apply Kd.N_drewN | apply Kd.N_drew)); exact Kd.N_mono HO_6.out (fun _ hk => ⟨hk.1, ⟨hk.2.2.1, ⟨hk.2.2.2.1, hk.2.2.2.2⟩⟩⟩)) : p := h
theorem B9x21_ {p : Prop} (h : p := by (with_reducible repeat (first | apply Kd.R_alloc | apply Kd.R_drewN | apply Kd.R_drew)); exact Kd.R_mono HO444.out (fun _ hk => ⟨hk.1.1.1, ⟨hk.1.2, hk.2⟩⟩)) : p := h
theorem B9x22_ {p : Prop} (h : p := by have := HJ6.out; have := HJ21.out; first | omega | exact Nat.le_refl _) : p := h
theorem B9x23_ {p : Prop} (h : p := by have := HJ6.out; first | omega | exact Nat.le_refl _) : p := h
/-! ### spec_DrawJoinBits: function 47 -/
mutual
def spec_DrawJoinBits.j0 : Nat → List (S82) → List (S62) → Bool → List Int → Int → Int → Int → Int → Int → Int → Bool → ByteArray → Option ((List (S82)) × Int × Int × Int × Int × Bool × ByteArray × Int)
 | 0, _, _, _, _, _, _, _, _, _, _, _, _ => none
 | k + 1, x6, x8, x27, x420000, x420001, x420002, x434000, x434001, x434002, x434003, x434004, x434005 => if x27 = true then ((spec_l01Below.f x420000 x420001 x420002 (x8.length : Int)).bind fun bt449 => (if 0 ≤ bt449.1 then (if bt449.1 < (x8.length : Int) then (spec_DrawJoinBits.j1 k x6 x420000 bt449.2.1 bt449.2.2 ((rd_T62 x8 bt449.1).f0) ((rd_T62 x8 bt449.1).f1) ((rd_T62 x8 bt449.1).f2) ((rd_T62 x8 bt449.1).f3) ((rd_T62 x8 bt449.1).f4) ((rd_T62 x8 bt449.1).f5)) else (none)) else (none))) else (spec_DrawJoinBits.j1 k x6 x420000 x420001 x420002 x434000 x434001 x434002 x434003 x434004 x434005)
def spec_DrawJoinBits.j1 : Nat → List (S82) → List Int → Int → Int → Int → Int → Int → Int → Bool → ByteArray → Option ((List (S82)) × Int × Int × Int × Int × Bool × ByteArray × Int)
 | 0, _, _, _, _, _, _, _, _, _, _ => none
 | k + 1, x6, x420000, x420001, x420002, x434000, x434001, x434002, x434003, x434004, x434005 => if (x6.length : Int) > 0 then ((spec_l01Once.f x420000 x420001 x420002 3).bind fun bt453 => (spec_DrawJoinBits.j2 k x6 bt453.1 x420000 bt453.2.1 bt453.2.2 x434000 x434001 x434002 x434003 x434004 x434005)) else (spec_DrawJoinBits.j2 k x6 false x420000 x420001 x420002 x434000 x434001 x434002 x434003 x434004 x434005)
def spec_DrawJoinBits.j2 : Nat → List (S82) → Bool → List Int → Int → Int → Int → Int → Int → Int → Bool → ByteArray → Option ((List (S82)) × Int × Int × Int × Int × Bool × ByteArray × Int)
 | 0, _, _, _, _, _, _, _, _, _, _, _ => none
 | k + 1, x6, x41, x420000, x420001, x420002, x434000, x434001, x434002, x434003, x434004, x434005 => if x41 = true then ((spec_l01Below.f x420000 x420001 x420002 (x6.length : Int)).bind fun bt456 => (if 0 ≤ bt456.1 then (if bt456.1 < (x6.length : Int) then ((spec_l01Below.f x420000 bt456.2.1 bt456.2.2 4).bind fun bt461 => ((spec_l01Once.f x420000 bt461.2.1 bt461.2.2 2).bind fun bt464 => ((spec_l01Place.f x420000 bt464.2.1 bt464.2.2 30).bind fun bt467 => (some (x6, (rd_T82 x6 bt456.1).f0, 1, (rd_T82 x6 bt456.1).f1, wrap64 (8 * bt461.1), bt464.1, (⟨#[49, 50, 51, 52, 53, 54, 55, 56]⟩ : ByteArray), bt467.1))))) else (none)) else (none))) else ((spec_l01Place.f x420000 x420001 x420002 30).bind fun bt470 => (some (x6, x434000, x434001, x434002, x434003, x434004, x434005, bt470.1)))
end
def spec_DrawJoinBits.f (k : Nat) (l0 : List Int) : Option ((List (S82)) × Int × Int × Int × Int × Bool × ByteArray × Int) := (spec_l01New.f k l0).bind fun bt416 => ((spec_l11Bits.f k bt416.1 bt416.2.1 bt416.2.2).bind fun bt420 => ((spec_l11Any.f k bt416.1 bt420.2.1 bt420.2.2).bind fun bt425 => ((spec_l11Dgram.f k bt416.1 bt425.2.2.2.2.2.2.1 bt425.2.2.2.2.2.2.2).bind fun bt434 => ((spec_CutDgram.f k bt434.1 bt434.2.1 bt434.2.2.1 bt434.2.2.2.1 bt434.2.2.2.2.1 bt434.2.2.2.2.2.1 8).bind fun bt442 => (if bt442.2 = true then ((spec_l01Once.f bt416.1 bt434.2.2.2.2.2.2.1 bt434.2.2.2.2.2.2.2 2).bind fun bt446 => (spec_DrawJoinBits.j0 k bt420.1 bt442.1 bt446.1 bt416.1 bt446.2.1 bt446.2.2 bt425.1 bt425.2.1 bt425.2.2.1 bt425.2.2.2.1 bt425.2.2.2.2.1 bt425.2.2.2.2.2.1)) else (spec_DrawJoinBits.j0 k bt420.1 bt442.1 false bt416.1 bt434.2.2.2.2.2.2.1 bt434.2.2.2.2.2.2.2 bt425.1 bt425.2.1 bt425.2.2.1 bt425.2.2.2.1 bt425.2.2.2.2.1 bt425.2.2.2.2.2.1))))))
def spec_DrawJoinBits.T9 : Bool × List (List Nat × List Nat) := (true, [([], []), ([0], [0]), ([], []), ([2], [2]), ([], []), ([4], [4]), ([5], [5]), ([], []), ([7, 5], [7]), ([1, 3, 6, 8], [1, 3, 6, 8]), ([9, 8, 0, 1, 2, 3, 4, 5, 6, 7, 8, 9], [9])])
def spec_DrawJoinBits.B9 : List Nat := [0, 1, 0, 4, 0, 16, 48, 0, 176, 511, 1023]
theorem spec_DrawJoinBits.tab9 : rtab .any (opsOf Try.f47 9) = spec_DrawJoinBits.T9 := by kernel_rfl
theorem spec_DrawJoinBits.bits9 : waitsOk spec_DrawJoinBits.T9.2 spec_DrawJoinBits.B9 = true := by kernel_rfl
set_option maxHeartbeats 8000000 in
set_option maxRecDepth 100000 in
theorem spec_DrawJoinBits.calls (k : Nat) (A0 : Option Addr) (c0 : Nat) (l0 : List Int) (r1 : List (S82)) (r2 : Int) (r3 : Int) (r4 : Int) (r5 : Int) (r6 : Bool) (r7 : ByteArray) (r8 : Int) (w : World) (hr0 : Kd.C (Kd.int .u8) w A0 l0.length l0) (hc0 : l0.length ≤ c0) (h : spec_DrawJoinBits.f k l0 = some (r1, r2, r3, r4, r5, r6, r7, r8)) :
  Calls Try.prog 47 #[.slice A0 l0.length c0] w fun e w' => ∃ v0_ : Value, e = .returned (.tuple #[v0_, .agg #[.int .i64 r2, .int .i64 r3, .int .i64 r4, .int .i64 r5, .bool r6, .string r7], .int .i64 r8]) ∧ Kd.N k82 82 w' w.heap.size (fun k_ => (w.heap.size ≤ k_)) v0_ r1 ∧ Below w.heap.size w w' := by
 have hu62 := Try.underlying62
 have hu82 := Try.underlying82
 have HR0 := Aside0.mk hr0
 have HC0 := Aside0.mk hc0
 clear hr0 hc0
 have HB := Aside0.mk (Below.refl w.heap.size w)
 have H : ((spec_l01New.f k l0).bind fun bt416 => ((spec_l11Bits.f k bt416.1 bt416.2.1 bt416.2.2).bind fun bt420 => ((spec_l11Any.f k bt416.1 bt420.2.1 bt420.2.2).bind fun bt425 => ((spec_l11Dgram.f k bt416.1 bt425.2.2.2.2.2.2.1 bt425.2.2.2.2.2.2.2).bind fun bt434 => ((spec_CutDgram.f k bt434.1 bt434.2.1 bt434.2.2.1 bt434.2.2.2.1 bt434.2.2.2.2.1 bt434.2.2.2.2.2.1 8).bind fun bt442 => (if bt442.2 = true then ((spec_l01Once.f bt416.1 bt434.2.2.2.2.2.2.1 bt434.2.2.2.2.2.2.2 2).bind fun bt446 => (spec_DrawJoinBits.j0 k bt420.1 bt442.1 bt446.1 bt416.1 bt446.2.1 bt446.2.2 bt425.1 bt425.2.1 bt425.2.2.1 bt425.2.2.2.1 bt425.2.2.2.2.1 bt425.2.2.2.2.2.1)) else (spec_DrawJoinBits.j0 k bt420.1 bt442.1 false bt416.1 bt434.2.2.2.2.2.2.1 bt434.2.2.2.2.2.2.2 bt425.1 bt425.2.1 bt425.2.2.1 bt425.2.2.2.1 bt425.2.2.2.2.1 bt425.2.2.2.2.2.1))))))) = some (r1, r2, r3, r4, r5, r6, r7, r8) := h
 clear h
 replace H := bsi H
 obtain ⟨⟨t416, t417, t418⟩, A2, H⟩ := H
 (try dsimp only at H)
 replace H := bsi H
 obtain ⟨⟨t420, t423, t424⟩, A3, H⟩ := H
 (try dsimp only at H)
 replace H := bsi H
 obtain ⟨⟨t425, t426, t427, t428, t429, t430, t431, t432⟩, A4, H⟩ := H
 (try dsimp only at H)
 replace H := bsi H
 obtain ⟨⟨t434, t435, t436, t437, t438, t439, t440, t441⟩, A5, H⟩ := H
 (try dsimp only at H)
 replace H := bsi H
 obtain ⟨⟨t442, t445⟩, A6, H⟩ := H
 (try dsimp only at H)
 have HC7 := Aside0.mk H
 clear H
 go_enter Try.func47, Try.ntmps47
 go_upto_region 5 with (first | ((with_reducible refine gate_dst (N := 3) rfl ?_); refine box_event ?hg (N := 3) ?hd (cs := #[.int .i64 0, .int .i64 0, .int .i64 0, .int .i64 0, .bool false, .string (⟨#[]⟩ : ByteArray)]) (t := 62) ?hr ?_; (case hd => rfl); (case hg => rfl); (case hr => exact B9x17_); intro gb415 hg w8 hbox hb; have BK415 := Aside0.mk (hbox); have GW415 := Aside0.mk ((bs hg (below_size HB.out))); have GE415 := Aside0.mk ((bs hg (below_size HB.out))); replace HB := Aside0.mk (below_step (by repeat (first | (with_reducible first | exact HB.out | apply below_alloc | apply pw_below_drewN | apply below_drew1) | exact HB.out)) hb); clear hb hbox hg) | ((with_reducible refine gate_callee (f := 92) rfl ?_); refine goesL_ (some 12) rfl rfl Try.func92 B9x13_ rfl #[.slice A0 l0.length c0] rfl B9x2_ ?_; (with_reducible refine (spec_l01New.calls k _ _ l0 t416 t417 t418 w _ ?side1 ?side2 ?side3 A2.out).mono ?_); (case side1 => repeat (first | (with_reducible first | exact HB.out | apply below_alloc | apply pw_below_drewN | apply below_drew1 | refine below_set ?_ GE415.out) | exact HB.out)); (case side2 => exact HR0.out); (case side3 => exact HC0.out); rintro e w9 ⟨g419, rfl, hi, hb, hb2⟩; refine ⟨_, rfl, ?_⟩; replace HB := Aside0.mk (hb); have HI419 := Aside0.mk (hi); have NB419_415 := Aside0.mk (IsS159.ne_blk hi (bb BK415.out hb2) (by decide)); have NB415_419 := Aside0.mk (Ne.symm (IsS159.ne_blk hi (bb BK415.out hb2) (by decide))); replace BK415 := Aside0.mk (bb BK415.out hb2); (try clear hb); (try clear hb2); (try clear hi); (try clear hl)) | ((with_reducible refine gate_callee (f := 109) rfl ?_); refine goesL_ (some 14) rfl rfl Try.func109 B9x13_ rfl #[.pointer (some ⟨g419, 0, none⟩)] rfl B9x2_ ?_; (with_reducible refine (spec_l11Bits.calls k g419 t416 t417 t418 t420 t423 t424 w _ ?side1 ?side2 A3.out).mono ?_); (case side1 => exact B9x9_); (case side2 => exact B9x6_); rintro e w10 ⟨v421, rfl, ho0, hi, hb, hk⟩; refine ⟨_, rfl, ?_⟩; have HO422 := Aside0.mk (Kd.N_lower (Kd.N_mono (ok' := fun k_ => (w.heap.size ≤ k_) ∧ k_ ≠ gb415 ∧ k_ ≠ g419) ho0 (fun k_ hk_ => ⟨(Nat.le_trans (below_size B9x6_) hk_), (Kd.freshB (g := gb415) (o := .cells #[.int .i64 0, .int .i64 0, .int .i64 0, .int .i64 0, .bool false, .string (⟨#[]⟩ : ByteArray)] 62 (0, 0)) B9x7_ k_ hk_), (IsS159.fresh B9x9_ k_ hk_)⟩)) (below_size B9x6_)); replace BK415 := Aside0.mk (kb hk BK415.out NB415_419.out); replace HB := Aside0.mk (hb); replace HI419 := Aside0.mk (hi); (try clear hb); (try clear hb2); (try clear hk hi); (try clear hl); (try clear ho0)) | ((with_reducible refine gate_callee (f := 110) rfl ?_); refine goesL_ (some 16) rfl rfl Try.func110 B9x13_ rfl #[.pointer (some ⟨g419, 0, none⟩)] rfl B9x2_ ?_; (with_reducible refine (spec_l11Any.calls k g419 t416 t423 t424 t425 t426 t427 t428 t429 t430 t431 t432 w _ ?side1 ?side2 A4.out).mono ?_); (case side1 => exact B9x9_); (case side2 => exact B9x6_); rintro e w11 ⟨rfl, hi, hb, hk⟩; refine ⟨_, rfl, ?_⟩; replace BK415 := Aside0.mk (kb hk BK415.out NB415_419.out); replace HO422 := Aside0.mk (Kd.N_mono (Kd.N_keep (Kd.N_mono (ok := fun k_ => (((w.heap.size ≤ k_)) ∧ (k_ ≠ gb415 ∧ k_ ≠ g419))) B9x12_ (fun k_ hk_ => (⟨hk_, hk_.2.2⟩ : _ ∧ k_ ≠ g419))) hk (fun _ h => h.2)) (fun _ h => h.1)); replace HB := Aside0.mk (hb); replace HI419 := Aside0.mk (hi); (try clear hb); (try clear hb2); (try clear hk hi); (try clear hl)) | ((with_reducible refine gate_dst (N := 7) rfl ?_); refine box_event ?hg (N := 7) ?hd (cs := #[.int .i64 0, .int .i64 0, .int .i64 0, .int .i64 0, .bool false, .string (⟨#[]⟩ : ByteArray)]) (t := 62) ?hr ?_; (case hd => rfl); (case hg => rfl); (case hr => exact B9x17_); intro gb433 hg w12 hbox hb; replace HO422 := Aside0.mk (Kd.N_below (Kd.N_elderB B9x12_ gb433 (Nat.le_of_eq hg.symm)) hb); have BK433 := Aside0.mk (hbox); have GW433 := Aside0.mk ((bs hg (below_size HB.out))); have GE433 := Aside0.mk ((bs hg (below_size HB.out))); replace HB := Aside0.mk (below_step B9x6_ hb); have NB415_433 := Aside0.mk ((nl hg (blk_lt BK415.out))); have NB433_415 := Aside0.mk ((ng hg (blk_lt BK415.out))); replace BK415 := Aside0.mk (bb BK415.out hb); have NB419_433 := Aside0.mk ((nl hg (IsS159.lt HI419.out))); have NB433_419 := Aside0.mk ((ng hg (IsS159.lt HI419.out))); replace HI419 := Aside0.mk (IsS159.below B9x9_ hb); clear hb hbox hg; have hnb13 := NB433_415.out; have hnc13 := NB415_433.out; have hnb14 := NB433_419.out; have hnc14 := NB419_433.out; obtain ⟨hcz15_0, hcz15_1, hcz15_2, hcz15_3, hcz15_4, hcz15_5⟩ := cl6 BK433.out; obtain ⟨hfz15_0, hfz15_1, hfz15_2, hfz15_3, hfz15_4, hfz15_5⟩ := fr6 BK433.out) | ((with_reducible refine gate_store (t := 62) (p := 7) rfl ?_); refine store_event (t := 62) (p := 7) (v := ?vo_w16) (w1 := ((((((w12.setCell ⟨gb433, 0, none⟩ (.int .i64 t425)).setCell ⟨gb433, 1, none⟩ (.int .i64 t426)).setCell ⟨gb433, 2, none⟩ (.int .i64 t427)).setCell ⟨gb433, 3, none⟩ (.int .i64 t428)).setCell ⟨gb433, 4, none⟩ (.bool t429)).setCell ⟨gb433, 5, none⟩ (.string t430))) ?hg ?ho ?hn ?hr ?_; (case ho => rfl); (case hg => rfl); (case hn => rfl); (case hr => exact B9x17_); intro w16 hw; replace HO422 : Aside0 (Kd.N k82 82 w16 w.heap.size (fun k_ => (w.heap.size ≤ k_) ∧ k_ ≠ gb415 ∧ k_ ≠ g419 ∧ k_ ≠ gb433) v421 t420) := ⟨(by rw [hw]; exact (by (with_reducible repeat (first | apply Kd.N_alloc | apply Kd.N_drewN | apply Kd.N_drew)); exact Kd.N_mono (Kd.N_far (p := ⟨gb433, 5, none⟩) (Kd.N_far (p := ⟨gb433, 4, none⟩) (Kd.N_far (p := ⟨gb433, 3, none⟩) (Kd.N_far (p := ⟨gb433, 2, none⟩) (Kd.N_far (p := ⟨gb433, 1, none⟩) (Kd.N_far (p := ⟨gb433, 0, none⟩) (Kd.N_mono HO422.out (fun k_ hk => (⟨hk, hk.2⟩ : _ ∧ k_ ≠ gb433))) (fun _ hk => hk.2) (.int .i64 t425)) (fun _ hk => hk.2) (.int .i64 t426)) (fun _ hk => hk.2) (.int .i64 t427)) (fun _ hk => hk.2) (.int .i64 t428)) (fun _ hk => hk.2) (.bool t429)) (fun _ hk => hk.2) (.string t430)) (fun _ hk => ⟨hk.1.1.1, ⟨hk.1.1.2.1, ⟨hk.1.1.2.2, hk.1.2⟩⟩⟩)))⟩; replace BK415 : Aside0 (w16.heap[gb415]? = some (.cells #[.int .i64 0, .int .i64 0, .int .i64 0, .int .i64 0, .bool false, .string (⟨#[]⟩ : ByteArray)] 62 (0, 0))) := ⟨(by rw [hw]; exact B9x10_)⟩; replace BK433 : Aside0 (w16.heap[gb433]? = some (.cells #[.int .i64 t425, .int .i64 t426, .int .i64 t427, .int .i64 t428, .bool t429, .string t430] 62 (0, 0))) := ⟨(by rw [hw]; exact B9x11_)⟩; replace HB : Aside0 (Below w.heap.size w w16) := ⟨(by rw [hw]; exact B9x1_)⟩; replace HI419 : Aside0 (IsS159 w w16 g419 t416 t431 t432) := ⟨(by rw [hw]; exact B9x0_)⟩; clear hw) | ((with_reducible refine gate_callee (f := 91) rfl ?_); refine goesL_ (some 19) rfl rfl Try.func91 B9x13_ rfl #[.pointer (some ⟨g419, 0, none⟩)] rfl B9x2_ ?_; (with_reducible refine (spec_l11Dgram.calls k g419 t416 t431 t432 t434 t435 t436 t437 t438 t439 t440 t441 w _ ?side1 ?side2 A5.out).mono ?_); (case side1 => exact B9x0_); (case side2 => exact B9x1_); rintro e w17 ⟨rfl, hi, hb, hk⟩; refine ⟨_, rfl, ?_⟩; replace BK415 := Aside0.mk (kb hk BK415.out NB415_419.out); replace HO422 := Aside0.mk (Kd.N_mono (Kd.N_keep (Kd.N_mono (ok := fun k_ => (((w.heap.size ≤ k_)) ∧ (k_ ≠ gb415 ∧ (k_ ≠ g419 ∧ k_ ≠ gb433)))) B9x12_ (fun k_ hk_ => (⟨hk_, hk_.2.2.1⟩ : _ ∧ k_ ≠ g419))) hk (fun _ h => h.2)) (fun _ h => h.1)); replace BK433 := Aside0.mk (kb hk BK433.out NB433_419.out); replace HB := Aside0.mk (hb); replace HI419 := Aside0.mk (hi); (try clear hb); (try clear hb2); (try clear hk hi); (try clear hl)) | ((with_reducible refine gate_callee (f := 37) rfl ?_); refine goesL_ (some 20) rfl rfl Try.func37 B9x13_ rfl #[.agg #[.int .i64 t434, .int .i64 t435, .int .i64 t436, .int .i64 t437, .bool t438, .string t439], .int .i64 8] rfl B9x2_ ?_; (with_reducible refine (spec_CutDgram.calls k t434 t435 t436 t437 t438 t439 8 t442 t445 _ A6.out).mono ?_); rintro e w18 ⟨v443, rfl, ho0, hb⟩; refine ⟨_, rfl, ?_⟩; replace HO422 := Aside0.mk (Kd.N_elder' B9x12_ (Kd.R_base ho0) hb); have HO444 := Aside0.mk (Kd.R_lower (Kd.R_newB (Kd.R_newB (Kd.R_newM (M := fun k_ => (w.heap.size ≤ k_)) ho0 (below_size B9x1_) (fun k_ h_ => h_)) (g := gb415) (o := .cells #[.int .i64 0, .int .i64 0, .int .i64 0, .int .i64 0, .bool false, .string (⟨#[]⟩ : ByteArray)] 62 (0, 0)) B9x7_) (g := gb433) (o := .cells #[.int .i64 t425, .int .i64 t426, .int .i64 t427, .int .i64 t428, .bool t429, .string t430] 62 (0, 0)) B9x8_) (below_size B9x1_)); replace BK415 := Aside0.mk (bb BK415.out hb); replace BK433 := Aside0.mk (bb BK433.out hb); replace HB := Aside0.mk (below_step B9x1_ hb); replace HI419 := Aside0.mk (IsS159.below B9x0_ hb); (try clear hb); (try clear hb2); (try clear hl); (try clear ho0)))
 (try simp only [Act.put, List.setIfInBounds_toArray, List.set_cons_zero, List.set_cons_succ])
 go_cut [27] (fun v27 wc => ∃ (kq : Nat) (x27_6 : Bool) (x420001_6 : Int) (x420002_6 : Int), v27 = .bool x27_6 ∧ Aside0 (spec_DrawJoinBits.j0 kq t420 t442 x27_6 t416 x420001_6 x420002_6 t425 t426 t427 t428 t429 t430 = some (r1, r2, r3, r4, r5, r6, r7, r8)) ∧ Aside0 (kq ≤ k) ∧ Aside0 (Kd.N k82 82 wc w.heap.size (fun k_ => (w.heap.size ≤ k_) ∧ some k_ ≠ (v443 : Value).ownBlock ∧ k_ ≠ gb415 ∧ k_ ≠ gb433 ∧ k_ ≠ g419) v421 t420) ∧ Aside0 (Kd.R k62 62 wc w.heap.size (fun k_ => (w.heap.size ≤ k_) ∧ k_ ≠ gb415 ∧ k_ ≠ gb433) v443 t442) ∧ Aside0 (wc.heap[gb415]? = some (.cells #[.int .i64 0, .int .i64 0, .int .i64 0, .int .i64 0, .bool false, .string (⟨#[]⟩ : ByteArray)] 62 (0, 0))) ∧ Aside0 (wc.heap[gb433]? = some (.cells #[.int .i64 t425, .int .i64 t426, .int .i64 t427, .int .i64 t428, .bool t429, .string t430] 62 (0, 0))) ∧ Aside0 (IsS159 w wc g419 t416 x420001_6 x420002_6) ∧ Aside0 (Below w.heap.size w wc))
 case first =>
  have H := HC7.out
  clear HC7
  by_cases c19 : t445 = true
  ·subst c19
   rw [if_pos rfl] at H
   replace H := bsi H
   obtain ⟨⟨t446, t447, t448⟩, A20, H⟩ := H
   (try dsimp only at H)
   have H' := Aside0.mk H
   clear H
   go_wp2_with (first | (go_at_call 111; (with_reducible refine (spec_l01Once.calls g419 t416 t440 t441 2 t446 t447 t448 w _ ?side1 ?side2 A20.out).mono ?_); (case side1 => exact B9x0_); (case side2 => exact B9x1_); rintro e w21 ⟨rfl, hi, hb, hk⟩; replace BK415 := Aside0.mk (kb hk BK415.out NB415_419.out); replace HO422 := Aside0.mk (Kd.N_mono (Kd.N_keep (Kd.N_mono (ok := fun k_ => ((((w.heap.size ≤ k_)) ∧ (k_ ≠ gb415 ∧ (k_ ≠ g419 ∧ k_ ≠ gb433))) ∧ some k_ ≠ (v443 : Value).ownBlock)) B9x12_ (fun k_ hk_ => (⟨hk_, hk_.1.2.2.1⟩ : _ ∧ k_ ≠ g419))) hk (fun _ h => h.2)) (fun _ h => h.1)); replace BK433 := Aside0.mk (kb hk BK433.out NB433_419.out); replace HO444 := Aside0.mk (Kd.R_mono (Kd.R_keep (IsS159.apart (show IsS159 w _ g419 t416 t440 t441 from B9x0_) (by (with_reducible repeat (first | apply Kd.R_alloc | apply Kd.R_drewN | apply Kd.R_drew)); exact HO444.out) (by decide)) hk (fun _ h => h.2)) (fun _ h => h.1)); replace HB := Aside0.mk (hb); replace HI419 := Aside0.mk (hi); (try clear hb); (try clear hb2); (try clear hk hi); (try clear hl)))
   go_meet
   case rel => exact ⟨_, (t446), (t447), (t448), (be_), H', ⟨(by first | omega | exact Nat.le_refl _)⟩, ⟨B9x18_⟩, ⟨B9x21_⟩, ⟨B9x7_⟩, ⟨B9x8_⟩, ⟨B9x0_⟩, ⟨B9x1_⟩⟩
  ·replace c19 := Bool.eq_false_iff.mpr c19
   subst c19
   rw [if_neg (show ¬ (false = true) by decide)] at H
   have H' := Aside0.mk H
   clear H
   go_wp2
   go_meet
   case rel => exact ⟨_, (false), (t440), (t441), (be_), H', ⟨(by first | omega | exact Nat.le_refl _)⟩, ⟨B9x18_⟩, ⟨B9x21_⟩, ⟨B9x7_⟩, ⟨B9x8_⟩, ⟨B9x0_⟩, ⟨B9x1_⟩⟩
 case rest =>
  clear HC7
  try clear hcz15_0
  try clear hcz15_1
  try clear hcz15_2
  try clear hcz15_3
  try clear hcz15_4
  try clear hcz15_5
  try clear hfz15_0
  try clear hfz15_1
  try clear hfz15_2
  try clear hfz15_3
  try clear hfz15_4
  try clear hfz15_5
  obtain ⟨kq, x27_6, x420001_6, x420002_6, rfl, HA, HJ6, HO_6, HO_8, BK415, BK433, HI419, HB⟩ := hcut
  cases kq with
  | zero => exact absurd HA.out (by simp [spec_DrawJoinBits.j0])
  | succ kj6 =>
   have H := HA.out
   clear HA
   simp only [spec_DrawJoinBits.j0] at H
   have HC22 := Aside0.mk H
   clear H
   go_upto_if 27 with (fail)
   go_cut [] (fun wc => ∃ (kq : Nat) (x420001_21 : Int) (x420002_21 : Int) (x434000_21 : Int) (x434001_21 : Int) (x434002_21 : Int) (x434003_21 : Int) (x434004_21 : Bool) (x434005_21 : ByteArray), Aside0 (spec_DrawJoinBits.j1 kq t420 t416 x420001_21 x420002_21 x434000_21 x434001_21 x434002_21 x434003_21 x434004_21 x434005_21 = some (r1, r2, r3, r4, r5, r6, r7, r8)) ∧ Aside0 (kq ≤ kj6) ∧ Aside0 (Kd.N k82 82 wc w.heap.size (fun k_ => (w.heap.size ≤ k_) ∧ k_ ≠ gb415 ∧ k_ ≠ gb433 ∧ k_ ≠ g419) v421 t420) ∧ Aside0 (wc.heap[gb415]? = some (.cells #[.int .i64 0, .int .i64 0, .int .i64 0, .int .i64 0, .bool false, .string (⟨#[]⟩ : ByteArray)] 62 (0, 0))) ∧ Aside0 (wc.heap[gb433]? = some (.cells #[.int .i64 x434000_21, .int .i64 x434001_21, .int .i64 x434002_21, .int .i64 x434003_21, .bool x434004_21, .string x434005_21] 62 (0, 0))) ∧ Aside0 (IsS159 w wc g419 t416 x420001_21 x420002_21) ∧ Aside0 (Below w.heap.size w wc))
   case first =>
    have H := HC22.out
    clear HC22
    by_cases c23 : x27_6 = true
    ·subst c23
     rw [if_pos rfl] at H
     replace H := bsi H
     obtain ⟨⟨t449, t450, t451⟩, A24, H⟩ := H
     (try dsimp only at H)
     by_cases c25 : 0 ≤ t449
     rotate_left
     ·rw [if_neg c25] at H
      exact absurd H (by simp)
     rw [if_pos c25] at H
     have c25b0 : decide (0 ≤ t449) = true := decide_eq_true c25
     clear c25
     (first | rw [c25b0] | (simp only [i64_w, i32_w]; rw [c25b0]) | skip)
     by_cases c26 : t449 < (t442.length : Int)
     rotate_left
     ·rw [if_neg c26] at H
      exact absurd H (by simp)
     rw [if_pos c26] at H
     have c26b0 : decide (t449 < (t442.length : Int)) = true := decide_eq_true c26
     clear c26
     have H' := Aside0.mk H
     clear H
     obtain ⟨Ao27, co27, eo27⟩ := Kd.R_slice HO_8.out
     subst eo27
     go_wp2_with (first | ((with_reducible refine gate_callee (f := 94) rfl ?_); refine goesL_ (some 32) rfl rfl Try.func94 B9x13_ rfl #[.pointer (some ⟨g419, 0, none⟩), .int .i64 (t442.length : Int)] rfl B9x2_ ?_; (with_reducible refine (spec_l01Below.calls g419 t416 x420001_6 x420002_6 (t442.length : Int) t449 t450 t451 w _ ?side1 ?side2 A24.out).mono ?_); (case side1 => exact B9x0_); (case side2 => exact B9x1_); rintro e w28 ⟨rfl, hi, hb, hk⟩; refine ⟨_, rfl, ?_⟩; replace HO_6 := Aside0.mk (Kd.N_mono (Kd.N_keep (Kd.N_mono (ok := fun k_ => (((w.heap.size ≤ k_)) ∧ (some k_ ≠ (.slice Ao27 t442.length co27 : Value).ownBlock ∧ (k_ ≠ gb415 ∧ (k_ ≠ gb433 ∧ k_ ≠ g419))))) B9x5_ (fun k_ hk_ => (⟨hk_, hk_.2.2.2.2⟩ : _ ∧ k_ ≠ g419))) hk (fun _ h => h.2)) (fun _ h => h.1)); replace HO_8 := Aside0.mk (Kd.R_mono (Kd.R_keep (IsS159.apart (show IsS159 w _ g419 t416 x420001_6 x420002_6 from B9x0_) (by (with_reducible repeat (first | apply Kd.R_alloc | apply Kd.R_drewN | apply Kd.R_drew)); exact HO_8.out) (by decide)) hk (fun _ h => h.2)) (fun _ h => h.1)); replace BK415 := Aside0.mk (kb hk BK415.out NB415_419.out); replace BK433 := Aside0.mk (kb hk BK433.out NB433_419.out); replace HB := Aside0.mk (hb); replace HI419 := Aside0.mk (hi); (try clear hb); (try clear hb2); (try clear hk hi); (try clear hl); have p452 : 0 ≤ (t449 : Int) := of_decide_eq_true B9x19_; have q452 : t449 < (t442.length : Int) := of_decide_eq_true B9x19_; obtain ⟨ad452, e452, hx452_0, hx452_1, hx452_2, hx452_3, hx452_4, hx452_5⟩ := at_T62 (Kd.R_reads' HO_8.out).2.2 t449 p452 q452; cases e452; replace p452 := eq_true p452; replace q452 := eq_true q452; have hnb29 := NB433_415.out; have hnc29 := NB415_433.out; have hnb30 := NB433_419.out; have hnc30 := NB419_433.out; obtain ⟨hcz31_0, hcz31_1, hcz31_2, hcz31_3, hcz31_4, hcz31_5⟩ := cl6 BK433.out; obtain ⟨hfz31_0, hfz31_1, hfz31_2, hfz31_3, hfz31_4, hfz31_5⟩ := fr6 BK433.out) | ((with_reducible refine gate_store (t := 62) (p := 7) rfl ?_); refine store_event (t := 62) (p := 7) (v := ?vo_w32) (w1 := ((((((w28.setCell ⟨gb433, 0, none⟩ (.int .i64 ((rd_T62 t442 t449).f0))).setCell ⟨gb433, 1, none⟩ (.int .i64 ((rd_T62 t442 t449).f1))).setCell ⟨gb433, 2, none⟩ (.int .i64 ((rd_T62 t442 t449).f2))).setCell ⟨gb433, 3, none⟩ (.int .i64 ((rd_T62 t442 t449).f3))).setCell ⟨gb433, 4, none⟩ (.bool ((rd_T62 t442 t449).f4))).setCell ⟨gb433, 5, none⟩ (.string ((rd_T62 t442 t449).f5)))) ?hg ?ho ?hn ?hr ?_; (case ho => rfl); (case hg => rfl); (case hn => rfl); (case hr => exact B9x17_); intro w32 hw; replace HO_6 : Aside0 (Kd.N k82 82 w32 w.heap.size (fun k_ => (w.heap.size ≤ k_) ∧ some k_ ≠ (.slice (some ad452) t442.length co27 : Value).ownBlock ∧ k_ ≠ gb415 ∧ k_ ≠ gb433 ∧ k_ ≠ g419) v421 t420) := ⟨(by rw [hw]; exact (by (with_reducible repeat (first | apply Kd.N_alloc | apply Kd.N_drewN | apply Kd.N_drew)); exact Kd.N_mono (Kd.N_far (p := ⟨gb433, 5, none⟩) (Kd.N_far (p := ⟨gb433, 4, none⟩) (Kd.N_far (p := ⟨gb433, 3, none⟩) (Kd.N_far (p := ⟨gb433, 2, none⟩) (Kd.N_far (p := ⟨gb433, 1, none⟩) (Kd.N_far (p := ⟨gb433, 0, none⟩) (Kd.N_mono HO_6.out (fun k_ hk => (⟨hk, hk.2.2.2.1⟩ : _ ∧ k_ ≠ gb433))) (fun _ hk => hk.2) (.int .i64 ((rd_T62 t442 t449).f0))) (fun _ hk => hk.2) (.int .i64 ((rd_T62 t442 t449).f1))) (fun _ hk => hk.2) (.int .i64 ((rd_T62 t442 t449).f2))) (fun _ hk => hk.2) (.int .i64 ((rd_T62 t442 t449).f3))) (fun _ hk => hk.2) (.bool ((rd_T62 t442 t449).f4))) (fun _ hk => hk.2) (.string ((rd_T62 t442 t449).f5))) (fun _ hk => ⟨hk.1.1, ⟨hk.1.2.1, ⟨hk.1.2.2.1, ⟨hk.1.2.2.2.1, hk.1.2.2.2.2⟩⟩⟩⟩)))⟩; replace HO_8 : Aside0 (Kd.R k62 62 w32 w.heap.size (fun k_ => (w.heap.size ≤ k_) ∧ k_ ≠ gb415 ∧ k_ ≠ gb433) (.slice (some ad452) t442.length co27) t442) := ⟨(by rw [hw]; exact (by (with_reducible repeat (first | apply Kd.R_alloc | apply Kd.R_drewN | apply Kd.R_drew)); exact Kd.R_mono (Kd.R_far (p := ⟨gb433, 5, none⟩) (Kd.R_far (p := ⟨gb433, 4, none⟩) (Kd.R_far (p := ⟨gb433, 3, none⟩) (Kd.R_far (p := ⟨gb433, 2, none⟩) (Kd.R_far (p := ⟨gb433, 1, none⟩) (Kd.R_far (p := ⟨gb433, 0, none⟩) (Kd.R_mono HO_8.out (fun k_ hk => (⟨hk, hk.2.2⟩ : _ ∧ k_ ≠ gb433))) (fun _ hk => hk.2) (.int .i64 ((rd_T62 t442 t449).f0))) (fun _ hk => hk.2) (.int .i64 ((rd_T62 t442 t449).f1))) (fun _ hk => hk.2) (.int .i64 ((rd_T62 t442 t449).f2))) (fun _ hk => hk.2) (.int .i64 ((rd_T62 t442 t449).f3))) (fun _ hk => hk.2) (.bool ((rd_T62 t442 t449).f4))) (fun _ hk => hk.2) (.string ((rd_T62 t442 t449).f5))) (fun _ hk => ⟨hk.1.1, ⟨hk.1.2.1, hk.1.2.2⟩⟩)))⟩; replace BK415 : Aside0 (w32.heap[gb415]? = some (.cells #[.int .i64 0, .int .i64 0, .int .i64 0, .int .i64 0, .bool false, .string (⟨#[]⟩ : ByteArray)] 62 (0, 0))) := ⟨(by rw [hw]; exact B9x10_)⟩; replace BK433 : Aside0 (w32.heap[gb433]? = some (.cells #[.int .i64 ((rd_T62 t442 t449).f0), .int .i64 ((rd_T62 t442 t449).f1), .int .i64 ((rd_T62 t442 t449).f2), .int .i64 ((rd_T62 t442 t449).f3), .bool ((rd_T62 t442 t449).f4), .string ((rd_T62 t442 t449).f5)] 62 (0, 0))) := ⟨(by rw [hw]; exact B9x11_)⟩; replace HB : Aside0 (Below w.heap.size w w32) := ⟨(by rw [hw]; exact B9x1_)⟩; replace HI419 : Aside0 (IsS159 w w32 g419 t416 t450 t451) := ⟨(by rw [hw]; exact B9x0_)⟩; clear hw))
     go_meet
     case rel => exact ⟨_, (t450), (t451), ((rd_T62 t442 t449).f0), ((rd_T62 t442 t449).f1), ((rd_T62 t442 t449).f2), ((rd_T62 t442 t449).f3), ((rd_T62 t442 t449).f4), ((rd_T62 t442 t449).f5), H', ⟨B9x23_⟩, ⟨B9x20_⟩, ⟨B9x7_⟩, ⟨B9x8_⟩, ⟨B9x0_⟩, ⟨B9x1_⟩⟩
    ·replace c23 := Bool.eq_false_iff.mpr c23
     subst c23
     rw [if_neg (show ¬ (false = true) by decide)] at H
     have H' := Aside0.mk H
     clear H
     go_wp2
     go_meet
     case rel => exact ⟨_, (x420001_6), (x420002_6), (t425), (t426), (t427), (t428), (t429), (t430), H', ⟨B9x23_⟩, ⟨B9x20_⟩, ⟨B9x7_⟩, ⟨B9x8_⟩, ⟨B9x0_⟩, ⟨B9x1_⟩⟩
   case rest =>
    clear HC22
    try clear hcz15_0
    try clear hcz15_1
    try clear hcz15_2
    try clear hcz15_3
    try clear hcz15_4
    try clear hcz15_5
    try clear hfz15_0
    try clear hfz15_1
    try clear hfz15_2
    try clear hfz15_3
    try clear hfz15_4
    try clear hfz15_5
    obtain ⟨kq, x420001_21, x420002_21, x434000_21, x434001_21, x434002_21, x434003_21, x434004_21, x434005_21, HA, HJ21, HO_6, BK415, BK433, HI419, HB⟩ := hcut
    cases kq with
    | zero => exact absurd HA.out (by simp [spec_DrawJoinBits.j1])
    | succ kj21 =>
     have H := HA.out
     clear HA
     simp only [spec_DrawJoinBits.j1] at H
     have HC33 := Aside0.mk H
     clear H
     go_upto_region 7 with (fail)
     go_cut [41] (fun v41 wc => ∃ (kq : Nat) (x41_32 : Bool) (x420001_32 : Int) (x420002_32 : Int), v41 = .bool x41_32 ∧ Aside0 (spec_DrawJoinBits.j2 kq t420 x41_32 t416 x420001_32 x420002_32 x434000_21 x434001_21 x434002_21 x434003_21 x434004_21 x434005_21 = some (r1, r2, r3, r4, r5, r6, r7, r8)) ∧ Aside0 (kq ≤ kj21) ∧ Aside0 (Kd.N k82 82 wc w.heap.size (fun k_ => (w.heap.size ≤ k_) ∧ k_ ≠ gb415 ∧ k_ ≠ gb433 ∧ k_ ≠ g419) v421 t420) ∧ Aside0 (wc.heap[gb415]? = some (.cells #[.int .i64 0, .int .i64 0, .int .i64 0, .int .i64 0, .bool false, .string (⟨#[]⟩ : ByteArray)] 62 (0, 0))) ∧ Aside0 (wc.heap[gb433]? = some (.cells #[.int .i64 x434000_21, .int .i64 x434001_21, .int .i64 x434002_21, .int .i64 x434003_21, .bool x434004_21, .string x434005_21] 62 (0, 0))) ∧ Aside0 (IsS159 w wc g419 t416 x420001_32 x420002_32) ∧ Aside0 (Below w.heap.size w wc))
     case first =>
      have H := HC33.out
      clear HC33
      by_cases c34 : (t420.length : Int) > 0
      ·rw [if_pos c34] at H
       have c34b0 : decide (0 < (t420.length : Int)) = true := decide_eq_true c34
       have c34b1 : decide (0 < t420.length) = true := decide_eq_true (by omega)
       clear c34
       (first | rw [c34b0] | (simp only [i64_w, i32_w]; rw [c34b0]) | skip)
       replace H := bsi H
       obtain ⟨⟨t453, t454, t455⟩, A35, H⟩ := H
       (try dsimp only at H)
       have H' := Aside0.mk H
       clear H
       obtain ⟨Ao36, co36, eo36⟩ := Kd.N_slice HO_6.out
       subst eo36
       go_wp2_with (first | (go_at_call 111; (with_reducible refine (spec_l01Once.calls g419 t416 x420001_21 x420002_21 3 t453 t454 t455 w _ ?side1 ?side2 A35.out).mono ?_); (case side1 => exact B9x0_); (case side2 => exact B9x1_); rintro e w37 ⟨rfl, hi, hb, hk⟩; replace HO_6 := Aside0.mk (Kd.N_mono (Kd.N_keep (Kd.N_mono (ok := fun k_ => (((w.heap.size ≤ k_)) ∧ (k_ ≠ gb415 ∧ (k_ ≠ gb433 ∧ k_ ≠ g419)))) B9x5_ (fun k_ hk_ => (⟨hk_, hk_.2.2.2⟩ : _ ∧ k_ ≠ g419))) hk (fun _ h => h.2)) (fun _ h => h.1)); replace BK415 := Aside0.mk (kb hk BK415.out NB415_419.out); replace BK433 := Aside0.mk (kb hk BK433.out NB433_419.out); replace HB := Aside0.mk (hb); replace HI419 := Aside0.mk (hi); (try clear hb); (try clear hb2); (try clear hk hi); (try clear hl)))
       go_meet
       case rel => exact ⟨_, (t453), (t454), (t455), (be_), H', ⟨B9x22_⟩, ⟨B9x5_⟩, ⟨B9x7_⟩, ⟨B9x8_⟩, ⟨B9x0_⟩, ⟨B9x1_⟩⟩
      ·rw [if_neg c34] at H
       have c34b0 : decide (0 < (t420.length : Int)) = false := decide_eq_false c34
       have c34b1 : decide (0 < t420.length) = false := decide_eq_false (by omega)
       clear c34
       (first | rw [c34b0] | (simp only [i64_w, i32_w]; rw [c34b0]) | skip)
       have H' := Aside0.mk H
       clear H
       obtain ⟨Ao38, co38, eo38⟩ := Kd.N_slice HO_6.out
       subst eo38
       go_wp2
       go_meet
       case rel => exact ⟨_, (false), (x420001_21), (x420002_21), (be_), H', ⟨B9x22_⟩, ⟨B9x5_⟩, ⟨B9x7_⟩, ⟨B9x8_⟩, ⟨B9x0_⟩, ⟨B9x1_⟩⟩
     case rest =>
      clear HC33
      try clear hcz15_0
      try clear hcz15_1
      try clear hcz15_2
      try clear hcz15_3
      try clear hcz15_4
      try clear hcz15_5
      try clear hfz15_0
      try clear hfz15_1
      try clear hfz15_2
      try clear hfz15_3
      try clear hfz15_4
      try clear hfz15_5
      obtain ⟨kq, x41_32, x420001_32, x420002_32, rfl, HA, HJ32, HO_6, BK415, BK433, HI419, HB⟩ := hcut
      cases kq with
      | zero => exact absurd HA.out (by simp [spec_DrawJoinBits.j2])
      | succ kj32 =>
       have H := HA.out
       clear HA
       simp only [spec_DrawJoinBits.j2] at H
       by_cases c39 : x41_32 = true
       ·subst c39
        rw [if_pos rfl] at H
        replace H := bsi H
        obtain ⟨⟨t456, t457, t458⟩, A40, H⟩ := H
        (try dsimp only at H)
        by_cases c41 : 0 ≤ t456
        rotate_left
        ·rw [if_neg c41] at H
         exact absurd H (by simp)
        rw [if_pos c41] at H
        have c41b0 : decide (0 ≤ t456) = true := decide_eq_true c41
        clear c41
        by_cases c42 : t456 < (t420.length : Int)
        rotate_left
        ·rw [if_neg c42] at H
         exact absurd H (by simp)
        rw [if_pos c42] at H
        have c42b0 : decide (t456 < (t420.length : Int)) = true := decide_eq_true c42
        clear c42
        replace H := bsi H
        obtain ⟨⟨t461, t462, t463⟩, A43, H⟩ := H
        (try dsimp only at H)
        replace H := bsi H
        obtain ⟨⟨t464, t465, t466⟩, A44, H⟩ := H
        (try dsimp only at H)
        replace H := bsi H
        obtain ⟨⟨t467, t468, t469⟩, A45, H⟩ := H
        (try dsimp only at H)
        simp only [Option.some.injEq, Prod.mk.injEq] at H
        obtain ⟨rfl, rfl, rfl, rfl, rfl, rfl, rfl, rfl⟩ := H
        obtain ⟨Ao46, co46, eo46⟩ := Kd.N_slice HO_6.out
        subst eo46
        try go_wp2_with (first | ((with_reducible refine gate_callee (f := 94) rfl ?_); refine goesL_ (some 46) rfl rfl Try.func94 B9x13_ rfl #[.pointer (some ⟨g419, 0, none⟩), .int .i64 (t420.length : Int)] rfl B9x2_ ?_; (with_reducible refine (spec_l01Below.calls g419 t416 x420001_32 x420002_32 (t420.length : Int) t456 t457 t458 w _ ?side1 ?side2 A40.out).mono ?_); (case side1 => exact B9x0_); (case side2 => exact B9x1_); rintro e w47 ⟨rfl, hi, hb, hk⟩; refine ⟨_, rfl, ?_⟩; replace HO_6 := Aside0.mk (Kd.N_mono (Kd.N_keep (Kd.N_mono (ok := fun k_ => (((w.heap.size ≤ k_)) ∧ (k_ ≠ gb415 ∧ (k_ ≠ gb433 ∧ k_ ≠ g419)))) B9x5_ (fun k_ hk_ => (⟨hk_, hk_.2.2.2⟩ : _ ∧ k_ ≠ g419))) hk (fun _ h => h.2)) (fun _ h => h.1)); replace BK415 := Aside0.mk (kb hk BK415.out NB415_419.out); replace BK433 := Aside0.mk (kb hk BK433.out NB433_419.out); replace HB := Aside0.mk (hb); replace HI419 := Aside0.mk (hi); (try clear hb); (try clear hb2); (try clear hk hi); (try clear hl); have p459 : 0 ≤ (t456 : Int) := of_decide_eq_true B9x19_; have q459 : t456 < (t420.length : Int) := of_decide_eq_true B9x19_; obtain ⟨ad459, A459_2, c459_2, A459_3, c459_3, e459, hx459_0, hx459_1, hx459_2, hx459_3, hx459_4, hx459_5, hl459_2, hi459_2, hl459_3, hi459_3⟩ := at_T82 (Kd.N_reads' HO_6.out).2.2 t456 p459 q459; cases e459; obtain ⟨ce459, hce459, hMe459, hcc459⟩ := Kd.N_get HO_6.out z82 t456 p459 (by first | exact q459 | exact of_decide_eq_true B9x19_ | (have e_ := (Kd.N_reads' HO_6.out).1; omega)); obtain ⟨ua459_2, uc459_2, ua459_3, uc459_3, rfl, ul459_2, ge459_2, ul459_3, ge459_3⟩ := k82_openF hMe459; have hv459_2 := hcc459 2 _ rfl; rw [add_field _ _ 2 (by omega)] at hv459_2; replace hv459_2 := Option.some.inj (hv459_2.symm.trans hx459_2); injection hv459_2 with hva_ hvn_ hvc_; rw [hva_] at ge459_2; rw [hvc_] at ul459_2; have HL459_2 := Aside0.mk (show Kd.V Kd.string 9 _ w.heap.size _ _ ((rd_T82 t420 t456).f2) from Kd.V_mk ul459_2 ge459_2); clear hva_ hvn_ hvc_ ge459_2 ul459_2; have hv459_3 := hcc459 3 _ rfl; rw [add_field _ _ 3 (by omega)] at hv459_3; replace hv459_3 := Option.some.inj (hv459_3.symm.trans hx459_3); injection hv459_3 with hva_ hvn_ hvc_; rw [hva_] at ge459_3; rw [hvc_] at ul459_3; have HL459_3 := Aside0.mk (show Kd.V (Kd.int .i64) 3 _ w.heap.size _ _ ((rd_T82 t420 t456).f3) from Kd.V_mk ul459_3 ge459_3); clear hva_ hvn_ hvc_ ge459_3 ul459_3; clear hcc459 hce459; have HR459_2 := Aside0.mk hi459_2; have HC459_2 := Aside0.mk hl459_2; clear hi459_2 hl459_2; have HR459_3 := Aside0.mk hi459_3; have HC459_3 := Aside0.mk hl459_3; clear hi459_3 hl459_3; replace p459 := eq_true p459; replace q459 := eq_true q459) | ((with_reducible refine gate_dst (N := 10) rfl ?_); refine box_event ?hg (N := 10) ?hd (cs := #[.int .i64 0, .int .i64 0, .slice none 0 0, .slice none 0 0, .int .i64 0, .int .i64 0]) (t := 82) ?hr ?_; (case hd => rfl); (case hg => rfl); (case hr => exact B9x17_); intro gb460 hg w48 hbox hb; replace HO_6 := Aside0.mk (Kd.N_below (Kd.N_elderB B9x5_ gb460 (Nat.le_of_eq hg.symm)) hb); replace HL459_2 := Aside0.mk (Kd.V_below (Kd.V_elderB B9x14_ gb460 (Nat.le_of_eq hg.symm)) hb); replace HL459_3 := Aside0.mk (Kd.V_below (Kd.V_elderB B9x15_ gb460 (Nat.le_of_eq hg.symm)) hb); replace HR459_2 := Aside0.mk (Kd.C_below (by repeat (first | (with_reducible exact HR459_2.out) | (with_reducible refine Kd.C_alloc ?_ _) | (with_reducible refine Kd.C_drewN ?_ _) | (with_reducible refine Kd.C_drew ?_) | exact HR459_2.out)) hb); replace HR459_3 := Aside0.mk (Kd.C_below (by repeat (first | (with_reducible exact HR459_3.out) | (with_reducible refine Kd.C_alloc ?_ _) | (with_reducible refine Kd.C_drewN ?_ _) | (with_reducible refine Kd.C_drew ?_) | exact HR459_3.out)) hb); have BK460 := Aside0.mk (hbox); have GW460 := Aside0.mk ((bs hg (below_size HB.out))); have GE460 := Aside0.mk ((bs hg (below_size HB.out))); replace HB := Aside0.mk (below_step B9x1_ hb); have NB415_460 := Aside0.mk ((nl hg (blk_lt BK415.out))); have NB460_415 := Aside0.mk ((ng hg (blk_lt BK415.out))); replace BK415 := Aside0.mk (bb BK415.out hb); have NB433_460 := Aside0.mk ((nl hg (blk_lt BK433.out))); have NB460_433 := Aside0.mk ((ng hg (blk_lt BK433.out))); replace BK433 := Aside0.mk (bb BK433.out hb); have NB419_460 := Aside0.mk ((nl hg (IsS159.lt HI419.out))); have NB460_419 := Aside0.mk ((ng hg (IsS159.lt HI419.out))); replace HI419 := Aside0.mk (IsS159.below B9x0_ hb); clear hb hbox hg; have hnb49 := NB460_415.out; have hnc49 := NB415_460.out; have hnb50 := NB460_433.out; have hnc50 := NB433_460.out; have hnb51 := NB460_419.out; have hnc51 := NB419_460.out; obtain ⟨hcz52_0, hcz52_1, hcz52_2, hcz52_3, hcz52_4, hcz52_5⟩ := cl6 BK460.out; obtain ⟨hfz52_0, hfz52_1, hfz52_2, hfz52_3, hfz52_4, hfz52_5⟩ := fr6 BK460.out) | ((with_reducible refine gate_store (t := 82) (p := 10) rfl ?_); refine store_event (t := 82) (p := 10) (v := ?vo_w53) (w1 := ((((((w48.setCell ⟨gb460, 0, none⟩ (.int .i64 ((rd_T82 t420 t456).f0))).setCell ⟨gb460, 1, none⟩ (.int .i64 ((rd_T82 t420 t456).f1))).setCell ⟨gb460, 2, none⟩ (.slice A459_2 ((rd_T82 t420 t456).f2).length c459_2)).setCell ⟨gb460, 3, none⟩ (.slice A459_3 ((rd_T82 t420 t456).f3).length c459_3)).setCell ⟨gb460, 4, none⟩ (.int .i64 ((rd_T82 t420 t456).f4))).setCell ⟨gb460, 5, none⟩ (.int .i64 ((rd_T82 t420 t456).f5)))) ?hg ?ho ?hn ?hr ?_; (case ho => rfl); (case hg => rfl); (case hn => rfl); (case hr => exact B9x17_); intro w53 hw; replace HO_6 : Aside0 (Kd.N k82 82 w53 w.heap.size (fun k_ => (w.heap.size ≤ k_) ∧ k_ ≠ gb415 ∧ k_ ≠ gb433 ∧ k_ ≠ g419 ∧ k_ ≠ gb460) (.slice (some ad459) t420.length co46) t420) := ⟨(by rw [hw]; exact (by (with_reducible repeat (first | apply Kd.N_alloc | apply Kd.N_drewN | apply Kd.N_drew)); exact Kd.N_mono (Kd.N_far (p := ⟨gb460, 5, none⟩) (Kd.N_far (p := ⟨gb460, 4, none⟩) (Kd.N_far (p := ⟨gb460, 3, none⟩) (Kd.N_far (p := ⟨gb460, 2, none⟩) (Kd.N_far (p := ⟨gb460, 1, none⟩) (Kd.N_far (p := ⟨gb460, 0, none⟩) (Kd.N_mono HO_6.out (fun k_ hk => (⟨hk, hk.2⟩ : _ ∧ k_ ≠ gb460))) (fun _ hk => hk.2) (.int .i64 ((rd_T82 t420 t456).f0))) (fun _ hk => hk.2) (.int .i64 ((rd_T82 t420 t456).f1))) (fun _ hk => hk.2) (.slice A459_2 ((rd_T82 t420 t456).f2).length c459_2)) (fun _ hk => hk.2) (.slice A459_3 ((rd_T82 t420 t456).f3).length c459_3)) (fun _ hk => hk.2) (.int .i64 ((rd_T82 t420 t456).f4))) (fun _ hk => hk.2) (.int .i64 ((rd_T82 t420 t456).f5))) (fun _ hk => ⟨hk.1.1.1, ⟨hk.1.1.2.1, ⟨hk.1.1.2.2.1, ⟨hk.1.1.2.2.2, hk.1.2⟩⟩⟩⟩)))⟩; replace HL459_2 : Aside0 (Kd.V Kd.string 9 w53 w.heap.size (fun k_ => (w.heap.size ≤ k_) ∧ some k_ ≠ (.slice (some ad459) t420.length co46 : Value).ownBlock ∧ k_ ≠ gb415 ∧ k_ ≠ gb433 ∧ k_ ≠ g419 ∧ k_ ≠ gb460) (.slice A459_2 ((rd_T82 t420 t456).f2).length c459_2) ((rd_T82 t420 t456).f2)) := ⟨(by rw [hw]; exact (by (with_reducible repeat (first | apply Kd.V_alloc | apply Kd.V_drewN | apply Kd.V_drew)); exact Kd.V_mono (Kd.V_far (p := ⟨gb460, 5, none⟩) (Kd.V_far (p := ⟨gb460, 4, none⟩) (Kd.V_far (p := ⟨gb460, 3, none⟩) (Kd.V_far (p := ⟨gb460, 2, none⟩) (Kd.V_far (p := ⟨gb460, 1, none⟩) (Kd.V_far (p := ⟨gb460, 0, none⟩) (Kd.V_mono HL459_2.out (fun k_ hk => (⟨hk, hk.2⟩ : _ ∧ k_ ≠ gb460))) (fun _ hk => hk.2) (.int .i64 ((rd_T82 t420 t456).f0))) (fun _ hk => hk.2) (.int .i64 ((rd_T82 t420 t456).f1))) (fun _ hk => hk.2) (.slice A459_2 ((rd_T82 t420 t456).f2).length c459_2)) (fun _ hk => hk.2) (.slice A459_3 ((rd_T82 t420 t456).f3).length c459_3)) (fun _ hk => hk.2) (.int .i64 ((rd_T82 t420 t456).f4))) (fun _ hk => hk.2) (.int .i64 ((rd_T82 t420 t456).f5))) (fun _ hk => ⟨hk.1.1.1.1, ⟨hk.1.1.2, ⟨hk.1.1.1.2.1, ⟨hk.1.1.1.2.2.1, ⟨hk.1.1.1.2.2.2, hk.1.2⟩⟩⟩⟩⟩)))⟩; replace HL459_3 : Aside0 (Kd.V (Kd.int .i64) 3 w53 w.heap.size (fun k_ => (w.heap.size ≤ k_) ∧ some k_ ≠ (.slice (some ad459) t420.length co46 : Value).ownBlock ∧ k_ ≠ gb415 ∧ k_ ≠ gb433 ∧ k_ ≠ g419 ∧ k_ ≠ gb460) (.slice A459_3 ((rd_T82 t420 t456).f3).length c459_3) ((rd_T82 t420 t456).f3)) := ⟨(by rw [hw]; exact (by (with_reducible repeat (first | apply Kd.V_alloc | apply Kd.V_drewN | apply Kd.V_drew)); exact Kd.V_mono (Kd.V_far (p := ⟨gb460, 5, none⟩) (Kd.V_far (p := ⟨gb460, 4, none⟩) (Kd.V_far (p := ⟨gb460, 3, none⟩) (Kd.V_far (p := ⟨gb460, 2, none⟩) (Kd.V_far (p := ⟨gb460, 1, none⟩) (Kd.V_far (p := ⟨gb460, 0, none⟩) (Kd.V_mono HL459_3.out (fun k_ hk => (⟨hk, hk.2⟩ : _ ∧ k_ ≠ gb460))) (fun _ hk => hk.2) (.int .i64 ((rd_T82 t420 t456).f0))) (fun _ hk => hk.2) (.int .i64 ((rd_T82 t420 t456).f1))) (fun _ hk => hk.2) (.slice A459_2 ((rd_T82 t420 t456).f2).length c459_2)) (fun _ hk => hk.2) (.slice A459_3 ((rd_T82 t420 t456).f3).length c459_3)) (fun _ hk => hk.2) (.int .i64 ((rd_T82 t420 t456).f4))) (fun _ hk => hk.2) (.int .i64 ((rd_T82 t420 t456).f5))) (fun _ hk => ⟨hk.1.1.1.1, ⟨hk.1.1.2, ⟨hk.1.1.1.2.1, ⟨hk.1.1.1.2.2.1, ⟨hk.1.1.1.2.2.2, hk.1.2⟩⟩⟩⟩⟩)))⟩; replace BK415 : Aside0 (w53.heap[gb415]? = some (.cells #[.int .i64 0, .int .i64 0, .int .i64 0, .int .i64 0, .bool false, .string (⟨#[]⟩ : ByteArray)] 62 (0, 0))) := ⟨(by rw [hw]; exact (by (repeat (with_reducible (first | exact BK415.out | apply blk_drewN | apply blk_drew | apply blk_alloc | apply blk_put | apply bf NB415_460.out))); repeat (first | exact BK415.out | (simp only [List.setIfInBounds_toArray, List.set_cons_zero, List.set_cons_succ]; with_reducible rfl) | rfl)))⟩; replace BK433 : Aside0 (w53.heap[gb433]? = some (.cells #[.int .i64 x434000_21, .int .i64 x434001_21, .int .i64 x434002_21, .int .i64 x434003_21, .bool x434004_21, .string x434005_21] 62 (0, 0))) := ⟨(by rw [hw]; exact (by (repeat (with_reducible (first | exact BK433.out | apply blk_drewN | apply blk_drew | apply blk_alloc | apply blk_put | apply bf NB433_460.out))); repeat (first | exact BK433.out | (simp only [List.setIfInBounds_toArray, List.set_cons_zero, List.set_cons_succ]; with_reducible rfl) | rfl)))⟩; replace BK460 : Aside0 (w53.heap[gb460]? = some (.cells #[.int .i64 ((rd_T82 t420 t456).f0), .int .i64 ((rd_T82 t420 t456).f1), .slice A459_2 ((rd_T82 t420 t456).f2).length c459_2, .slice A459_3 ((rd_T82 t420 t456).f3).length c459_3, .int .i64 ((rd_T82 t420 t456).f4), .int .i64 ((rd_T82 t420 t456).f5)] 82 (0, 0))) := ⟨(by rw [hw]; exact (by (repeat (with_reducible (first | exact BK460.out | apply blk_drewN | apply blk_drew | apply blk_alloc | apply blk_put))); repeat (first | exact BK460.out | (simp only [List.setIfInBounds_toArray, List.set_cons_zero, List.set_cons_succ]; with_reducible rfl) | rfl)))⟩; replace HB : Aside0 (Below w.heap.size w w53) := ⟨(by rw [hw]; exact B9x4_)⟩; replace HI419 : Aside0 (IsS159 w w53 g419 t416 t457 t458) := ⟨(by rw [hw]; exact B9x3_)⟩; clear hw))
        replace HO_6 := Aside0.mk (Kd.N_drew HO_6.out)
        replace HL459_2 := Aside0.mk (Kd.V_drew HL459_2.out)
        replace HL459_3 := Aside0.mk (Kd.V_drew HL459_3.out)
        replace BK415 := Aside0.mk (blk_drew BK415.out)
        replace BK433 := Aside0.mk (blk_drew BK433.out)
        replace BK460 := Aside0.mk (blk_drew BK460.out)
        replace HR459_2 := Aside0.mk (Kd.C_drew HR459_2.out)
        replace HR459_3 := Aside0.mk (Kd.C_drew HR459_3.out)
        replace HI419 := Aside0.mk (IsS159.drew HI419.out)
        replace HB := Aside0.mk (below_drew1 HB.out)
        refine start_ (n := 11) (S := fun w' => w'.cell? ⟨gb460, 0, none⟩ = some (.int .i64 ((rd_T82 t420 t456).f0)) ∧ w'.cell? ⟨gb460, 1, none⟩ = some (.int .i64 ((rd_T82 t420 t456).f1)) ∧ w'.cell? ⟨gb460, 2, none⟩ = some (.slice A459_2 ((rd_T82 t420 t456).f2).length c459_2) ∧ w'.cell? ⟨gb460, 3, none⟩ = some (.slice A459_3 ((rd_T82 t420 t456).f3).length c459_3) ∧ w'.cell? ⟨gb460, 4, none⟩ = some (.int .i64 ((rd_T82 t420 t456).f4)) ∧ w'.cell? ⟨gb460, 5, none⟩ = some (.int .i64 ((rd_T82 t420 t456).f5))) (ds := []) #[false, false, false, false, false, false, false, false, false, false, false] B9x13_ rfl rfl ⟨(blk_cell BK460.out 0).trans rfl, (blk_cell BK460.out 1).trans rfl, (blk_cell BK460.out 2).trans rfl, (blk_cell BK460.out 3).trans rfl, (blk_cell BK460.out 4).trans rfl, (blk_cell BK460.out 5).trans rfl⟩ (fun hHeld => ?_); refine with_tabW spec_DrawJoinBits.tab9 spec_DrawJoinBits.bits9 (fun HT_ HW_ => ?_)
        generalize w53.drew = w54 at HO_6 HL459_2 HL459_3 BK415 BK433 BK460 HR459_2 HR459_3 HI419 HB hHeld ⊢
        refine pu_ 0 49 HT_ ?_
        refine pu_ 2 51 HT_ ?_
        refine pu_ 4 53 HT_ ?_
        refine pu_ 7 56 HT_ ?_
        refine ta_ 1 50 HT_ HW_ hHeld ?_
        refine ta_ 3 52 HT_ HW_ hHeld ?_
        refine one_ (i := 5) (N := some 54) #[true, true, true, true, true, true, false, true, false, false, false] rfl rfl (one_of HT_.out B9x13_) (by decide) (fun K hK => ?_)
        refine goes_ Try.func94 B9x13_ rfl #[.pointer (some ⟨g419, 0, none⟩), .int .i64 4] (by rfl) rfl rfl B9x2_ ?_
        with_reducible refine (spec_l01Below.calls g419 t416 t457 t458 4 t461 t462 t463 w _ ?side1 ?side2 A43.out).mono ?_
        (case side1 => exact B9x3_)
        (case side2 => exact B9x4_)
        rintro e w55 ⟨rfl, hi, hb, hk⟩
        refine ⟨_, rfl, ?_⟩
        replace HO_6 := Aside0.mk (Kd.N_mono (Kd.N_keep (Kd.N_mono (ok := fun k_ => (((w.heap.size ≤ k_)) ∧ (k_ ≠ gb415 ∧ (k_ ≠ gb433 ∧ (k_ ≠ g419 ∧ k_ ≠ gb460))))) B9x5_ (fun k_ hk_ => (⟨hk_, hk_.2.2.2.1⟩ : _ ∧ k_ ≠ g419))) hk (fun _ h => h.2)) (fun _ h => h.1))
        replace BK415 := Aside0.mk (kb hk BK415.out NB415_419.out)
        replace BK433 := Aside0.mk (kb hk BK433.out NB433_419.out)
        replace HL459_2 := Aside0.mk (Kd.V_mono (Kd.V_keep (Kd.V_mono (ok := fun k_ => (((w.heap.size ≤ k_)) ∧ (some k_ ≠ (.slice (some ad459) t420.length co46 : Value).ownBlock ∧ (k_ ≠ gb415 ∧ (k_ ≠ gb433 ∧ (k_ ≠ g419 ∧ k_ ≠ gb460)))))) B9x14_ (fun k_ hk_ => (⟨hk_, hk_.2.2.2.2.1⟩ : _ ∧ k_ ≠ g419))) hk (fun _ h => h.2)) (fun _ h => h.1))
        replace HL459_3 := Aside0.mk (Kd.V_mono (Kd.V_keep (Kd.V_mono (ok := fun k_ => (((w.heap.size ≤ k_)) ∧ (some k_ ≠ (.slice (some ad459) t420.length co46 : Value).ownBlock ∧ (k_ ≠ gb415 ∧ (k_ ≠ gb433 ∧ (k_ ≠ g419 ∧ k_ ≠ gb460)))))) B9x15_ (fun k_ hk_ => (⟨hk_, hk_.2.2.2.2.1⟩ : _ ∧ k_ ≠ g419))) hk (fun _ h => h.2)) (fun _ h => h.1))
        replace BK460 := Aside0.mk (kb hk BK460.out NB460_419.out)
        replace HB := Aside0.mk (hb)
        replace HI419 := Aside0.mk (hi)
        (try clear hb)
        (try clear hb2)
        (try clear hk)
        (try clear hi)
        (try clear hl)
        refine hK.out _ _ ⟨(blk_cell BK460.out 0).trans rfl, (blk_cell BK460.out 1).trans rfl, (blk_cell BK460.out 2).trans rfl, (blk_cell BK460.out 3).trans rfl, (blk_cell BK460.out 4).trans rfl, (blk_cell BK460.out 5).trans rfl⟩ (fun hHeld => ?_)
        clear hK K
        refine norm_ (a' := ?_) ?_ ?_
        rotate_left
        ·show Act.put _ (some 54) _ = _
         simp only [Act.put, List.setIfInBounds_toArray, List.set_cons_zero, List.set_cons_succ, i64_w, i32_w]
         rfl
        refine pu_ 6 55 HT_ ?_
        refine one_ (i := 8) (N := some 57) #[true, true, true, true, true, true, true, true, true, false, false] rfl rfl (one_of HT_.out B9x13_) (by decide) (fun K hK => ?_)
        refine goes_ Try.func111 B9x13_ rfl #[.pointer (some ⟨g419, 0, none⟩), .int .i64 2] (by rfl) rfl rfl B9x2_ ?_
        with_reducible refine (spec_l01Once.calls g419 t416 t462 t463 2 t464 t465 t466 w _ ?side1 ?side2 A44.out).mono ?_
        (case side1 => exact B9x3_)
        (case side2 => exact B9x4_)
        rintro e w56 ⟨rfl, hi, hb, hk⟩
        refine ⟨_, rfl, ?_⟩
        replace HO_6 := Aside0.mk (Kd.N_mono (Kd.N_keep (Kd.N_mono (ok := fun k_ => (((w.heap.size ≤ k_)) ∧ (k_ ≠ gb415 ∧ (k_ ≠ gb433 ∧ (k_ ≠ g419 ∧ k_ ≠ gb460))))) B9x5_ (fun k_ hk_ => (⟨hk_, hk_.2.2.2.1⟩ : _ ∧ k_ ≠ g419))) hk (fun _ h => h.2)) (fun _ h => h.1))
        replace BK415 := Aside0.mk (kb hk BK415.out NB415_419.out)
        replace BK433 := Aside0.mk (kb hk BK433.out NB433_419.out)
        replace HL459_2 := Aside0.mk (Kd.V_mono (Kd.V_keep (Kd.V_mono (ok := fun k_ => (((w.heap.size ≤ k_)) ∧ (some k_ ≠ (.slice (some ad459) t420.length co46 : Value).ownBlock ∧ (k_ ≠ gb415 ∧ (k_ ≠ gb433 ∧ (k_ ≠ g419 ∧ k_ ≠ gb460)))))) B9x14_ (fun k_ hk_ => (⟨hk_, hk_.2.2.2.2.1⟩ : _ ∧ k_ ≠ g419))) hk (fun _ h => h.2)) (fun _ h => h.1))
        replace HL459_3 := Aside0.mk (Kd.V_mono (Kd.V_keep (Kd.V_mono (ok := fun k_ => (((w.heap.size ≤ k_)) ∧ (some k_ ≠ (.slice (some ad459) t420.length co46 : Value).ownBlock ∧ (k_ ≠ gb415 ∧ (k_ ≠ gb433 ∧ (k_ ≠ g419 ∧ k_ ≠ gb460)))))) B9x15_ (fun k_ hk_ => (⟨hk_, hk_.2.2.2.2.1⟩ : _ ∧ k_ ≠ g419))) hk (fun _ h => h.2)) (fun _ h => h.1))
        replace BK460 := Aside0.mk (kb hk BK460.out NB460_419.out)
        replace HB := Aside0.mk (hb)
        replace HI419 := Aside0.mk (hi)
        (try clear hb)
        (try clear hb2)
        (try clear hk)
        (try clear hi)
        (try clear hl)
        refine hK.out _ _ ⟨(blk_cell BK460.out 0).trans rfl, (blk_cell BK460.out 1).trans rfl, (blk_cell BK460.out 2).trans rfl, (blk_cell BK460.out 3).trans rfl, (blk_cell BK460.out 4).trans rfl, (blk_cell BK460.out 5).trans rfl⟩ (fun hHeld => ?_)
        clear hK K
        refine norm_ (a' := ?_) ?_ ?_
        rotate_left
        ·show Act.put _ (some 57) _ = _
         simp only [Act.put, List.setIfInBounds_toArray, List.set_cons_zero, List.set_cons_succ, i64_w, i32_w]
         rfl
        refine pu_ 9 58 HT_ ?_
        refine one_ (i := 10) (N := none) #[true, true, true, true, true, true, true, true, true, true, true] rfl rfl (one_of HT_.out B9x13_) (by decide) (fun K hK => ?_)
        have hs57 : w56.cell? ⟨gb433, 0, none⟩ = some (.int .i64 x434000_21) := (blk_cell BK433.out 0).trans rfl
        have hfs57 := blk_frozen BK433.out 0
        have hns57_0 := NB415_433.out
        have hns57_2 := NB460_433.out
        have hms57_0 := NB433_415.out
        have hms57_2 := NB433_460.out
        have hs58 : w56.cell? ⟨gb433, 1, none⟩ = some (.int .i64 x434001_21) := (blk_cell BK433.out 1).trans rfl
        have hfs58 := blk_frozen BK433.out 1
        have hns58_0 := NB415_433.out
        have hns58_2 := NB460_433.out
        have hms58_0 := NB433_415.out
        have hms58_2 := NB433_460.out
        have hs59 : w56.cell? ⟨gb433, 2, none⟩ = some (.int .i64 x434002_21) := (blk_cell BK433.out 2).trans rfl
        have hfs59 := blk_frozen BK433.out 2
        have hns59_0 := NB415_433.out
        have hns59_2 := NB460_433.out
        have hms59_0 := NB433_415.out
        have hms59_2 := NB433_460.out
        have hs60 : w56.cell? ⟨gb433, 3, none⟩ = some (.int .i64 x434003_21) := (blk_cell BK433.out 3).trans rfl
        have hfs60 := blk_frozen BK433.out 3
        have hns60_0 := NB415_433.out
        have hns60_2 := NB460_433.out
        have hms60_0 := NB433_415.out
        have hms60_2 := NB433_460.out
        have hs61 : w56.cell? ⟨gb433, 4, none⟩ = some (.bool x434004_21) := (blk_cell BK433.out 4).trans rfl
        have hfs61 := blk_frozen BK433.out 4
        have hns61_0 := NB415_433.out
        have hns61_2 := NB460_433.out
        have hms61_0 := NB433_415.out
        have hms61_2 := NB433_460.out
        have hs62 : w56.cell? ⟨gb433, 5, none⟩ = some (.string x434005_21) := (blk_cell BK433.out 5).trans rfl
        have hfs62 := blk_frozen BK433.out 5
        have hns62_0 := NB415_433.out
        have hns62_2 := NB460_433.out
        have hms62_0 := NB433_415.out
        have hms62_2 := NB433_460.out
        refine skip_ (w1 := ?_) (by rfl) rfl ?_ ?_
        rotate_left
        ·go_simp
         rfl
        refine hK.out _ _ ⟨((cell_far (p := ⟨gb433, _, none⟩) NB460_433.out _).trans (((cell_far (p := ⟨gb433, _, none⟩) NB460_433.out _).trans (((cell_far (p := ⟨gb433, _, none⟩) NB460_433.out _).trans (((cell_far (p := ⟨gb433, _, none⟩) NB460_433.out _).trans (((cell_far (p := ⟨gb433, _, none⟩) NB460_433.out _).trans (((cell_far (p := ⟨gb433, _, none⟩) NB460_433.out _).trans (hHeld.1)))))))))))), ((cell_far (p := ⟨gb433, _, none⟩) NB460_433.out _).trans (((cell_far (p := ⟨gb433, _, none⟩) NB460_433.out _).trans (((cell_far (p := ⟨gb433, _, none⟩) NB460_433.out _).trans (((cell_far (p := ⟨gb433, _, none⟩) NB460_433.out _).trans (((cell_far (p := ⟨gb433, _, none⟩) NB460_433.out _).trans (((cell_far (p := ⟨gb433, _, none⟩) NB460_433.out _).trans (hHeld.2.1)))))))))))), ((cell_far (p := ⟨gb433, _, none⟩) NB460_433.out _).trans (((cell_far (p := ⟨gb433, _, none⟩) NB460_433.out _).trans (((cell_far (p := ⟨gb433, _, none⟩) NB460_433.out _).trans (((cell_far (p := ⟨gb433, _, none⟩) NB460_433.out _).trans (((cell_far (p := ⟨gb433, _, none⟩) NB460_433.out _).trans (((cell_far (p := ⟨gb433, _, none⟩) NB460_433.out _).trans (hHeld.2.2.1)))))))))))), ((cell_far (p := ⟨gb433, _, none⟩) NB460_433.out _).trans (((cell_far (p := ⟨gb433, _, none⟩) NB460_433.out _).trans (((cell_far (p := ⟨gb433, _, none⟩) NB460_433.out _).trans (((cell_far (p := ⟨gb433, _, none⟩) NB460_433.out _).trans (((cell_far (p := ⟨gb433, _, none⟩) NB460_433.out _).trans (((cell_far (p := ⟨gb433, _, none⟩) NB460_433.out _).trans (hHeld.2.2.2.1)))))))))))), ((cell_far (p := ⟨gb433, _, none⟩) NB460_433.out _).trans (((cell_far (p := ⟨gb433, _, none⟩) NB460_433.out _).trans (((cell_far (p := ⟨gb433, _, none⟩) NB460_433.out _).trans (((cell_far (p := ⟨gb433, _, none⟩) NB460_433.out _).trans (((cell_far (p := ⟨gb433, _, none⟩) NB460_433.out _).trans (((cell_far (p := ⟨gb433, _, none⟩) NB460_433.out _).trans (hHeld.2.2.2.2.1)))))))))))), ((cell_far (p := ⟨gb433, _, none⟩) NB460_433.out _).trans (((cell_far (p := ⟨gb433, _, none⟩) NB460_433.out _).trans (((cell_far (p := ⟨gb433, _, none⟩) NB460_433.out _).trans (((cell_far (p := ⟨gb433, _, none⟩) NB460_433.out _).trans (((cell_far (p := ⟨gb433, _, none⟩) NB460_433.out _).trans (((cell_far (p := ⟨gb433, _, none⟩) NB460_433.out _).trans (hHeld.2.2.2.2.2))))))))))))⟩ (fun hHeld => ?_)
        clear hK K
        refine done_ (done_of HT_.out B9x13_) ?_
        try go_wp2
        have n0_ : Aside0 (Kd.N k82 82 ((((((w56.setCell ⟨gb433, 0, none⟩ (.int .i64 ((rd_T82 t420 t456).f0))).setCell ⟨gb433, 1, none⟩ (.int .i64 1)).setCell ⟨gb433, 2, none⟩ (.int .i64 ((rd_T82 t420 t456).f1))).setCell ⟨gb433, 3, none⟩ (.int .i64 (wrap64 (8 * t461)))).setCell ⟨gb433, 4, none⟩ (.bool t464)).setCell ⟨gb433, 5, none⟩ (.string (⟨#[49, 50, 51, 52, 53, 54, 55, 56]⟩ : ByteArray))) w.heap.size (fun k_ => (w.heap.size ≤ k_) ∧ k_ ≠ gb415 ∧ k_ ≠ gb433 ∧ k_ ≠ g419 ∧ k_ ≠ gb460) (.slice (some ad459) t420.length co46) t420) := ⟨(by (with_reducible repeat (first | apply Kd.N_alloc | apply Kd.N_drewN | apply Kd.N_drew)); exact Kd.N_mono (Kd.N_far (p := ⟨gb433, 5, none⟩) (Kd.N_far (p := ⟨gb433, 4, none⟩) (Kd.N_far (p := ⟨gb433, 3, none⟩) (Kd.N_far (p := ⟨gb433, 2, none⟩) (Kd.N_far (p := ⟨gb433, 1, none⟩) (Kd.N_far (p := ⟨gb433, 0, none⟩) (Kd.N_mono HO_6.out (fun k_ hk => (⟨hk, hk.2.2.1⟩ : _ ∧ k_ ≠ gb433))) (fun _ hk => hk.2) (.int .i64 ((rd_T82 t420 t456).f0))) (fun _ hk => hk.2) (.int .i64 1)) (fun _ hk => hk.2) (.int .i64 ((rd_T82 t420 t456).f1))) (fun _ hk => hk.2) (.int .i64 (wrap64 (8 * t461)))) (fun _ hk => hk.2) (.bool t464)) (fun _ hk => hk.2) (.string (⟨#[49, 50, 51, 52, 53, 54, 55, 56]⟩ : ByteArray))) (fun _ hk => ⟨hk.1.1, ⟨hk.1.2.1, ⟨hk.1.2.2.1, ⟨hk.1.2.2.2.1, hk.1.2.2.2.2⟩⟩⟩⟩))⟩
        have n1_ : Aside0 (Kd.V Kd.string 9 ((((((w56.setCell ⟨gb433, 0, none⟩ (.int .i64 ((rd_T82 t420 t456).f0))).setCell ⟨gb433, 1, none⟩ (.int .i64 1)).setCell ⟨gb433, 2, none⟩ (.int .i64 ((rd_T82 t420 t456).f1))).setCell ⟨gb433, 3, none⟩ (.int .i64 (wrap64 (8 * t461)))).setCell ⟨gb433, 4, none⟩ (.bool t464)).setCell ⟨gb433, 5, none⟩ (.string (⟨#[49, 50, 51, 52, 53, 54, 55, 56]⟩ : ByteArray))) w.heap.size (fun k_ => (w.heap.size ≤ k_) ∧ some k_ ≠ (.slice (some ad459) t420.length co46 : Value).ownBlock ∧ k_ ≠ gb415 ∧ k_ ≠ gb433 ∧ k_ ≠ g419 ∧ k_ ≠ gb460) (.slice A459_2 ((rd_T82 t420 t456).f2).length c459_2) ((rd_T82 t420 t456).f2)) := ⟨(by (with_reducible repeat (first | apply Kd.V_alloc | apply Kd.V_drewN | apply Kd.V_drew)); exact Kd.V_mono (Kd.V_far (p := ⟨gb433, 5, none⟩) (Kd.V_far (p := ⟨gb433, 4, none⟩) (Kd.V_far (p := ⟨gb433, 3, none⟩) (Kd.V_far (p := ⟨gb433, 2, none⟩) (Kd.V_far (p := ⟨gb433, 1, none⟩) (Kd.V_far (p := ⟨gb433, 0, none⟩) (Kd.V_mono HL459_2.out (fun k_ hk => (⟨hk, hk.2.2.2.1⟩ : _ ∧ k_ ≠ gb433))) (fun _ hk => hk.2) (.int .i64 ((rd_T82 t420 t456).f0))) (fun _ hk => hk.2) (.int .i64 1)) (fun _ hk => hk.2) (.int .i64 ((rd_T82 t420 t456).f1))) (fun _ hk => hk.2) (.int .i64 (wrap64 (8 * t461)))) (fun _ hk => hk.2) (.bool t464)) (fun _ hk => hk.2) (.string (⟨#[49, 50, 51, 52, 53, 54, 55, 56]⟩ : ByteArray))) (fun _ hk => ⟨hk.1.1, ⟨hk.1.2.1, ⟨hk.1.2.2.1, ⟨hk.1.2.2.2.1, ⟨hk.1.2.2.2.2.1, hk.1.2.2.2.2.2⟩⟩⟩⟩⟩))⟩
        have n2_ : Aside0 (Kd.V (Kd.int .i64) 3 ((((((w56.setCell ⟨gb433, 0, none⟩ (.int .i64 ((rd_T82 t420 t456).f0))).setCell ⟨gb433, 1, none⟩ (.int .i64 1)).setCell ⟨gb433, 2, none⟩ (.int .i64 ((rd_T82 t420 t456).f1))).setCell ⟨gb433, 3, none⟩ (.int .i64 (wrap64 (8 * t461)))).setCell ⟨gb433, 4, none⟩ (.bool t464)).setCell ⟨gb433, 5, none⟩ (.string (⟨#[49, 50, 51, 52, 53, 54, 55, 56]⟩ : ByteArray))) w.heap.size (fun k_ => (w.heap.size ≤ k_) ∧ some k_ ≠ (.slice (some ad459) t420.length co46 : Value).ownBlock ∧ k_ ≠ gb415 ∧ k_ ≠ gb433 ∧ k_ ≠ g419 ∧ k_ ≠ gb460) (.slice A459_3 ((rd_T82 t420 t456).f3).length c459_3) ((rd_T82 t420 t456).f3)) := ⟨(by (with_reducible repeat (first | apply Kd.V_alloc | apply Kd.V_drewN | apply Kd.V_drew)); exact Kd.V_mono (Kd.V_far (p := ⟨gb433, 5, none⟩) (Kd.V_far (p := ⟨gb433, 4, none⟩) (Kd.V_far (p := ⟨gb433, 3, none⟩) (Kd.V_far (p := ⟨gb433, 2, none⟩) (Kd.V_far (p := ⟨gb433, 1, none⟩) (Kd.V_far (p := ⟨gb433, 0, none⟩) (Kd.V_mono HL459_3.out (fun k_ hk => (⟨hk, hk.2.2.2.1⟩ : _ ∧ k_ ≠ gb433))) (fun _ hk => hk.2) (.int .i64 ((rd_T82 t420 t456).f0))) (fun _ hk => hk.2) (.int .i64 1)) (fun _ hk => hk.2) (.int .i64 ((rd_T82 t420 t456).f1))) (fun _ hk => hk.2) (.int .i64 (wrap64 (8 * t461)))) (fun _ hk => hk.2) (.bool t464)) (fun _ hk => hk.2) (.string (⟨#[49, 50, 51, 52, 53, 54, 55, 56]⟩ : ByteArray))) (fun _ hk => ⟨hk.1.1, ⟨hk.1.2.1, ⟨hk.1.2.2.1, ⟨hk.1.2.2.2.1, ⟨hk.1.2.2.2.2.1, hk.1.2.2.2.2.2⟩⟩⟩⟩⟩))⟩
        have n3_ : Aside0 (((((((w56.setCell ⟨gb433, 0, none⟩ (.int .i64 ((rd_T82 t420 t456).f0))).setCell ⟨gb433, 1, none⟩ (.int .i64 1)).setCell ⟨gb433, 2, none⟩ (.int .i64 ((rd_T82 t420 t456).f1))).setCell ⟨gb433, 3, none⟩ (.int .i64 (wrap64 (8 * t461)))).setCell ⟨gb433, 4, none⟩ (.bool t464)).setCell ⟨gb433, 5, none⟩ (.string (⟨#[49, 50, 51, 52, 53, 54, 55, 56]⟩ : ByteArray))).heap[gb415]? = some (.cells #[.int .i64 0, .int .i64 0, .int .i64 0, .int .i64 0, .bool false, .string (⟨#[]⟩ : ByteArray)] 62 (0, 0))) := ⟨B9x10_⟩
        have n4_ : Aside0 (((((((w56.setCell ⟨gb433, 0, none⟩ (.int .i64 ((rd_T82 t420 t456).f0))).setCell ⟨gb433, 1, none⟩ (.int .i64 1)).setCell ⟨gb433, 2, none⟩ (.int .i64 ((rd_T82 t420 t456).f1))).setCell ⟨gb433, 3, none⟩ (.int .i64 (wrap64 (8 * t461)))).setCell ⟨gb433, 4, none⟩ (.bool t464)).setCell ⟨gb433, 5, none⟩ (.string (⟨#[49, 50, 51, 52, 53, 54, 55, 56]⟩ : ByteArray))).heap[gb433]? = some (.cells #[.int .i64 ((rd_T82 t420 t456).f0), .int .i64 1, .int .i64 ((rd_T82 t420 t456).f1), .int .i64 (wrap64 (8 * t461)), .bool t464, .string (⟨#[49, 50, 51, 52, 53, 54, 55, 56]⟩ : ByteArray)] 62 (0, 0))) := ⟨B9x11_⟩
        have n5_ : Aside0 (((((((w56.setCell ⟨gb433, 0, none⟩ (.int .i64 ((rd_T82 t420 t456).f0))).setCell ⟨gb433, 1, none⟩ (.int .i64 1)).setCell ⟨gb433, 2, none⟩ (.int .i64 ((rd_T82 t420 t456).f1))).setCell ⟨gb433, 3, none⟩ (.int .i64 (wrap64 (8 * t461)))).setCell ⟨gb433, 4, none⟩ (.bool t464)).setCell ⟨gb433, 5, none⟩ (.string (⟨#[49, 50, 51, 52, 53, 54, 55, 56]⟩ : ByteArray))).heap[gb460]? = some (.cells #[.int .i64 ((rd_T82 t420 t456).f0), .int .i64 ((rd_T82 t420 t456).f1), .slice A459_2 ((rd_T82 t420 t456).f2).length c459_2, .slice A459_3 ((rd_T82 t420 t456).f3).length c459_3, .int .i64 ((rd_T82 t420 t456).f4), .int .i64 ((rd_T82 t420 t456).f5)] 82 (0, 0))) := ⟨(by (repeat (with_reducible (first | exact BK460.out | apply blk_drewN | apply blk_drew | apply blk_alloc | apply blk_put | apply bf NB460_433.out))); repeat (first | exact BK460.out | (simp only [List.setIfInBounds_toArray, List.set_cons_zero, List.set_cons_succ]; with_reducible rfl) | rfl))⟩
        have n6_ : Aside0 (IsS159 w ((((((w56.setCell ⟨gb433, 0, none⟩ (.int .i64 ((rd_T82 t420 t456).f0))).setCell ⟨gb433, 1, none⟩ (.int .i64 1)).setCell ⟨gb433, 2, none⟩ (.int .i64 ((rd_T82 t420 t456).f1))).setCell ⟨gb433, 3, none⟩ (.int .i64 (wrap64 (8 * t461)))).setCell ⟨gb433, 4, none⟩ (.bool t464)).setCell ⟨gb433, 5, none⟩ (.string (⟨#[49, 50, 51, 52, 53, 54, 55, 56]⟩ : ByteArray))) g419 t416 t465 t466) := ⟨B9x3_⟩
        have n7_ : Aside0 (Below w.heap.size w ((((((w56.setCell ⟨gb433, 0, none⟩ (.int .i64 ((rd_T82 t420 t456).f0))).setCell ⟨gb433, 1, none⟩ (.int .i64 1)).setCell ⟨gb433, 2, none⟩ (.int .i64 ((rd_T82 t420 t456).f1))).setCell ⟨gb433, 3, none⟩ (.int .i64 (wrap64 (8 * t461)))).setCell ⟨gb433, 4, none⟩ (.bool t464)).setCell ⟨gb433, 5, none⟩ (.string (⟨#[49, 50, 51, 52, 53, 54, 55, 56]⟩ : ByteArray)))) := ⟨B9x4_⟩
        (try clear HO_6)
        (try clear HL459_2)
        (try clear HL459_3)
        (try clear BK415)
        (try clear BK433)
        (try clear BK460)
        (try clear HI419)
        (try clear HB)
        generalize ((((((w56.setCell ⟨gb433, 0, none⟩ (.int .i64 ((rd_T82 t420 t456).f0))).setCell ⟨gb433, 1, none⟩ (.int .i64 1)).setCell ⟨gb433, 2, none⟩ (.int .i64 ((rd_T82 t420 t456).f1))).setCell ⟨gb433, 3, none⟩ (.int .i64 (wrap64 (8 * t461)))).setCell ⟨gb433, 4, none⟩ (.bool t464)).setCell ⟨gb433, 5, none⟩ (.string (⟨#[49, 50, 51, 52, 53, 54, 55, 56]⟩ : ByteArray))) = w63 at n0_ n1_ n2_ n3_ n4_ n5_ n6_ n7_ ⊢
        have HO_6 := n0_
        have HL459_2 := n1_
        have HL459_3 := n2_
        have BK415 := n3_
        have BK433 := n4_
        have BK460 := n5_
        have HI419 := n6_
        have HB := n7_
        clear n0_ n1_ n2_ n3_ n4_ n5_ n6_ n7_
        replace HO_6 := Aside0.mk (Kd.N_drew HO_6.out)
        replace HL459_2 := Aside0.mk (Kd.V_drew HL459_2.out)
        replace HL459_3 := Aside0.mk (Kd.V_drew HL459_3.out)
        replace BK415 := Aside0.mk (blk_drew BK415.out)
        replace BK433 := Aside0.mk (blk_drew BK433.out)
        replace BK460 := Aside0.mk (blk_drew BK460.out)
        replace HI419 := Aside0.mk (IsS159.drew HI419.out)
        replace HB := Aside0.mk (below_drew1 HB.out)
        refine start_ (n := 7) (S := fun w' => w'.cell? ⟨gb433, 0, none⟩ = some (.int .i64 ((rd_T82 t420 t456).f0)) ∧ w'.cell? ⟨gb433, 1, none⟩ = some (.int .i64 1) ∧ w'.cell? ⟨gb433, 2, none⟩ = some (.int .i64 ((rd_T82 t420 t456).f1)) ∧ w'.cell? ⟨gb433, 3, none⟩ = some (.int .i64 (wrap64 (8 * t461))) ∧ w'.cell? ⟨gb433, 4, none⟩ = some (.bool t464) ∧ w'.cell? ⟨gb433, 5, none⟩ = some (.string (⟨#[49, 50, 51, 52, 53, 54, 55, 56]⟩ : ByteArray))) (ds := []) #[false, false, false, false, false, false, false] B9x13_ rfl rfl ⟨(blk_cell BK433.out 0).trans rfl, (blk_cell BK433.out 1).trans rfl, (blk_cell BK433.out 2).trans rfl, (blk_cell BK433.out 3).trans rfl, (blk_cell BK433.out 4).trans rfl, (blk_cell BK433.out 5).trans rfl⟩ (fun hHeld => ?_)
        generalize w63.drew = w64 at HO_6 HL459_2 HL459_3 BK415 BK433 BK460 HI419 HB hHeld ⊢
        refine pure_ (i := 0) (N := some 59) (v := ?_) (a' := ?_) #[true, false, false, false, false, false, false] rfl rfl B9x13_ (fun _ _ _ h => h) (Or.inl ⟨by rfl, ?_⟩) ?_ ?_
        rotate_left
        ·intro w'
         go_simp
         with_reducible rfl
        rotate_left
        ·simp only [Act.put, List.setIfInBounds_toArray, List.set_cons_zero, List.set_cons_succ, i64_w, i32_w]
         rfl
        refine pure_ (i := 2) (N := some 61) (v := ?_) (a' := ?_) #[true, false, true, false, false, false, false] rfl rfl B9x13_ (fun _ _ _ h => h) (Or.inl ⟨by rfl, ?_⟩) ?_ ?_
        rotate_left
        ·intro w'
         go_simp
         with_reducible rfl
        rotate_left
        ·simp only [Act.put, List.setIfInBounds_toArray, List.set_cons_zero, List.set_cons_succ, i64_w, i32_w]
         rfl
        refine take_ (i := 1) (N := some 60) (v := ?_) (a' := ?_) #[true, true, true, false, false, false, false] rfl rfl B9x13_ (fun _ _ _ h => h) (Or.inl ⟨by rfl, ?_⟩) hHeld ?_ ?_
        rotate_left
        ·rintro w' ⟨s0, s1, s2, s3, s4, s5⟩
         go_simp
         with_reducible rfl
        rotate_left
        ·simp only [Act.put, List.setIfInBounds_toArray, List.set_cons_zero, List.set_cons_succ, i64_w, i32_w]
         rfl
        refine one_ (i := 3) (N := some 62) #[true, true, true, true, false, false, false] rfl rfl B9x13_ (by decide) (fun K hK => ?_)
        refine goes_ Try.func112 B9x13_ rfl #[.pointer (some ⟨g419, 0, none⟩), .int .i64 30] (by rfl) rfl rfl B9x2_ ?_
        with_reducible refine (spec_l01Place.calls g419 t416 t465 t466 30 t467 t468 t469 w _ ?side1 ?side2 A45.out).mono ?_
        (case side1 => exact B9x3_)
        (case side2 => exact B9x4_)
        rintro e w65 ⟨rfl, hi, hb, hk⟩
        refine ⟨_, rfl, ?_⟩
        replace HO_6 := Aside0.mk (Kd.N_mono (Kd.N_keep (Kd.N_mono (ok := fun k_ => (((w.heap.size ≤ k_)) ∧ (k_ ≠ gb415 ∧ (k_ ≠ gb433 ∧ (k_ ≠ g419 ∧ k_ ≠ gb460))))) B9x5_ (fun k_ hk_ => (⟨hk_, hk_.2.2.2.1⟩ : _ ∧ k_ ≠ g419))) hk (fun _ h => h.2)) (fun _ h => h.1))
        replace BK415 := Aside0.mk (kb hk BK415.out NB415_419.out)
        replace BK433 := Aside0.mk (kb hk BK433.out NB433_419.out)
        replace HL459_2 := Aside0.mk (Kd.V_mono (Kd.V_keep (Kd.V_mono (ok := fun k_ => (((w.heap.size ≤ k_)) ∧ (some k_ ≠ (.slice (some ad459) t420.length co46 : Value).ownBlock ∧ (k_ ≠ gb415 ∧ (k_ ≠ gb433 ∧ (k_ ≠ g419 ∧ k_ ≠ gb460)))))) B9x14_ (fun k_ hk_ => (⟨hk_, hk_.2.2.2.2.1⟩ : _ ∧ k_ ≠ g419))) hk (fun _ h => h.2)) (fun _ h => h.1))
        replace HL459_3 := Aside0.mk (Kd.V_mono (Kd.V_keep (Kd.V_mono (ok := fun k_ => (((w.heap.size ≤ k_)) ∧ (some k_ ≠ (.slice (some ad459) t420.length co46 : Value).ownBlock ∧ (k_ ≠ gb415 ∧ (k_ ≠ gb433 ∧ (k_ ≠ g419 ∧ k_ ≠ gb460)))))) B9x15_ (fun k_ hk_ => (⟨hk_, hk_.2.2.2.2.1⟩ : _ ∧ k_ ≠ g419))) hk (fun _ h => h.2)) (fun _ h => h.1))
        replace BK460 := Aside0.mk (kb hk BK460.out NB460_419.out)
        replace HB := Aside0.mk (hb)
        replace HI419 := Aside0.mk (hi)
        (try clear hb)
        (try clear hb2)
        (try clear hk)
        (try clear hi)
        (try clear hl)
        refine hK.out _ _ ⟨(blk_cell BK433.out 0).trans rfl, (blk_cell BK433.out 1).trans rfl, (blk_cell BK433.out 2).trans rfl, (blk_cell BK433.out 3).trans rfl, (blk_cell BK433.out 4).trans rfl, (blk_cell BK433.out 5).trans rfl⟩ (fun hHeld => ?_)
        clear hK K
        refine norm_ (a' := ?_) ?_ ?_
        rotate_left
        ·show Act.put _ (some 62) _ = _
         simp only [Act.put, List.setIfInBounds_toArray, List.set_cons_zero, List.set_cons_succ, i64_w, i32_w]
         rfl
        refine pure_ (i := 4) (N := some 2) (v := ?_) (a' := ?_) #[true, true, true, true, true, false, false] rfl rfl B9x13_ (fun _ _ _ h => h) (Or.inl ⟨by rfl, ?_⟩) ?_ ?_
        rotate_left
        ·intro w'
         go_simp
         with_reducible rfl
        rotate_left
        ·simp only [Act.put, List.setIfInBounds_toArray, List.set_cons_zero, List.set_cons_succ, i64_w, i32_w]
         rfl
        refine one_ (i := 5) (N := none) #[true, true, true, true, true, true, false] rfl rfl B9x13_ (by decide) (fun K hK => ?_)
        have hs66 : w65.cell? ⟨gb415, 0, none⟩ = some (.int .i64 0) := (blk_cell BK415.out 0).trans rfl
        have hfs66 := blk_frozen BK415.out 0
        have hns66_1 := NB433_415.out
        have hns66_2 := NB460_415.out
        have hms66_1 := NB415_433.out
        have hms66_2 := NB415_460.out
        have hs67 : w65.cell? ⟨gb415, 1, none⟩ = some (.int .i64 0) := (blk_cell BK415.out 1).trans rfl
        have hfs67 := blk_frozen BK415.out 1
        have hns67_1 := NB433_415.out
        have hns67_2 := NB460_415.out
        have hms67_1 := NB415_433.out
        have hms67_2 := NB415_460.out
        have hs68 : w65.cell? ⟨gb415, 2, none⟩ = some (.int .i64 0) := (blk_cell BK415.out 2).trans rfl
        have hfs68 := blk_frozen BK415.out 2
        have hns68_1 := NB433_415.out
        have hns68_2 := NB460_415.out
        have hms68_1 := NB415_433.out
        have hms68_2 := NB415_460.out
        have hs69 : w65.cell? ⟨gb415, 3, none⟩ = some (.int .i64 0) := (blk_cell BK415.out 3).trans rfl
        have hfs69 := blk_frozen BK415.out 3
        have hns69_1 := NB433_415.out
        have hns69_2 := NB460_415.out
        have hms69_1 := NB415_433.out
        have hms69_2 := NB415_460.out
        have hs70 : w65.cell? ⟨gb415, 4, none⟩ = some (.bool false) := (blk_cell BK415.out 4).trans rfl
        have hfs70 := blk_frozen BK415.out 4
        have hns70_1 := NB433_415.out
        have hns70_2 := NB460_415.out
        have hms70_1 := NB415_433.out
        have hms70_2 := NB415_460.out
        have hs71 : w65.cell? ⟨gb415, 5, none⟩ = some (.string (⟨#[]⟩ : ByteArray)) := (blk_cell BK415.out 5).trans rfl
        have hfs71 := blk_frozen BK415.out 5
        have hns71_1 := NB433_415.out
        have hns71_2 := NB460_415.out
        have hms71_1 := NB415_433.out
        have hms71_2 := NB415_460.out
        refine skip_ (w1 := ?_) (by rfl) rfl ?_ ?_
        rotate_left
        ·go_simp
         rfl
        refine hK.out _ _ ⟨((cell_far (p := ⟨gb415, _, none⟩) NB433_415.out _).trans (((cell_far (p := ⟨gb415, _, none⟩) NB433_415.out _).trans (((cell_far (p := ⟨gb415, _, none⟩) NB433_415.out _).trans (((cell_far (p := ⟨gb415, _, none⟩) NB433_415.out _).trans (((cell_far (p := ⟨gb415, _, none⟩) NB433_415.out _).trans (((cell_far (p := ⟨gb415, _, none⟩) NB433_415.out _).trans (hHeld.1)))))))))))), ((cell_far (p := ⟨gb415, _, none⟩) NB433_415.out _).trans (((cell_far (p := ⟨gb415, _, none⟩) NB433_415.out _).trans (((cell_far (p := ⟨gb415, _, none⟩) NB433_415.out _).trans (((cell_far (p := ⟨gb415, _, none⟩) NB433_415.out _).trans (((cell_far (p := ⟨gb415, _, none⟩) NB433_415.out _).trans (((cell_far (p := ⟨gb415, _, none⟩) NB433_415.out _).trans (hHeld.2.1)))))))))))), ((cell_far (p := ⟨gb415, _, none⟩) NB433_415.out _).trans (((cell_far (p := ⟨gb415, _, none⟩) NB433_415.out _).trans (((cell_far (p := ⟨gb415, _, none⟩) NB433_415.out _).trans (((cell_far (p := ⟨gb415, _, none⟩) NB433_415.out _).trans (((cell_far (p := ⟨gb415, _, none⟩) NB433_415.out _).trans (((cell_far (p := ⟨gb415, _, none⟩) NB433_415.out _).trans (hHeld.2.2.1)))))))))))), ((cell_far (p := ⟨gb415, _, none⟩) NB433_415.out _).trans (((cell_far (p := ⟨gb415, _, none⟩) NB433_415.out _).trans (((cell_far (p := ⟨gb415, _, none⟩) NB433_415.out _).trans (((cell_far (p := ⟨gb415, _, none⟩) NB433_415.out _).trans (((cell_far (p := ⟨gb415, _, none⟩) NB433_415.out _).trans (((cell_far (p := ⟨gb415, _, none⟩) NB433_415.out _).trans (hHeld.2.2.2.1)))))))))))), ((cell_far (p := ⟨gb415, _, none⟩) NB433_415.out _).trans (((cell_far (p := ⟨gb415, _, none⟩) NB433_415.out _).trans (((cell_far (p := ⟨gb415, _, none⟩) NB433_415.out _).trans (((cell_far (p := ⟨gb415, _, none⟩) NB433_415.out _).trans (((cell_far (p := ⟨gb415, _, none⟩) NB433_415.out _).trans (((cell_far (p := ⟨gb415, _, none⟩) NB433_415.out _).trans (hHeld.2.2.2.2.1)))))))))))), ((cell_far (p := ⟨gb415, _, none⟩) NB433_415.out _).trans (((cell_far (p := ⟨gb415, _, none⟩) NB433_415.out _).trans (((cell_far (p := ⟨gb415, _, none⟩) NB433_415.out _).trans (((cell_far (p := ⟨gb415, _, none⟩) NB433_415.out _).trans (((cell_far (p := ⟨gb415, _, none⟩) NB433_415.out _).trans (((cell_far (p := ⟨gb415, _, none⟩) NB433_415.out _).trans (hHeld.2.2.2.2.2))))))))))))⟩ (fun hHeld => ?_)
        clear hK K
        refine pure_ (i := 6) (N := some 4) (v := ?_) (a' := ?_) #[true, true, true, true, true, true, true] rfl rfl B9x13_ (fun _ _ _ h => h) (Or.inl ⟨by rfl, ?_⟩) ?_ ?_
        rotate_left
        ·intro w'
         go_simp
         with_reducible rfl
        rotate_left
        ·simp only [Act.put, List.setIfInBounds_toArray, List.set_cons_zero, List.set_cons_succ, i64_w, i32_w]
         rfl
        refine done_ B9x13_ ?_
        try go_wp2
        refine bodyPost_ret (results_list (rs := [.tmp 2, .cell 3 62, .tmp 4]) rfl (by simp) (.tmp (.cell gb415 62 #[.int .i64 ((rd_T82 t420 t456).f0), .int .i64 1, .int .i64 ((rd_T82 t420 t456).f1), .int .i64 (wrap64 (8 * t461)), .bool t464, .string (⟨#[49, 50, 51, 52, 53, 54, 55, 56]⟩ : ByteArray)] (0, 0) _ rfl B9x16_ Try.underlying62 rfl B9x13_ (.tmp .nil)))) rfl ?_
        exact ⟨_, by first | rfl | (simp [errW_none, errW_some] <;> rfl) | (simp [*, errW_none, errW_some] <;> rfl), by (with_reducible repeat (first | apply Kd.N_alloc | apply Kd.N_drewN | apply Kd.N_drew)); exact Kd.N_mono (Kd.N_far (p := ⟨gb415, 5, none⟩) (Kd.N_far (p := ⟨gb415, 4, none⟩) (Kd.N_far (p := ⟨gb415, 3, none⟩) (Kd.N_far (p := ⟨gb415, 2, none⟩) (Kd.N_far (p := ⟨gb415, 1, none⟩) (Kd.N_far (p := ⟨gb415, 0, none⟩) (Kd.N_mono HO_6.out (fun k_ hk => (⟨hk, hk.2.1⟩ : _ ∧ k_ ≠ gb415))) (fun _ hk => hk.2) (.int .i64 ((rd_T82 t420 t456).f0))) (fun _ hk => hk.2) (.int .i64 1)) (fun _ hk => hk.2) (.int .i64 ((rd_T82 t420 t456).f1))) (fun _ hk => hk.2) (.int .i64 (wrap64 (8 * t461)))) (fun _ hk => hk.2) (.bool t464)) (fun _ hk => hk.2) (.string (⟨#[49, 50, 51, 52, 53, 54, 55, 56]⟩ : ByteArray))) (fun _ hk => hk.1.1), by repeat (first | (with_reducible first | exact HB.out | apply below_alloc | apply pw_below_drewN | apply below_drew1 | refine below_set ?_ (IsS159.ge HI419.out) | refine below_set ?_ GE415.out | refine below_set ?_ GE433.out | refine below_set ?_ GE460.out) | exact HB.out)⟩
       ·replace c39 := Bool.eq_false_iff.mpr c39
        subst c39
        rw [if_neg (show ¬ (false = true) by decide)] at H
        replace H := bsi H
        obtain ⟨⟨t470, t471, t472⟩, A72, H⟩ := H
        (try dsimp only at H)
        simp only [Option.some.injEq, Prod.mk.injEq] at H
        obtain ⟨rfl, rfl, rfl, rfl, rfl, rfl, rfl, rfl⟩ := H
        try go_wp2
        replace HO_6 := Aside0.mk (Kd.N_drew HO_6.out)
        replace BK415 := Aside0.mk (blk_drew BK415.out)
        replace BK433 := Aside0.mk (blk_drew BK433.out)
        replace HI419 := Aside0.mk (IsS159.drew HI419.out)
        replace HB := Aside0.mk (below_drew1 HB.out)
        refine start_ (n := 7) (S := fun w' => w'.cell? ⟨gb433, 0, none⟩ = some (.int .i64 x434000_21) ∧ w'.cell? ⟨gb433, 1, none⟩ = some (.int .i64 x434001_21) ∧ w'.cell? ⟨gb433, 2, none⟩ = some (.int .i64 x434002_21) ∧ w'.cell? ⟨gb433, 3, none⟩ = some (.int .i64 x434003_21) ∧ w'.cell? ⟨gb433, 4, none⟩ = some (.bool x434004_21) ∧ w'.cell? ⟨gb433, 5, none⟩ = some (.string x434005_21)) (ds := []) #[false, false, false, false, false, false, false] B9x13_ rfl rfl ⟨(blk_cell BK433.out 0).trans rfl, (blk_cell BK433.out 1).trans rfl, (blk_cell BK433.out 2).trans rfl, (blk_cell BK433.out 3).trans rfl, (blk_cell BK433.out 4).trans rfl, (blk_cell BK433.out 5).trans rfl⟩ (fun hHeld => ?_)
        generalize wc.drew = w73 at HO_6 BK415 BK433 HI419 HB hHeld ⊢
        refine pure_ (i := 0) (N := some 59) (v := ?_) (a' := ?_) #[true, false, false, false, false, false, false] rfl rfl B9x13_ (fun _ _ _ h => h) (Or.inl ⟨by rfl, ?_⟩) ?_ ?_
        rotate_left
        ·intro w'
         go_simp
         with_reducible rfl
        rotate_left
        ·simp only [Act.put, List.setIfInBounds_toArray, List.set_cons_zero, List.set_cons_succ, i64_w, i32_w]
         rfl
        refine pure_ (i := 2) (N := some 61) (v := ?_) (a' := ?_) #[true, false, true, false, false, false, false] rfl rfl B9x13_ (fun _ _ _ h => h) (Or.inl ⟨by rfl, ?_⟩) ?_ ?_
        rotate_left
        ·intro w'
         go_simp
         with_reducible rfl
        rotate_left
        ·simp only [Act.put, List.setIfInBounds_toArray, List.set_cons_zero, List.set_cons_succ, i64_w, i32_w]
         rfl
        refine take_ (i := 1) (N := some 60) (v := ?_) (a' := ?_) #[true, true, true, false, false, false, false] rfl rfl B9x13_ (fun _ _ _ h => h) (Or.inl ⟨by rfl, ?_⟩) hHeld ?_ ?_
        rotate_left
        ·rintro w' ⟨s0, s1, s2, s3, s4, s5⟩
         go_simp
         with_reducible rfl
        rotate_left
        ·simp only [Act.put, List.setIfInBounds_toArray, List.set_cons_zero, List.set_cons_succ, i64_w, i32_w]
         rfl
        refine one_ (i := 3) (N := some 62) #[true, true, true, true, false, false, false] rfl rfl B9x13_ (by decide) (fun K hK => ?_)
        refine goes_ Try.func112 B9x13_ rfl #[.pointer (some ⟨g419, 0, none⟩), .int .i64 30] (by rfl) rfl rfl B9x2_ ?_
        with_reducible refine (spec_l01Place.calls g419 t416 x420001_32 x420002_32 30 t470 t471 t472 w _ ?side1 ?side2 A72.out).mono ?_
        (case side1 => exact B9x0_)
        (case side2 => exact B9x1_)
        rintro e w74 ⟨rfl, hi, hb, hk⟩
        refine ⟨_, rfl, ?_⟩
        replace HO_6 := Aside0.mk (Kd.N_mono (Kd.N_keep (Kd.N_mono (ok := fun k_ => (((w.heap.size ≤ k_)) ∧ (k_ ≠ gb415 ∧ (k_ ≠ gb433 ∧ k_ ≠ g419)))) B9x5_ (fun k_ hk_ => (⟨hk_, hk_.2.2.2⟩ : _ ∧ k_ ≠ g419))) hk (fun _ h => h.2)) (fun _ h => h.1))
        replace BK415 := Aside0.mk (kb hk BK415.out NB415_419.out)
        replace BK433 := Aside0.mk (kb hk BK433.out NB433_419.out)
        replace HB := Aside0.mk (hb)
        replace HI419 := Aside0.mk (hi)
        (try clear hb)
        (try clear hb2)
        (try clear hk)
        (try clear hi)
        (try clear hl)
        refine hK.out _ _ ⟨(blk_cell BK433.out 0).trans rfl, (blk_cell BK433.out 1).trans rfl, (blk_cell BK433.out 2).trans rfl, (blk_cell BK433.out 3).trans rfl, (blk_cell BK433.out 4).trans rfl, (blk_cell BK433.out 5).trans rfl⟩ (fun hHeld => ?_)
        clear hK K
        refine norm_ (a' := ?_) ?_ ?_
        rotate_left
        ·show Act.put _ (some 62) _ = _
         simp only [Act.put, List.setIfInBounds_toArray, List.set_cons_zero, List.set_cons_succ, i64_w, i32_w]
         rfl
        refine pure_ (i := 4) (N := some 2) (v := ?_) (a' := ?_) #[true, true, true, true, true, false, false] rfl rfl B9x13_ (fun _ _ _ h => h) (Or.inl ⟨by rfl, ?_⟩) ?_ ?_
        rotate_left
        ·intro w'
         go_simp
         with_reducible rfl
        rotate_left
        ·simp only [Act.put, List.setIfInBounds_toArray, List.set_cons_zero, List.set_cons_succ, i64_w, i32_w]
         rfl
        refine one_ (i := 5) (N := none) #[true, true, true, true, true, true, false] rfl rfl B9x13_ (by decide) (fun K hK => ?_)
        have hs75 : w74.cell? ⟨gb415, 0, none⟩ = some (.int .i64 0) := (blk_cell BK415.out 0).trans rfl
        have hfs75 := blk_frozen BK415.out 0
        have hns75_1 := NB433_415.out
        have hms75_1 := NB415_433.out
        have hs76 : w74.cell? ⟨gb415, 1, none⟩ = some (.int .i64 0) := (blk_cell BK415.out 1).trans rfl
        have hfs76 := blk_frozen BK415.out 1
        have hns76_1 := NB433_415.out
        have hms76_1 := NB415_433.out
        have hs77 : w74.cell? ⟨gb415, 2, none⟩ = some (.int .i64 0) := (blk_cell BK415.out 2).trans rfl
        have hfs77 := blk_frozen BK415.out 2
        have hns77_1 := NB433_415.out
        have hms77_1 := NB415_433.out
        have hs78 : w74.cell? ⟨gb415, 3, none⟩ = some (.int .i64 0) := (blk_cell BK415.out 3).trans rfl
        have hfs78 := blk_frozen BK415.out 3
        have hns78_1 := NB433_415.out
        have hms78_1 := NB415_433.out
        have hs79 : w74.cell? ⟨gb415, 4, none⟩ = some (.bool false) := (blk_cell BK415.out 4).trans rfl
        have hfs79 := blk_frozen BK415.out 4
        have hns79_1 := NB433_415.out
        have hms79_1 := NB415_433.out
        have hs80 : w74.cell? ⟨gb415, 5, none⟩ = some (.string (⟨#[]⟩ : ByteArray)) := (blk_cell BK415.out 5).trans rfl
        have hfs80 := blk_frozen BK415.out 5
        have hns80_1 := NB433_415.out
        have hms80_1 := NB415_433.out
        refine skip_ (w1 := ?_) (by rfl) rfl ?_ ?_
        rotate_left
        ·go_simp
         rfl
        refine hK.out _ _ ⟨((cell_far (p := ⟨gb415, _, none⟩) NB433_415.out _).trans (((cell_far (p := ⟨gb415, _, none⟩) NB433_415.out _).trans (((cell_far (p := ⟨gb415, _, none⟩) NB433_415.out _).trans (((cell_far (p := ⟨gb415, _, none⟩) NB433_415.out _).trans (((cell_far (p := ⟨gb415, _, none⟩) NB433_415.out _).trans (((cell_far (p := ⟨gb415, _, none⟩) NB433_415.out _).trans (hHeld.1)))))))))))), ((cell_far (p := ⟨gb415, _, none⟩) NB433_415.out _).trans (((cell_far (p := ⟨gb415, _, none⟩) NB433_415.out _).trans (((cell_far (p := ⟨gb415, _, none⟩) NB433_415.out _).trans (((cell_far (p := ⟨gb415, _, none⟩) NB433_415.out _).trans (((cell_far (p := ⟨gb415, _, none⟩) NB433_415.out _).trans (((cell_far (p := ⟨gb415, _, none⟩) NB433_415.out _).trans (hHeld.2.1)))))))))))), ((cell_far (p := ⟨gb415, _, none⟩) NB433_415.out _).trans (((cell_far (p := ⟨gb415, _, none⟩) NB433_415.out _).trans (((cell_far (p := ⟨gb415, _, none⟩) NB433_415.out _).trans (((cell_far (p := ⟨gb415, _, none⟩) NB433_415.out _).trans (((cell_far (p := ⟨gb415, _, none⟩) NB433_415.out _).trans (((cell_far (p := ⟨gb415, _, none⟩) NB433_415.out _).trans (hHeld.2.2.1)))))))))))), ((cell_far (p := ⟨gb415, _, none⟩) NB433_415.out _).trans (((cell_far (p := ⟨gb415, _, none⟩) NB433_415.out _).trans (((cell_far (p := ⟨gb415, _, none⟩) NB433_415.out _).trans (((cell_far (p := ⟨gb415, _, none⟩) NB433_415.out _).trans (((cell_far (p := ⟨gb415, _, none⟩) NB433_415.out _).trans (((cell_far (p := ⟨gb415, _, none⟩) NB433_415.out _).trans (hHeld.2.2.2.1)))))))))))), ((cell_far (p := ⟨gb415, _, none⟩) NB433_415.out _).trans (((cell_far (p := ⟨gb415, _, none⟩) NB433_415.out _).trans (((cell_far (p := ⟨gb415, _, none⟩) NB433_415.out _).trans (((cell_far (p := ⟨gb415, _, none⟩) NB433_415.out _).trans (((cell_far (p := ⟨gb415, _, none⟩) NB433_415.out _).trans (((cell_far (p := ⟨gb415, _, none⟩) NB433_415.out _).trans (hHeld.2.2.2.2.1)))))))))))), ((cell_far (p := ⟨gb415, _, none⟩) NB433_415.out _).trans (((cell_far (p := ⟨gb415, _, none⟩) NB433_415.out _).trans (((cell_far (p := ⟨gb415, _, none⟩) NB433_415.out _).trans (((cell_far (p := ⟨gb415, _, none⟩) NB433_415.out _).trans (((cell_far (p := ⟨gb415, _, none⟩) NB433_415.out _).trans (((cell_far (p := ⟨gb415, _, none⟩) NB433_415.out _).trans (hHeld.2.2.2.2.2))))))))))))⟩ (fun hHeld => ?_)
        clear hK K
        refine pure_ (i := 6) (N := some 4) (v := ?_) (a' := ?_) #[true, true, true, true, true, true, true] rfl rfl B9x13_ (fun _ _ _ h => h) (Or.inl ⟨by rfl, ?_⟩) ?_ ?_
        rotate_left
        ·intro w'
         go_simp
         with_reducible rfl
        rotate_left
        ·simp only [Act.put, List.setIfInBounds_toArray, List.set_cons_zero, List.set_cons_succ, i64_w, i32_w]
         rfl
        refine done_ B9x13_ ?_
        try go_wp2
        refine bodyPost_ret (results_list (rs := [.tmp 2, .cell 3 62, .tmp 4]) rfl (by simp) (.tmp (.cell gb415 62 #[.int .i64 x434000_21, .int .i64 x434001_21, .int .i64 x434002_21, .int .i64 x434003_21, .bool x434004_21, .string x434005_21] (0, 0) _ rfl B9x16_ Try.underlying62 rfl B9x13_ (.tmp .nil)))) rfl ?_
        exact ⟨_, by first | rfl | (simp [errW_none, errW_some] <;> rfl) | (simp [*, errW_none, errW_some] <;> rfl), by (with_reducible repeat (first | apply Kd.N_alloc | apply Kd.N_drewN | apply Kd.N_drew)); exact Kd.N_mono (Kd.N_far (p := ⟨gb415, 5, none⟩) (Kd.N_far (p := ⟨gb415, 4, none⟩) (Kd.N_far (p := ⟨gb415, 3, none⟩) (Kd.N_far (p := ⟨gb415, 2, none⟩) (Kd.N_far (p := ⟨gb415, 1, none⟩) (Kd.N_far (p := ⟨gb415, 0, none⟩) (Kd.N_mono HO_6.out (fun k_ hk => (⟨hk, hk.2.1⟩ : _ ∧ k_ ≠ gb415))) (fun _ hk => hk.2) (.int .i64 x434000_21)) (fun _ hk => hk.2) (.int .i64 x434001_21)) (fun _ hk => hk.2) (.int .i64 x434002_21)) (fun _ hk => hk.2) (.int .i64 x434003_21)) (fun _ hk => hk.2) (.bool x434004_21)) (fun _ hk => hk.2) (.string x434005_21)) (fun _ hk => hk.1.1), by repeat (first | (with_reducible first | exact HB.out | apply below_alloc | apply pw_below_drewN | apply below_drew1 | refine below_set ?_ (IsS159.ge HI419.out) | refine below_set ?_ GE415.out | refine below_set ?_ GE433.out) | exact HB.out)⟩

end Go.Proofs.Ytmknnoeggkgkgaa.QFnBits
