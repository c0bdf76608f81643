/- Functions that a law reaches, as functions of Lean, and the walks that show that the calls come to their answers: written by a program of this project out of the translation. No condition. -/
import Derived.Test.YtmknnoeggkgkgaaQFnExactJoinBitsx0
import Derived.Test.YtmknnoeggkgkgaaQFnExactJoinBitsx6
import Derived.Test.YtmknnoeggkgkgaaQFnExactJoinBitsx7
import Derived.Test.YtmknnoeggkgkgaaVFnExactJoinBitshort4
import Derived.Test.YtmknnoeggkgkgaaVFnExactJoinBitshort3
import Derived.Test.YtmknnoeggkgkgaaVFnExactJoinBitsShort2
import Derived.Test.YtmknnoeggkgkgaaVFnExactJoinBitsShort
namespace Go.Proofs.Ytmknnoeggkgkgaa.QFnExactJoinBits
open Go.RowKit Go.Proofs.YtmknnoeggkgkgaaW.PrintWords Go.Proofs.YtmknnoeggkgkgaaW.PrintLast Go.Proofs.YtmknnoeggkgkgaaW.PrintMore Go.Proofs.Ytmknnoeggkgkgaa.Short
attribute [local go_sem] max2_int min2_int max_two min_two max_three min_three max_four min_four   -- for this text's walks alone
set_option linter.unusedVariables false
set_option linter.unusedSimpArgs false

theorem B8x0_ {p : Prop} (h : p := by repeat (first | (with_reducible first | exact HB.out | apply below_alloc | apply pw_below_drewN | apply below_drew1 | refine below_set ?_ GE241.out | refine below_set ?_ GE242.out) | exact HB.out)) : p := h
theorem B8x1_ {p : Prop} (h : p := by first | (rw [add_block]; exact (fun e_ => ((HL263_3.out.1 _ e_.symm).2) rfl)) | (show some (Addr.add _ _).block ≠ _; rw [add_block]; exact (fun e_ => ((HL263_3.out.1 _ e_.symm).2) rfl)) | exact (fun e_ => ((HL263_3.out.1 _ e_.symm).2) rfl)) : p := h
theorem B8x2_ {p : Prop} (h : p := by first | (rw [add_block]; exact (fun e_ => ((HL268_2.out.1 _ e_.symm).2) rfl)) | (show some (Addr.add _ _).block ≠ _; rw [add_block]; exact (fun e_ => ((HL268_2.out.1 _ e_.symm).2) rfl)) | exact (fun e_ => ((HL268_2.out.1 _ e_.symm).2) rfl)) : p := h
theorem B8x3_ {p : Prop} (h : p := by first | (with_reducible assumption) | assumption) : p := h
theorem B8x4_ {p : Prop} (h : p := by first | (rw [add_block]; exact Kd.S_lt HO_9.out _ rfl) | (show (Addr.add _ _).block < _; rw [add_block]; exact Kd.S_lt HO_9.out _ rfl) | exact Kd.S_lt HO_9.out _ rfl) : p := h
theorem B8x5_ {p : Prop} (h : p := by (with_reducible repeat (first | refine blk_drewN ?_ _ | refine blk_drew ?_ | refine blk_alloc ?_ _)); exact BK242.out) : p := h
theorem B8x6_ {p : Prop} (h : p := by (with_reducible repeat (first | refine blk_drewN ?_ _ | refine blk_drew ?_ | refine blk_alloc ?_ _)); exact BK241.out) : p := h
theorem B8x7_ {p : Prop} (h : p := by (with_reducible repeat (first | apply Kd.S_alloc | apply Kd.S_drewN | apply Kd.S_drew)); exact HO_9.out) : p := h
theorem B8x8_ {p : Prop} (h : p := by (try simp only [List.map_toArray, List.map_cons, List.map_nil]); first | done | rfl | (simp only [List.length_drop, List.length_take]; rfl)) : p := h
theorem B8x9_ {p : Prop} (h : p := by (repeat (with_reducible (first | exact BK242.out | apply blk_drewN | apply blk_drew | apply blk_alloc | apply blk_put))); repeat (first | exact BK242.out | (simp only [List.setIfInBounds_toArray, List.set_cons_zero, List.set_cons_succ]; with_reducible rfl) | rfl)) : p := h
theorem B8x10_ {p : Prop} (h : p := by repeat (first | (with_reducible exact HR275_2.out) | (with_reducible refine Kd.C_alloc ?_ _) | (with_reducible refine Kd.C_drewN ?_ _) | (with_reducible refine Kd.C_drew ?_) | exact HR275_2.out)) : p := h
theorem B8x11_ {p : Prop} (h : p := by repeat (first | (with_reducible exact HR275_3.out) | (with_reducible refine Kd.C_alloc ?_ _) | (with_reducible refine Kd.C_drewN ?_ _) | (with_reducible refine Kd.C_drew ?_) | exact HR275_3.out)) : p := h
theorem B8x12_ {p : Prop} (h : p := by (with_reducible repeat (first | apply Kd.N_alloc | apply Kd.N_drewN | apply Kd.N_drew)); exact HO_9.out) : p := h
theorem B8x13_ {p : Prop} (h : p := by kernel_rfl) : p := h
theorem B8x14_ {p : Prop} (h : p := by have := HJ4.out; have := HJ21.out; have := HK3.out; have := HJ45.out; have := HK5.out; first | omega | exact Nat.le_refl _) : p := h
theorem B8x15_ {p : Prop} (h : p := by (repeat (with_reducible (first | exact BK241.out | apply blk_drewN | apply blk_drew | apply blk_alloc | apply blk_put | apply bf HNB241_go77.out))); repeat (first | exact BK241.out | (simp only [List.setIfInBounds_toArray, List.set_cons_zero, List.set_cons_succ]; with_reducible rfl) | rfl)) : p := h
theorem B8x16_ {p : Prop} (h : p := by (repeat (with_reducible (first | exact BK242.out | apply blk_drewN | apply blk_drew | apply blk_alloc | apply blk_put | apply bf HNB242_go77.out))); repeat (first | exact BK242.out | (simp only [List.setIfInBounds_toArray, List.set_cons_zero, List.set_cons_succ]; with_reducible rfl) | rfl)) : p := h
theorem B8x17_ {p : Prop} (h : p := by (with_reducible repeat (first | apply Kd.S_alloc | apply Kd.S_drewN | apply Kd.S_drew)); exact Kd.S_mono (Kd.S_types (Kd.S_types HO_9.out BK241.out (by decide)) BK242.out (by decide)) (fun _ hk => ⟨hk.1.1, ⟨hk.1.2, hk.2⟩⟩)) : p := h
theorem B8x18_ {p : Prop} (h : p := by (with_reducible repeat (first | apply Kd.V_alloc | apply Kd.V_drewN | apply Kd.V_drew)); exact HL275_2.out) : p := h
theorem B8x19_ {p : Prop} (h : p := by (with_reducible repeat (first | apply Kd.V_alloc | apply Kd.V_drewN | apply Kd.V_drew)); exact HL275_3.out) : p := h
theorem B8x20_ {p : Prop} (h : p := by exact (fun k_ hk => ⟨(Nat.le_trans (below_size B8x0_) hk), Kd.freshB (g := gb241) (o := .cells #[.int .i64 a1_0, .int .i64 a1_1, .int .i64 a1_2, .int .i64 a1_3, .bool a1_4, .string a1_5] 62 (0, 0)) B8x6_ k_ hk, Kd.freshB (g := gb242) (o := .cells #[.int .i64 0, .int .i64 0, .int .i64 0, .int .i64 0, .bool false, .string (⟨#[]⟩ : ByteArray)] 62 (0, 0)) B8x5_ k_ hk⟩)) : p := h
theorem B8x21_ {p : Prop} (h : p := by (with_reducible repeat (first | apply Kd.V_alloc | apply Kd.V_drewN | apply Kd.V_drew)); exact HO285.out) : p := h
theorem B8x22_ {p : Prop} (h : p := by (with_reducible repeat (first | apply Kd.V_alloc | apply Kd.V_drewN | apply Kd.V_drew)); exact HO293.out) : p := h
theorem B8x23_ {p : Prop} (h : p := by rw [hw]; exact (by (repeat (with_reducible (first | exact BK241.out | apply blk_drewN | apply blk_drew | apply blk_alloc | apply blk_put | apply bf NB241_242.out))); repeat (first | exact BK241.out | (simp only [List.setIfInBounds_toArray, List.set_cons_zero, List.set_cons_succ]; with_reducible rfl) | rfl))) : p := h
theorem B8x24_ {p : Prop} (h : p := by (repeat (with_reducible (first | exact BK241.out | apply blk_drewN | apply blk_drew | apply blk_alloc | apply blk_put | apply bf HNB241_go112.out))); repeat (first | exact BK241.out | (simp only [List.setIfInBounds_toArray, List.set_cons_zero, List.set_cons_succ]; with_reducible rfl) | rfl)) : p := h
theorem B8x25_ {p : Prop} (h : p := by (repeat (with_reducible (first | exact BK242.out | apply blk_drewN | apply blk_drew | apply blk_alloc | apply blk_put | apply bf HNB242_go112.out))); repeat (first | exact BK242.out | (simp only [List.setIfInBounds_toArray, List.set_cons_zero, List.set_cons_succ]; with_reducible rfl) | rfl)) : p := h
theorem B8x26_ {p : Prop} (h : p := by (repeat (with_reducible (first | exact BK241.out | apply blk_drewN | apply blk_drew | apply blk_alloc | apply blk_put | apply bf HNB241_go94.out))); repeat (first | exact BK241.out | (simp only [List.setIfInBounds_toArray, List.set_cons_zero, List.set_cons_succ]; with_reducible rfl) | rfl)) : p := h
theorem B8x27_ {p : Prop} (h : p := by (repeat (with_reducible (first | exact BK242.out | apply blk_drewN | apply blk_drew | apply blk_alloc | apply blk_put | apply bf HNB242_go94.out))); repeat (first | exact BK242.out | (simp only [List.setIfInBounds_toArray, List.set_cons_zero, List.set_cons_succ]; with_reducible rfl) | rfl)) : p := h
theorem B8x28_ {p : Prop} (h : p := by have := HJ4.out; have := HJ21.out; have := HK3.out; first | omega | exact Nat.le_refl _) : p := h
theorem B8x29_ {p : Prop} (h : p := by repeat (first | (with_reducible first | exact HB.out | apply below_alloc | apply pw_below_drewN | apply below_drew1 | refine below_set ?_ GB112.out | refine below_set ?_ GE241.out | refine below_set ?_ GE242.out) | exact HB.out)) : p := h
theorem B8x30_ {p : Prop} (h : p := by repeat (first | (with_reducible first | exact HB.out | apply below_alloc | apply pw_below_drewN | apply below_drew1 | refine below_set ?_ GB77.out | refine below_set ?_ GE241.out | refine below_set ?_ GE242.out) | exact HB.out)) : p := h
theorem B8x31_ {p : Prop} (h : p := by repeat (first | (with_reducible first | exact HB.out | apply below_alloc | apply pw_below_drewN | apply below_drew1 | refine below_set ?_ GB94.out | refine below_set ?_ GE241.out | refine below_set ?_ GE242.out) | exact HB.out)) : p := h
theorem B8x32_ {p : Prop} (h : p := by first | (go_simp; done) | (go_simp; rfl)) : p := h
theorem B8x33_ {p : Prop} (h : p := by exact (below_size B8x0_)) : p := h
theorem B8x34_ {p : Prop} (h : p := by first | exact q248 | exact of_decide_eq_true B8x3_ | (have e_ := (Kd.S_reads' HO_9.out).1; omega)) : p := h
theorem B8x35_ {p : Prop} (h : p := by first | exact q263 | exact of_decide_eq_true B8x3_ | (have e_ := (Kd.S_reads' HO_9.out).1; omega)) : p := h
theorem B8x36_ {p : Prop} (h : p := by first | exact q268 | exact of_decide_eq_true B8x3_ | (have e_ := (Kd.S_reads' HO_9.out).1; omega)) : p := h
theorem B8x37_ {p : Prop} (h : p := by repeat (first | (with_reducible exact HR260_2.out) | (with_reducible refine Kd.C_alloc ?_ _) | (with_reducible refine Kd.C_drewN ?_ _) | (with_reducible refine Kd.C_drew ?_) | exact HR260_2.out)) : p := h
theorem B8x38_ {p : Prop} (h : p := by repeat (first | (with_reducible exact HR260_3.out) | (with_reducible refine Kd.C_alloc ?_ _) | (with_reducible refine Kd.C_drewN ?_ _) | (with_reducible refine Kd.C_drew ?_) | exact HR260_3.out)) : p := h
theorem B8x39_ {p : Prop} (h : p := by repeat (first | (with_reducible exact HR256.out) | (with_reducible refine Kd.C_alloc ?_ _) | (with_reducible refine Kd.C_drewN ?_ _) | (with_reducible refine Kd.C_drew ?_) | exact HR256.out)) : p := h
theorem B8x40_ {p : Prop} (h : p := by repeat (first | exact B8x10_ | (with_reducible refine Kd.C_alloc ?_ _) | (with_reducible refine Kd.C_drewN ?_ _) | (with_reducible refine Kd.C_drew ?_))) : p := h
theorem B8x41_ {p : Prop} (h : p := by repeat (first | exact B8x11_ | (with_reducible refine Kd.C_alloc ?_ _) | (with_reducible refine Kd.C_drewN ?_ _) | (with_reducible refine Kd.C_drew ?_))) : p := h
theorem B8x42_ {p : Prop} (h : p := by (with_reducible repeat (first | apply Kd.S_alloc | apply Kd.S_drewN | apply Kd.S_drew)); exact Kd.S_mono HO_9.out (fun k_ hk => ⟨hk, fun e_ => e_⟩)) : p := h
theorem B8x43_ {p : Prop} (h : p := by rw [e_]; rfl) : p := h
theorem B8x44_ {p : Prop} (h : p := by (with_reducible repeat (first | apply Kd.S_alloc | apply Kd.S_drewN | apply Kd.S_drew)); exact Kd.S_mono HO245.out (fun _ hk => hk.1)) : p := h
theorem B8x45_ {p : Prop} (h : p := by (with_reducible repeat (first | apply Kd.N_alloc | apply Kd.N_drewN | apply Kd.N_drew)); exact HO296.out) : p := h
theorem B8x46_ {p : Prop} (h : p := by (with_reducible repeat (first | apply Kd.S_alloc | apply Kd.S_drewN | apply Kd.S_drew)); exact HO245.out) : p := h
theorem B8x47_ {p : Prop} (h : p := by first | exact q249 | exact of_decide_eq_true B8x3_ | (have e_ := (Kd.S_reads' HO_9.out).1; omega)) : p := h
theorem B8x48_ {p : Prop} (h : p := by first | exact q260 | exact of_decide_eq_true B8x3_ | (have e_ := (Kd.S_reads' HO_9.out).1; omega)) : p := h
theorem B8x49_ {p : Prop} (h : p := by first | exact q273 | exact of_decide_eq_true B8x3_ | (have e_ := (Kd.S_reads' HO_9.out).1; omega)) : p := h
theorem B8x50_ {p : Prop} (h : p := by first | exact q275 | exact of_decide_eq_true B8x3_ | (have e_ := (Kd.N_reads' HO_9.out).1; omega)) : p := h
theorem B8x51_ {p : Prop} (h : p := by rw [hy142, hc142]; exact Nat.sub_le_sub_right hroom142 _) : p := h
theorem B8x52_ {p : Prop} (h : p := by have := HJ4.out; first | omega | exact Nat.le_refl _) : p := h
/-! ### spec_JoinBits: function 48 -/
mutual
def spec_JoinBits.j0 : Nat → Int → List (S82) → Bool → Int → Int → Int → Int → Bool → ByteArray → Option ((List (S82)) × Int × Int × Int × Int × Bool × ByteArray × Bool)
 | 0, _, _, _, _, _, _, _, _, _ => none
 | k + 1, x2, x9, x26, x242000, x242001, x242002, x242003, x242004, x242005 => if x26 = true then (some (x9, 0, 0, 0, 0, false, (⟨#[]⟩ : ByteArray), false)) else (if x242003 = 0 then (spec_JoinBits.j1 k x2 x9 (!x242004) x242000 x242001 x242002 x242003 x242004 x242005) else (spec_JoinBits.j1 k x2 x9 false x242000 x242001 x242002 x242003 x242004 x242005))
def spec_JoinBits.j1 : Nat → Int → List (S82) → Bool → Int → Int → Int → Int → Bool → ByteArray → Option ((List (S82)) × Int × Int × Int × Int × Bool × ByteArray × Bool)
 | 0, _, _, _, _, _, _, _, _, _ => none
 | k + 1, x2, x9, x36, x242000, x242001, x242002, x242003, x242004, x242005 => if x36 = true then (some (x9, x242000, x242001, x242002, x242003, x242004, x242005, true)) else (spec_JoinBits.l0 k x2 x9 (-1) (wrap64 ((x9.length : Int) - 1)) x242000 x242001 x242002 x242003 x242004 x242005)
def spec_JoinBits.l0 : Nat → Int → List (S82) → Int → Int → Int → Int → Int → Int → Bool → ByteArray → Option ((List (S82)) × Int × Int × Int × Int × Bool × ByteArray × Bool)
 | 0, _, _, _, _, _, _, _, _, _, _ => none
 | k + 1, x2, x9, x10, x11, x242000, x242001, x242002, x242003, x242004, x242005 => if x11 ≥ 0 then (if 0 ≤ x11 then (if x11 < (x9.length : Int) then (if ((rd_T82 x9 x11).f0) = x242000 then (if ((rd_T82 x9 x11).f1) = x242002 then (spec_JoinBits.j3 k x2 x9 x11 x11 x242000 x242001 x242002 x242003 x242004 x242005) else (spec_JoinBits.j3 k x2 x9 x10 x11 x242000 x242001 x242002 x242003 x242004 x242005)) else (spec_JoinBits.j3 k x2 x9 x10 x11 x242000 x242001 x242002 x242003 x242004 x242005)) else (none)) else (none)) else (if x10 < 0 then (if x9.length < 1759218604441 then (spec_JoinBits.l1 k (x9 ++ [(⟨x242000, x242002, ([] : List ByteArray), ([] : List Int), 0, wrap64 (x2 + 10)⟩ : S82)]) x242000 x242001 x242002 x242003 x242004 x242005) else (none)) else (spec_JoinBits.j5 k x9 x10 x242000 x242001 x242002 x242003 x242004 x242005))
def spec_JoinBits.j3 : Nat → Int → List (S82) → Int → Int → Int → Int → Int → Int → Bool → ByteArray → Option ((List (S82)) × Int × Int × Int × Int × Bool × ByteArray × Bool)
 | 0, _, _, _, _, _, _, _, _, _, _ => none
 | k + 1, x2, x9, x10, x11, x242000, x242001, x242002, x242003, x242004, x242005 => spec_JoinBits.l0 k x2 x9 x10 (wrap64 (x11 - 1)) x242000 x242001 x242002 x242003 x242004 x242005
def spec_JoinBits.j5 : Nat → List (S82) → Int → Int → Int → Int → Int → Bool → ByteArray → Option ((List (S82)) × Int × Int × Int × Int × Bool × ByteArray × Bool)
 | 0, _, _, _, _, _, _, _, _ => none
 | k + 1, x9, x10, x242000, x242001, x242002, x242003, x242004, x242005 => spec_JoinBits.l2 k x9 x10 false 0 x242000 x242001 x242002 x242003 x242004 x242005
def spec_JoinBits.l2 : Nat → List (S82) → Int → Bool → Int → Int → Int → Int → Int → Bool → ByteArray → Option ((List (S82)) × Int × Int × Int × Int × Bool × ByteArray × Bool)
 | 0, _, _, _, _, _, _, _, _, _, _ => none
 | k + 1, x9, x10, x12, x13, x242000, x242001, x242002, x242003, x242004, x242005 => if 0 ≤ x10 then (if x10 < (x9.length : Int) then (if x13 < (((rd_T82 x9 x10).f3).length : Int) then (if x12 = true then (spec_JoinBits.j7 k x9 x10 true x13 x242000 x242001 x242002 x242003 x242004 x242005) else (if 0 ≤ x13 then (spec_JoinBits.j7 k x9 x10 ((rd ((rd_T82 x9 x10).f3) x13) == x242003) x13 x242000 x242001 x242002 x242003 x242004 x242005) else (none))) else (if x12 = true then (spec_JoinBits.j8 k x9 x10 x242000 x242001 x242002 x242003 x242004 x242005) else (if ((rd_T82 x9 x10).f3).length < 17592186044416 then ((some (x9.set (x10 : Int).toNat (⟨(rd_T82 x9 x10).f0, (rd_T82 x9 x10).f1, (rd_T82 x9 x10).f2, (((rd_T82 x9 x10).f3) ++ [x242003]), (rd_T82 x9 x10).f4, (rd_T82 x9 x10).f5⟩ : S82) : List (S82))).bind fun y267 => (if ((rd_T82 y267 x10).f2).length < 8796093022208 then ((some (y267.set (x10 : Int).toNat (⟨(rd_T82 y267 x10).f0, (rd_T82 y267 x10).f1, (((rd_T82 y267 x10).f2) ++ [x242005]), (rd_T82 y267 x10).f3, (rd_T82 y267 x10).f4, (rd_T82 y267 x10).f5⟩ : S82) : List (S82))).bind fun y272 => (if x242004 = true then (spec_JoinBits.j8 k y272 x10 x242000 x242001 x242002 x242003 x242004 x242005) else (if ((rd_T82 y272 x10).f4) = 0 then (spec_JoinBits.j8 k (y272.set (x10 : Int).toNat (⟨(rd_T82 y272 x10).f0, (rd_T82 y272 x10).f1, (rd_T82 y272 x10).f2, (rd_T82 y272 x10).f3, wrap64 (x242003 + (x242005.size : Int)), (rd_T82 y272 x10).f5⟩ : S82)) x10 x242000 x242001 x242002 x242003 x242004 x242005) else (spec_JoinBits.j8 k y272 x10 x242000 x242001 x242002 x242003 x242004 x242005)))) else (none))) else (none)))) else (none)) else (none)
def spec_JoinBits.j7 : Nat → List (S82) → Int → Bool → Int → Int → Int → Int → Int → Bool → ByteArray → Option ((List (S82)) × Int × Int × Int × Int × Bool × ByteArray × Bool)
 | 0, _, _, _, _, _, _, _, _, _, _ => none
 | k + 1, x9, x10, x12, x13, x242000, x242001, x242002, x242003, x242004, x242005 => spec_JoinBits.l2 k x9 x10 x12 (wrap64 (x13 + 1)) x242000 x242001 x242002 x242003 x242004 x242005
def spec_JoinBits.j8 : Nat → List (S82) → Int → Int → Int → Int → Int → Bool → ByteArray → Option ((List (S82)) × Int × Int × Int × Int × Bool × ByteArray × Bool)
 | 0, _, _, _, _, _, _, _, _ => none
 | k + 1, x9, x10, x242000, x242001, x242002, x242003, x242004, x242005 => if 0 ≤ x10 then (if x10 < (x9.length : Int) then ((spec_l11Whole.f k ((rd_T82 x9 x10).f0) ((rd_T82 x9 x10).f1) ((rd_T82 x9 x10).f2) ((rd_T82 x9 x10).f3) ((rd_T82 x9 x10).f4) ((rd_T82 x9 x10).f5)).bind fun bt276 => (if bt276.2 = true then ((some (([] : List (S82)) : List (S82))).bind fun y278 => (if x10 ≤ (x9.length : Int) then ((some (x9.take (x10 : Int).toNat : List (S82))).bind fun y281 => (if y278.length + y281.length < 1759218604441 then ((some (y278 ++ y281 : List (S82))).bind fun y286 => (if 0 ≤ (wrap64 (x10 + 1)) then (if (wrap64 (x10 + 1)) ≤ (x9.length : Int) then ((some (x9.drop ((wrap64 (x10 + 1)) : Int).toNat : List (S82))).bind fun y289 => (if y286.length + y289.length < 1759218604441 then ((spec_l11CopyBits.f k (y286 ++ y289)).bind fun t297 => (some (t297, x242000, x242001, x242002, 0, false, bt276.1, true))) else (none))) else (none)) else (none))) else (none))) else (none))) else (some (x9, 0, 0, 0, 0, false, (⟨#[]⟩ : ByteArray), false)))) else (none)) else (none)
def spec_JoinBits.l1 : Nat → List (S82) → Int → Int → Int → Int → Bool → ByteArray → Option ((List (S82)) × Int × Int × Int × Int × Bool × ByteArray × Bool)
 | 0, _, _, _, _, _, _, _ => none
 | k + 1, x9, x242000, x242001, x242002, x242003, x242004, x242005 => if (x9.length : Int) > 3 then (if 1 ≤ (x9.length : Int) then ((spec_l11CopyBits.f k (x9.drop 1)).bind fun t257 => (spec_JoinBits.l1 k t257 x242000 x242001 x242002 x242003 x242004 x242005)) else (none)) else (spec_JoinBits.j5 k x9 (wrap64 ((x9.length : Int) - 1)) x242000 x242001 x242002 x242003 x242004 x242005)
end
def spec_JoinBits.f (k : Nat) (l0 : List (S82)) (a1_0 : Int) (a1_1 : Int) (a1_2 : Int) (a1_3 : Int) (a1_4 : Bool) (a1_5 : ByteArray) (a2 : Int) : Option ((List (S82)) × Int × Int × Int × Int × Bool × ByteArray × Bool) := (spec_l11CopyBits.f k l0).bind fun t243 => ((spec_DgramOk.f a1_0 a1_1 a1_2 a1_3 a1_4 a1_5).bind fun t246 => (if t246 = true then ((spec_l01In.f a2 0 999999990).bind fun t247 => (spec_JoinBits.j0 k a2 t243 (!t247) a1_0 a1_1 a1_2 a1_3 a1_4 a1_5)) else (spec_JoinBits.j0 k a2 t243 true a1_0 a1_1 a1_2 a1_3 a1_4 a1_5)))
theorem spec_JoinBits.mono_l : ∀ k, (∀ y0 y1 y2 y3 y4 y5 y6 y7 y8, LeO (spec_JoinBits.j0 k y0 y1 y2 y3 y4 y5 y6 y7 y8) (spec_JoinBits.j0 (k + 1) y0 y1 y2 y3 y4 y5 y6 y7 y8)) ∧ (∀ y0 y1 y2 y3 y4 y5 y6 y7 y8, LeO (spec_JoinBits.j1 k y0 y1 y2 y3 y4 y5 y6 y7 y8) (spec_JoinBits.j1 (k + 1) y0 y1 y2 y3 y4 y5 y6 y7 y8)) ∧ (∀ y0 y1 y2 y3 y4 y5 y6 y7 y8 y9, LeO (spec_JoinBits.l0 k y0 y1 y2 y3 y4 y5 y6 y7 y8 y9) (spec_JoinBits.l0 (k + 1) y0 y1 y2 y3 y4 y5 y6 y7 y8 y9)) ∧ (∀ y0 y1 y2 y3 y4 y5 y6 y7 y8 y9, LeO (spec_JoinBits.j3 k y0 y1 y2 y3 y4 y5 y6 y7 y8 y9) (spec_JoinBits.j3 (k + 1) y0 y1 y2 y3 y4 y5 y6 y7 y8 y9)) ∧ (∀ y0 y1 y2 y3 y4 y5 y6 y7, LeO (spec_JoinBits.j5 k y0 y1 y2 y3 y4 y5 y6 y7) (spec_JoinBits.j5 (k + 1) y0 y1 y2 y3 y4 y5 y6 y7)) ∧ (∀ y0 y1 y2 y3 y4 y5 y6 y7 y8 y9, LeO (spec_JoinBits.l2 k y0 y1 y2 y3 y4 y5 y6 y7 y8 y9) (spec_JoinBits.l2 (k + 1) y0 y1 y2 y3 y4 y5 y6 y7 y8 y9)) ∧ (∀ y0 y1 y2 y3 y4 y5 y6 y7 y8 y9, LeO (spec_JoinBits.j7 k y0 y1 y2 y3 y4 y5 y6 y7 y8 y9) (spec_JoinBits.j7 (k + 1) y0 y1 y2 y3 y4 y5 y6 y7 y8 y9)) ∧ (∀ y0 y1 y2 y3 y4 y5 y6 y7, LeO (spec_JoinBits.j8 k y0 y1 y2 y3 y4 y5 y6 y7) (spec_JoinBits.j8 (k + 1) y0 y1 y2 y3 y4 y5 y6 y7)) ∧ (∀ y0 y1 y2 y3 y4 y5 y6, LeO (spec_JoinBits.l1 k y0 y1 y2 y3 y4 y5 y6) (spec_JoinBits.l1 (k + 1) y0 y1 y2 y3 y4 y5 y6))
 | 0 => ⟨fun _ _ _ _ _ _ _ _ _ r h => by simp [spec_JoinBits.j0] at h, fun _ _ _ _ _ _ _ _ _ r h => by simp [spec_JoinBits.j1] at h, fun _ _ _ _ _ _ _ _ _ _ r h => by simp [spec_JoinBits.l0] at h, fun _ _ _ _ _ _ _ _ _ _ r h => by simp [spec_JoinBits.j3] at h, fun _ _ _ _ _ _ _ _ r h => by simp [spec_JoinBits.j5] at h, fun _ _ _ _ _ _ _ _ _ _ r h => by simp [spec_JoinBits.l2] at h, fun _ _ _ _ _ _ _ _ _ _ r h => by simp [spec_JoinBits.j7] at h, fun _ _ _ _ _ _ _ _ r h => by simp [spec_JoinBits.j8] at h, fun _ _ _ _ _ _ _ r h => by simp [spec_JoinBits.l1] at h⟩
 | k + 1 => by
  obtain ⟨ih0, ih1, ih2, ih3, ih4, ih5, ih6, ih7, ih8⟩ := spec_JoinBits.mono_l k
  refine ⟨?_, ?_, ?_, ?_, ?_, ?_, ?_, ?_, ?_⟩
  ·intro y0 y1 y2 y3 y4 y5 y6 y7 y8
   unfold spec_JoinBits.j0
   repeat' first
   | (with_reducible exact ih0 _ _ _ _ _ _ _ _ _)
   | (with_reducible exact ih1 _ _ _ _ _ _ _ _ _)
   | (with_reducible exact ih2 _ _ _ _ _ _ _ _ _ _)
   | (with_reducible exact ih3 _ _ _ _ _ _ _ _ _ _)
   | (with_reducible exact ih4 _ _ _ _ _ _ _ _)
   | (with_reducible exact ih5 _ _ _ _ _ _ _ _ _ _)
   | (with_reducible exact ih6 _ _ _ _ _ _ _ _ _ _)
   | (with_reducible exact ih7 _ _ _ _ _ _ _ _)
   | (with_reducible exact ih8 _ _ _ _ _ _ _)
   | (with_reducible exact spec_l11CopyBits.mono _ _)
   | (with_reducible exact spec_l11Whole.mono _ _ _ _ _ _ _)
   | (with_reducible first | exact LeO.refl _ | exact LeO.none _ | refine LeO.ite ?_ ?_ | refine LeO.bind ?_ (fun _ => ?_))
   | exact ih0 _ _ _ _ _ _ _ _ _
   | exact ih1 _ _ _ _ _ _ _ _ _
   | exact ih2 _ _ _ _ _ _ _ _ _ _
   | exact ih3 _ _ _ _ _ _ _ _ _ _
   | exact ih4 _ _ _ _ _ _ _ _
   | exact ih5 _ _ _ _ _ _ _ _ _ _
   | exact ih6 _ _ _ _ _ _ _ _ _ _
   | exact ih7 _ _ _ _ _ _ _ _
   | exact ih8 _ _ _ _ _ _ _
   | exact spec_l11CopyBits.mono _ _
   | exact spec_l11Whole.mono _ _ _ _ _ _ _
  ·intro y0 y1 y2 y3 y4 y5 y6 y7 y8
   unfold spec_JoinBits.j1
   repeat' first
   | (with_reducible exact ih0 _ _ _ _ _ _ _ _ _)
   | (with_reducible exact ih1 _ _ _ _ _ _ _ _ _)
   | (with_reducible exact ih2 _ _ _ _ _ _ _ _ _ _)
   | (with_reducible exact ih3 _ _ _ _ _ _ _ _ _ _)
   | (with_reducible exact ih4 _ _ _ _ _ _ _ _)
   | (with_reducible exact ih5 _ _ _ _ _ _ _ _ _ _)
   | (with_reducible exact ih6 _ _ _ _ _ _ _ _ _ _)
   | (with_reducible exact ih7 _ _ _ _ _ _ _ _)
   | (with_reducible exact ih8 _ _ _ _ _ _ _)
   | (with_reducible exact spec_l11CopyBits.mono _ _)
   | (with_reducible exact spec_l11Whole.mono _ _ _ _ _ _ _)
   | (with_reducible first | exact LeO.refl _ | exact LeO.none _ | refine LeO.ite ?_ ?_ | refine LeO.bind ?_ (fun _ => ?_))
   | exact ih0 _ _ _ _ _ _ _ _ _
   | exact ih1 _ _ _ _ _ _ _ _ _
   | exact ih2 _ _ _ _ _ _ _ _ _ _
   | exact ih3 _ _ _ _ _ _ _ _ _ _
   | exact ih4 _ _ _ _ _ _ _ _
   | exact ih5 _ _ _ _ _ _ _ _ _ _
   | exact ih6 _ _ _ _ _ _ _ _ _ _
   | exact ih7 _ _ _ _ _ _ _ _
   | exact ih8 _ _ _ _ _ _ _
   | exact spec_l11CopyBits.mono _ _
   | exact spec_l11Whole.mono _ _ _ _ _ _ _
  ·intro y0 y1 y2 y3 y4 y5 y6 y7 y8 y9
   unfold spec_JoinBits.l0
   repeat' first
   | (with_reducible exact ih0 _ _ _ _ _ _ _ _ _)
   | (with_reducible exact ih1 _ _ _ _ _ _ _ _ _)
   | (with_reducible exact ih2 _ _ _ _ _ _ _ _ _ _)
   | (with_reducible exact ih3 _ _ _ _ _ _ _ _ _ _)
   | (with_reducible exact ih4 _ _ _ _ _ _ _ _)
   | (with_reducible exact ih5 _ _ _ _ _ _ _ _ _ _)
   | (with_reducible exact ih6 _ _ _ _ _ _ _ _ _ _)
   | (with_reducible exact ih7 _ _ _ _ _ _ _ _)
   | (with_reducible exact ih8 _ _ _ _ _ _ _)
   | (with_reducible exact spec_l11CopyBits.mono _ _)
   | (with_reducible exact spec_l11Whole.mono _ _ _ _ _ _ _)
   | (with_reducible first | exact LeO.refl _ | exact LeO.none _ | refine LeO.ite ?_ ?_ | refine LeO.bind ?_ (fun _ => ?_))
   | exact ih0 _ _ _ _ _ _ _ _ _
   | exact ih1 _ _ _ _ _ _ _ _ _
   | exact ih2 _ _ _ _ _ _ _ _ _ _
   | exact ih3 _ _ _ _ _ _ _ _ _ _
   | exact ih4 _ _ _ _ _ _ _ _
   | exact ih5 _ _ _ _ _ _ _ _ _ _
   | exact ih6 _ _ _ _ _ _ _ _ _ _
   | exact ih7 _ _ _ _ _ _ _ _
   | exact ih8 _ _ _ _ _ _ _
   | exact spec_l11CopyBits.mono _ _
   | exact spec_l11Whole.mono _ _ _ _ _ _ _
  ·intro y0 y1 y2 y3 y4 y5 y6 y7 y8 y9
   unfold spec_JoinBits.j3
   repeat' first
   | (with_reducible exact ih0 _ _ _ _ _ _ _ _ _)
   | (with_reducible exact ih1 _ _ _ _ _ _ _ _ _)
   | (with_reducible exact ih2 _ _ _ _ _ _ _ _ _ _)
   | (with_reducible exact ih3 _ _ _ _ _ _ _ _ _ _)
   | (with_reducible exact ih4 _ _ _ _ _ _ _ _)
   | (with_reducible exact ih5 _ _ _ _ _ _ _ _ _ _)
   | (with_reducible exact ih6 _ _ _ _ _ _ _ _ _ _)
   | (with_reducible exact ih7 _ _ _ _ _ _ _ _)
   | (with_reducible exact ih8 _ _ _ _ _ _ _)
   | (with_reducible exact spec_l11CopyBits.mono _ _)
   | (with_reducible exact spec_l11Whole.mono _ _ _ _ _ _ _)
   | (with_reducible first | exact LeO.refl _ | exact LeO.none _ | refine LeO.ite ?_ ?_ | refine LeO.bind ?_ (fun _ => ?_))
   | exact ih0 _ _ _ _ _ _ _ _ _
   | exact ih1 _ _ _ _ _ _ _ _ _
   | exact ih2 _ _ _ _ _ _ _ _ _ _
   | exact ih3 _ _ _ _ _ _ _ _ _ _
   | exact ih4 _ _ _ _ _ _ _ _
   | exact ih5 _ _ _ _ _ _ _ _ _ _
   | exact ih6 _ _ _ _ _ _ _ _ _ _
   | exact ih7 _ _ _ _ _ _ _ _
   | exact ih8 _ _ _ _ _ _ _
   | exact spec_l11CopyBits.mono _ _
   | exact spec_l11Whole.mono _ _ _ _ _ _ _
  ·intro y0 y1 y2 y3 y4 y5 y6 y7
   unfold spec_JoinBits.j5
   repeat' first
   | (with_reducible exact ih0 _ _ _ _ _ _ _ _ _)
   | (with_reducible exact ih1 _ _ _ _ _ _ _ _ _)
   | (with_reducible exact ih2 _ _ _ _ _ _ _ _ _ _)
   | (with_reducible exact ih3 _ _ _ _ _ _ _ _ _ _)
   | (with_reducible exact ih4 _ _ _ _ _ _ _ _)
   | (with_reducible exact ih5 _ _ _ _ _ _ _ _ _ _)
   | (with_reducible exact ih6 _ _ _ _ _ _ _ _ _ _)
   | (with_reducible exact ih7 _ _ _ _ _ _ _ _)
   | (with_reducible exact ih8 _ _ _ _ _ _ _)
   | (with_reducible exact spec_l11CopyBits.mono _ _)
   | (with_reducible exact spec_l11Whole.mono _ _ _ _ _ _ _)
   | (with_reducible first | exact LeO.refl _ | exact LeO.none _ | refine LeO.ite ?_ ?_ | refine LeO.bind ?_ (fun _ => ?_))
   | exact ih0 _ _ _ _ _ _ _ _ _
   | exact ih1 _ _ _ _ _ _ _ _ _
   | exact ih2 _ _ _ _ _ _ _ _ _ _
   | exact ih3 _ _ _ _ _ _ _ _ _ _
   | exact ih4 _ _ _ _ _ _ _ _
   | exact ih5 _ _ _ _ _ _ _ _ _ _
   | exact ih6 _ _ _ _ _ _ _ _ _ _
   | exact ih7 _ _ _ _ _ _ _ _
   | exact ih8 _ _ _ _ _ _ _
   | exact spec_l11CopyBits.mono _ _
   | exact spec_l11Whole.mono _ _ _ _ _ _ _
  ·intro y0 y1 y2 y3 y4 y5 y6 y7 y8 y9
   unfold spec_JoinBits.l2
   repeat' first
   | (with_reducible exact ih0 _ _ _ _ _ _ _ _ _)
   | (with_reducible exact ih1 _ _ _ _ _ _ _ _ _)
   | (with_reducible exact ih2 _ _ _ _ _ _ _ _ _ _)
   | (with_reducible exact ih3 _ _ _ _ _ _ _ _ _ _)
   | (with_reducible exact ih4 _ _ _ _ _ _ _ _)
   | (with_reducible exact ih5 _ _ _ _ _ _ _ _ _ _)
   | (with_reducible exact ih6 _ _ _ _ _ _ _ _ _ _)
   | (with_reducible exact ih7 _ _ _ _ _ _ _ _)
   | (with_reducible exact ih8 _ _ _ _ _ _ _)
   | (with_reducible exact spec_l11CopyBits.mono _ _)
   | (with_reducible exact spec_l11Whole.mono _ _ _ _ _ _ _)
   | (with_reducible first | exact LeO.refl _ | exact LeO.none _ | refine LeO.ite ?_ ?_ | refine LeO.bind ?_ (fun _ => ?_))
   | exact ih0 _ _ _ _ _ _ _ _ _
   | exact ih1 _ _ _ _ _ _ _ _ _
   | exact ih2 _ _ _ _ _ _ _ _ _ _
   | exact ih3 _ _ _ _ _ _ _ _ _ _
   | exact ih4 _ _ _ _ _ _ _ _
   | exact ih5 _ _ _ _ _ _ _ _ _ _
   | exact ih6 _ _ _ _ _ _ _ _ _ _
   | exact ih7 _ _ _ _ _ _ _ _
   | exact ih8 _ _ _ _ _ _ _
   | exact spec_l11CopyBits.mono _ _
   | exact spec_l11Whole.mono _ _ _ _ _ _ _
  ·intro y0 y1 y2 y3 y4 y5 y6 y7 y8 y9
   unfold spec_JoinBits.j7
   repeat' first
   | (with_reducible exact ih0 _ _ _ _ _ _ _ _ _)
   | (with_reducible exact ih1 _ _ _ _ _ _ _ _ _)
   | (with_reducible exact ih2 _ _ _ _ _ _ _ _ _ _)
   | (with_reducible exact ih3 _ _ _ _ _ _ _ _ _ _)
   | (with_reducible exact ih4 _ _ _ _ _ _ _ _)
   | (with_reducible exact ih5 _ _ _ _ _ _ _ _ _ _)
   | (with_reducible exact ih6 _ _ _ _ _ _ _ _ _ _)
   | (with_reducible exact ih7 _ _ _ _ _ _ _ _)
   | (with_reducible exact ih8 _ _ _ _ _ _ _)
   | (with_reducible exact spec_l11CopyBits.mono _ _)
   | (with_reducible exact spec_l11Whole.mono _ _ _ _ _ _ _)
   | (with_reducible first | exact LeO.refl _ | exact LeO.none _ | refine LeO.ite ?_ ?_ | refine LeO.bind ?_ (fun _ => ?_))
   | exact ih0 _ _ _ _ _ _ _ _ _
   | exact ih1 _ _ _ _ _ _ _ _ _
   | exact ih2 _ _ _ _ _ _ _ _ _ _
   | exact ih3 _ _ _ _ _ _ _ _ _ _
   | exact ih4 _ _ _ _ _ _ _ _
   | exact ih5 _ _ _ _ _ _ _ _ _ _
   | exact ih6 _ _ _ _ _ _ _ _ _ _
   | exact ih7 _ _ _ _ _ _ _ _
   | exact ih8 _ _ _ _ _ _ _
   | exact spec_l11CopyBits.mono _ _
   | exact spec_l11Whole.mono _ _ _ _ _ _ _
  ·intro y0 y1 y2 y3 y4 y5 y6 y7
   unfold spec_JoinBits.j8
   repeat' first
   | (with_reducible exact ih0 _ _ _ _ _ _ _ _ _)
   | (with_reducible exact ih1 _ _ _ _ _ _ _ _ _)
   | (with_reducible exact ih2 _ _ _ _ _ _ _ _ _ _)
   | (with_reducible exact ih3 _ _ _ _ _ _ _ _ _ _)
   | (with_reducible exact ih4 _ _ _ _ _ _ _ _)
   | (with_reducible exact ih5 _ _ _ _ _ _ _ _ _ _)
   | (with_reducible exact ih6 _ _ _ _ _ _ _ _ _ _)
   | (with_reducible exact ih7 _ _ _ _ _ _ _ _)
   | (with_reducible exact ih8 _ _ _ _ _ _ _)
   | (with_reducible exact spec_l11CopyBits.mono _ _)
   | (with_reducible exact spec_l11Whole.mono _ _ _ _ _ _ _)
   | (with_reducible first | exact LeO.refl _ | exact LeO.none _ | refine LeO.ite ?_ ?_ | refine LeO.bind ?_ (fun _ => ?_))
   | exact ih0 _ _ _ _ _ _ _ _ _
   | exact ih1 _ _ _ _ _ _ _ _ _
   | exact ih2 _ _ _ _ _ _ _ _ _ _
   | exact ih3 _ _ _ _ _ _ _ _ _ _
   | exact ih4 _ _ _ _ _ _ _ _
   | exact ih5 _ _ _ _ _ _ _ _ _ _
   | exact ih6 _ _ _ _ _ _ _ _ _ _
   | exact ih7 _ _ _ _ _ _ _ _
   | exact ih8 _ _ _ _ _ _ _
   | exact spec_l11CopyBits.mono _ _
   | exact spec_l11Whole.mono _ _ _ _ _ _ _
  ·intro y0 y1 y2 y3 y4 y5 y6
   unfold spec_JoinBits.l1
   repeat' first
   | (with_reducible exact ih0 _ _ _ _ _ _ _ _ _)
   | (with_reducible exact ih1 _ _ _ _ _ _ _ _ _)
   | (with_reducible exact ih2 _ _ _ _ _ _ _ _ _ _)
   | (with_reducible exact ih3 _ _ _ _ _ _ _ _ _ _)
   | (with_reducible exact ih4 _ _ _ _ _ _ _ _)
   | (with_reducible exact ih5 _ _ _ _ _ _ _ _ _ _)
   | (with_reducible exact ih6 _ _ _ _ _ _ _ _ _ _)
   | (with_reducible exact ih7 _ _ _ _ _ _ _ _)
   | (with_reducible exact ih8 _ _ _ _ _ _ _)
   | (with_reducible exact spec_l11CopyBits.mono _ _)
   | (with_reducible exact spec_l11Whole.mono _ _ _ _ _ _ _)
   | (with_reducible first | exact LeO.refl _ | exact LeO.none _ | refine LeO.ite ?_ ?_ | refine LeO.bind ?_ (fun _ => ?_))
   | exact ih0 _ _ _ _ _ _ _ _ _
   | exact ih1 _ _ _ _ _ _ _ _ _
   | exact ih2 _ _ _ _ _ _ _ _ _ _
   | exact ih3 _ _ _ _ _ _ _ _ _ _
   | exact ih4 _ _ _ _ _ _ _ _
   | exact ih5 _ _ _ _ _ _ _ _ _ _
   | exact ih6 _ _ _ _ _ _ _ _ _ _
   | exact ih7 _ _ _ _ _ _ _ _
   | exact ih8 _ _ _ _ _ _ _
   | exact spec_l11CopyBits.mono _ _
   | exact spec_l11Whole.mono _ _ _ _ _ _ _
theorem spec_JoinBits.mono : ∀ a0 a1 a2 a3 a4 a5 a6 a7 k, LeO (spec_JoinBits.f k a0 a1 a2 a3 a4 a5 a6 a7) (spec_JoinBits.f (k + 1) a0 a1 a2 a3 a4 a5 a6 a7) := by
 intro a0 a1 a2 a3 a4 a5 a6 a7 k
 obtain ⟨ih0, ih1, ih2, ih3, ih4, ih5, ih6, ih7, ih8⟩ := spec_JoinBits.mono_l k
 unfold spec_JoinBits.f
 repeat' first
   | (with_reducible exact ih0 _ _ _ _ _ _ _ _ _)
   | (with_reducible exact ih1 _ _ _ _ _ _ _ _ _)
   | (with_reducible exact ih2 _ _ _ _ _ _ _ _ _ _)
   | (with_reducible exact ih3 _ _ _ _ _ _ _ _ _ _)
   | (with_reducible exact ih4 _ _ _ _ _ _ _ _)
   | (with_reducible exact ih5 _ _ _ _ _ _ _ _ _ _)
   | (with_reducible exact ih6 _ _ _ _ _ _ _ _ _ _)
   | (with_reducible exact ih7 _ _ _ _ _ _ _ _)
   | (with_reducible exact ih8 _ _ _ _ _ _ _)
   | (with_reducible exact spec_l11CopyBits.mono _ _)
   | (with_reducible exact spec_l11Whole.mono _ _ _ _ _ _ _)
   | (with_reducible first | exact LeO.refl _ | exact LeO.none _ | refine LeO.ite ?_ ?_ | refine LeO.bind ?_ (fun _ => ?_))
   | exact ih0 _ _ _ _ _ _ _ _ _
   | exact ih1 _ _ _ _ _ _ _ _ _
   | exact ih2 _ _ _ _ _ _ _ _ _ _
   | exact ih3 _ _ _ _ _ _ _ _ _ _
   | exact ih4 _ _ _ _ _ _ _ _
   | exact ih5 _ _ _ _ _ _ _ _ _ _
   | exact ih6 _ _ _ _ _ _ _ _ _ _
   | exact ih7 _ _ _ _ _ _ _ _
   | exact ih8 _ _ _ _ _ _ _
   | exact spec_l11CopyBits.mono _ _
   | exact spec_l11Whole.mono _ _ _ _ _ _ _
def spec_JoinBits.T10 : Bool × List (List Nat × List Nat) := (true, [([], []), ([], []), ([0, 1], [0, 1]), ([2], [2]), ([3], [3]), ([], []), ([5], [5]), ([4, 6], [4, 6]), ([7], [7]), ([8], [8]), ([8], [8]), ([9, 10, 8], [8, 9, 10]), ([11, 8], [8, 11]), ([12, 8], [8, 12]), ([8], [8]), ([14, 8], [8, 14]), ([13, 15, 8], [8, 13, 15]), ([8, 16], [8, 16])])
def spec_JoinBits.B10 : List Nat := [0, 0, 3, 7, 15, 0, 32, 127, 255, 511, 511, 2047, 4095, 8191, 511, 16895, 65535, 131071]
theorem spec_JoinBits.tab10 : rtab .any (opsOf Try.f48 10) = spec_JoinBits.T10 := by kernel_rfl
theorem spec_JoinBits.bits10 : waitsOk spec_JoinBits.T10.2 spec_JoinBits.B10 = true := by kernel_rfl
def spec_JoinBits.T21 : Bool × List (List Nat × List Nat) := (true, [([], []), ([0], [0]), ([1], [1]), ([1], [1]), ([2, 3, 1], [1, 2, 3]), ([4, 1], [1, 4]), ([5, 1], [1, 5]), ([1], [1]), ([6, 7, 1], [1, 6, 7]), ([8, 1], [1, 8]), ([1], [1]), ([10, 1], [1, 10]), ([9, 11, 1], [1, 9, 11]), ([1, 12], [1, 12]), ([13, 1, 0, 1, 2, 3, 4, 5, 6, 7, 8, 9, 10, 11, 12, 13], [0, 13])])
def spec_JoinBits.B21 : List Nat := [0, 1, 3, 3, 15, 31, 63, 3, 255, 511, 3, 1027, 4095, 8191, 16383]
theorem spec_JoinBits.tab21 : rtab .any (opsOf Try.f48 21) = spec_JoinBits.T21 := by kernel_rfl
theorem spec_JoinBits.bits21 : waitsOk spec_JoinBits.T21.2 spec_JoinBits.B21 = true := by kernel_rfl
def spec_JoinBits.T23 : Bool × List (List Nat × List Nat) := (true, [([], []), ([], []), ([], []), ([], []), ([2, 3], [2, 3]), ([4], [4]), ([5], [5]), ([], []), ([7], [7]), ([8], [8]), ([6, 9], [6, 9]), ([0, 1, 0, 1, 2, 3, 4, 5, 6, 7, 8, 9, 10], [0, 1]), ([11, 0, 1, 2, 3, 4, 5, 6, 7, 8, 9, 10], [11]), ([12, 10, 10, 0, 1, 2, 3, 4, 5, 6, 7, 8, 9, 10], [10, 12])])
def spec_JoinBits.B23 : List Nat := [0, 0, 0, 0, 12, 28, 60, 0, 128, 384, 1020, 2047, 4095, 8191]
theorem spec_JoinBits.tab23 : rtab .any (opsOf Try.f48 23) = spec_JoinBits.T23 := by kernel_rfl
theorem spec_JoinBits.bits23 : waitsOk spec_JoinBits.T23.2 spec_JoinBits.B23 = true := by kernel_rfl
def spec_JoinBits.T24 : Bool × List (List Nat × List Nat) := (true, [([], []), ([], []), ([], []), ([], []), ([2, 3], [2, 3]), ([4], [4]), ([5], [5]), ([], []), ([7], [7]), ([8], [8]), ([6, 9], [6, 9]), ([0, 1, 0, 1, 2, 3, 4, 5, 6, 7, 8, 9, 10], [0, 1]), ([11, 0, 1, 2, 3, 4, 5, 6, 7, 8, 9, 10], [11]), ([12, 10, 10, 0, 1, 2, 3, 4, 5, 6, 7, 8, 9, 10], [10, 12])])
def spec_JoinBits.B24 : List Nat := [0, 0, 0, 0, 12, 28, 60, 0, 128, 384, 1020, 2047, 4095, 8191]
theorem spec_JoinBits.tab24 : rtab .any (opsOf Try.f48 24) = spec_JoinBits.T24 := by kernel_rfl
theorem spec_JoinBits.bits24 : waitsOk spec_JoinBits.T24.2 spec_JoinBits.B24 = true := by kernel_rfl
def spec_JoinBits.T30 : Bool × List (List Nat × List Nat) := (true, [([], []), ([], []), ([], []), ([1, 2], [1, 2]), ([0, 3], [0, 3]), ([], []), ([], []), ([6], [6]), ([5, 7], [5, 7]), ([4, 8, 4], [4, 8]), ([9, 9], [9]), ([10, 10, 0, 1, 2, 3, 4, 5, 6, 7, 8, 9, 10], [10])])
def spec_JoinBits.B30 : List Nat := [0, 0, 0, 6, 15, 0, 0, 64, 224, 511, 1023, 2047]
theorem spec_JoinBits.tab30 : rtab .any (opsOf Try.f48 30) = spec_JoinBits.T30 := by kernel_rfl
theorem spec_JoinBits.bits30 : waitsOk spec_JoinBits.T30.2 spec_JoinBits.B30 = true := by kernel_rfl
def spec_JoinBits.T31 : Bool × List (List Nat × List Nat) := (true, [([], []), ([], []), ([1], [1]), ([], []), ([3], [3]), ([], []), ([5], [5]), ([], []), ([2, 4, 6, 7], [2, 4, 6, 7]), ([0, 0], [0]), ([8, 9, 0, 1, 2, 3, 4, 5, 6, 7, 8, 9], [8]), ([10, 0, 1, 2, 3, 4, 5, 6, 7, 8, 9, 10], [])])
def spec_JoinBits.B31 : List Nat := [0, 0, 2, 0, 8, 0, 32, 0, 254, 1, 1023, 2047]
theorem spec_JoinBits.tab31 : rtab .any (opsOf Try.f48 31) = spec_JoinBits.T31 := by kernel_rfl
theorem spec_JoinBits.bits31 : waitsOk spec_JoinBits.T31.2 spec_JoinBits.B31 = true := by kernel_rfl
set_option maxHeartbeats 8000000 in
set_option maxRecDepth 100000 in
theorem spec_JoinBits.calls (k : Nat) (A0 : Option Addr) (c0 : Nat) (l0 : List (S82)) (a1_0 : Int) (a1_1 : Int) (a1_2 : Int) (a1_3 : Int) (a1_4 : Bool) (a1_5 : ByteArray) (a2 : Int) (r1 : List (S82)) (r2 : Int) (r3 : Int) (r4 : Int) (r5 : Int) (r6 : Bool) (r7 : ByteArray) (r8 : Bool) (w : World) (hr0 : Kd.C k82 w A0 l0.length l0) (hc0 : l0.length ≤ c0) (h : spec_JoinBits.f k l0 a1_0 a1_1 a1_2 a1_3 a1_4 a1_5 a2 = some (r1, r2, r3, r4, r5, r6, r7, r8)) :
  Calls Try.prog 48 #[.slice A0 l0.length c0, .agg #[.int .i64 a1_0, .int .i64 a1_1, .int .i64 a1_2, .int .i64 a1_3, .bool a1_4, .string a1_5], .int .i64 a2] w fun e w' => ∃ v0_ : Value, e = .returned (.tuple #[v0_, .agg #[.int .i64 r2, .int .i64 r3, .int .i64 r4, .int .i64 r5, .bool r6, .string r7], .bool r8]) ∧ Kd.N k82 82 w' w.heap.size (fun k_ => (w.heap.size ≤ k_)) v0_ r1 ∧ Below w.heap.size w w' := by
 have hu62 := Try.underlying62
 have hu82 := Try.underlying82
 have HR0 := Aside0.mk hr0
 have HC0 := Aside0.mk hc0
 clear hr0 hc0
 have HB := Aside0.mk (Below.refl w.heap.size w)
 have H : ((spec_l11CopyBits.f k l0).bind fun t243 => ((spec_DgramOk.f a1_0 a1_1 a1_2 a1_3 a1_4 a1_5).bind fun t246 => (if t246 = true then ((spec_l01In.f a2 0 999999990).bind fun t247 => (spec_JoinBits.j0 k a2 t243 (!t247) a1_0 a1_1 a1_2 a1_3 a1_4 a1_5)) else (spec_JoinBits.j0 k a2 t243 true a1_0 a1_1 a1_2 a1_3 a1_4 a1_5)))) = some (r1, r2, r3, r4, r5, r6, r7, r8) := h
 clear h
 replace H := bsi H
 obtain ⟨t243, A4, H⟩ := H
 (try dsimp only at H)
 have HC5 := Aside0.mk H
 clear H
 go_enter Try.func48, Try.ntmps48
 go_upto_region 2 with (first | ((with_reducible refine gate_dst (N := 4) rfl ?_); refine box_event ?hg (N := 4) ?hd (cs := #[.int .i64 a1_0, .int .i64 a1_1, .int .i64 a1_2, .int .i64 a1_3, .bool a1_4, .string a1_5]) (t := 62) ?hr ?_; (case hd => rfl); (case hg => rfl); (case hr => exact B8x32_); intro gb241 hg w6 hbox hb; have BK241 := Aside0.mk (hbox); have GW241 := Aside0.mk ((bs hg (below_size HB.out))); have GE241 := Aside0.mk ((bs hg (below_size HB.out))); replace HB := Aside0.mk (below_step (by repeat (first | (with_reducible first | exact HB.out | apply below_alloc | apply pw_below_drewN | apply below_drew1) | exact HB.out)) hb); clear hb hbox hg) | ((with_reducible refine gate_dst (N := 7) rfl ?_); refine box_event ?hg (N := 7) ?hd (cs := #[.int .i64 0, .int .i64 0, .int .i64 0, .int .i64 0, .bool false, .string (⟨#[]⟩ : ByteArray)]) (t := 62) ?hr ?_; (case hd => rfl); (case hg => rfl); (case hr => exact B8x32_); intro gb242 hg w7 hbox hb; have BK242 := Aside0.mk (hbox); have GW242 := Aside0.mk ((bs hg (below_size HB.out))); have GE242 := Aside0.mk ((bs hg (below_size HB.out))); replace HB := Aside0.mk (below_step (by repeat (first | (with_reducible first | exact HB.out | apply below_alloc | apply pw_below_drewN | apply below_drew1 | refine below_set ?_ GE241.out) | exact HB.out)) hb); have NB241_242 := Aside0.mk ((nl hg (blk_lt BK241.out))); have NB242_241 := Aside0.mk ((ng hg (blk_lt BK241.out))); replace BK241 := Aside0.mk (bb BK241.out hb); clear hb hbox hg) | ((with_reducible refine gate_callee (f := 104) rfl ?_); refine goesL_ (some 18) rfl rfl Try.func104 B8x13_ rfl #[.slice A0 l0.length c0] rfl B8x8_ ?_; (with_reducible refine (spec_l11CopyBits.calls k _ _ l0 t243 _ ?side1 ?side2 A4.out).mono ?_); (case side1 => repeat (first | exact (Kd.C_below HR0.out HB.out) | (with_reducible refine Kd.C_alloc ?_ _) | (with_reducible refine Kd.C_drewN ?_ _) | (with_reducible refine Kd.C_drew ?_))); (case side2 => exact HC0.out); rintro e w8 ⟨v244, rfl, ho0, hb⟩; refine ⟨_, rfl, ?_⟩; have HO245 := Aside0.mk (Kd.S_lower (Kd.S_newM (M := fun k_ => (w.heap.size ≤ k_)) ho0 (below_size B8x0_) (fun k_ h_ => h_)) (below_size B8x0_)); replace BK241 := Aside0.mk (bb BK241.out hb); replace BK242 := Aside0.mk (bb BK242.out hb); replace HB := Aside0.mk (below_step B8x0_ hb); (try clear hb); (try clear hl); (try clear ho0)))
 (try simp only [Act.put, List.setIfInBounds_toArray, List.set_cons_zero, List.set_cons_succ])
 go_cut [26] (fun v26 wc => ∃ (kq : Nat) (x26_4 : Bool), v26 = .bool x26_4 ∧ Aside0 (spec_JoinBits.j0 kq a2 t243 x26_4 a1_0 a1_1 a1_2 a1_3 a1_4 a1_5 = some (r1, r2, r3, r4, r5, r6, r7, r8)) ∧ Aside0 (kq ≤ k) ∧ Aside0 (Kd.S k82 82 wc w.heap.size (fun k_ => (w.heap.size ≤ k_)) v244 t243) ∧ Aside0 (wc.heap[gb241]? = some (.cells #[.int .i64 a1_0, .int .i64 a1_1, .int .i64 a1_2, .int .i64 a1_3, .bool a1_4, .string a1_5] 62 (0, 0))) ∧ Aside0 (wc.heap[gb242]? = some (.cells #[.int .i64 0, .int .i64 0, .int .i64 0, .int .i64 0, .bool false, .string (⟨#[]⟩ : ByteArray)] 62 (0, 0))) ∧ Aside0 (Below w.heap.size w wc))
 case first =>
  have H := HC5.out
  clear HC5
  replace H := bsi H
  obtain ⟨t246, A9, H⟩ := H
  (try dsimp only at H)
  by_cases c10 : t246 = true
  ·subst c10
   rw [if_pos rfl] at H
   replace H := bsi H
   obtain ⟨t247, A11, H⟩ := H
   (try dsimp only at H)
   have H' := Aside0.mk H
   clear H
   have hnb12 := NB241_242.out
   have hnc12 := NB242_241.out
   obtain ⟨hcz13_0, hcz13_1, hcz13_2, hcz13_3, hcz13_4, hcz13_5⟩ := cl6 BK241.out
   obtain ⟨hfz13_0, hfz13_1, hfz13_2, hfz13_3, hfz13_4, hfz13_5⟩ := fr6 BK241.out
   go_wp2_with (first | ((with_reducible refine gate_callee (f := 95) rfl ?_); refine goesL_ (some 20) rfl rfl Try.func95 B8x13_ rfl #[.agg #[.int .i64 a1_0, .int .i64 a1_1, .int .i64 a1_2, .int .i64 a1_3, .bool a1_4, .string a1_5]] rfl B8x8_ ?_; (with_reducible refine (spec_DgramOk.calls a1_0 a1_1 a1_2 a1_3 a1_4 a1_5 true _ A9.out).mono ?_); rintro e w14 ⟨rfl, hb⟩; refine ⟨_, rfl, ?_⟩; replace HO245 := Aside0.mk (Kd.S_below B8x46_ hb); replace BK241 := Aside0.mk (bb BK241.out hb); replace BK242 := Aside0.mk (bb BK242.out hb); replace HB := Aside0.mk (below_step B8x0_ hb); (try clear hb); (try clear hl)) | (go_at_call 69; (with_reducible refine (spec_l01In.calls a2 0 999999990 t247 _ A11.out).mono ?_); rintro e w' ⟨rfl, ⟨nd, rfl⟩⟩))
   go_meet
   case rel => exact ⟨_, (!t247), (be_), H', ⟨(by first | omega | exact Nat.le_refl _)⟩, ⟨B8x44_⟩, ⟨B8x6_⟩, ⟨B8x5_⟩, ⟨B8x0_⟩⟩
  ·replace c10 := Bool.eq_false_iff.mpr c10
   subst c10
   rw [if_neg (show ¬ (false = true) by decide)] at H
   have H' := Aside0.mk H
   clear H
   have hnb15 := NB241_242.out
   have hnc15 := NB242_241.out
   obtain ⟨hcz16_0, hcz16_1, hcz16_2, hcz16_3, hcz16_4, hcz16_5⟩ := cl6 BK241.out
   obtain ⟨hfz16_0, hfz16_1, hfz16_2, hfz16_3, hfz16_4, hfz16_5⟩ := fr6 BK241.out
   go_wp2_with (first | ((with_reducible refine gate_callee (f := 95) rfl ?_); refine goesL_ (some 20) rfl rfl Try.func95 B8x13_ rfl #[.agg #[.int .i64 a1_0, .int .i64 a1_1, .int .i64 a1_2, .int .i64 a1_3, .bool a1_4, .string a1_5]] rfl B8x8_ ?_; (with_reducible refine (spec_DgramOk.calls a1_0 a1_1 a1_2 a1_3 a1_4 a1_5 false _ A9.out).mono ?_); rintro e w17 ⟨rfl, hb⟩; refine ⟨_, rfl, ?_⟩; replace HO245 := Aside0.mk (Kd.S_below B8x46_ hb); replace BK241 := Aside0.mk (bb BK241.out hb); replace BK242 := Aside0.mk (bb BK242.out hb); replace HB := Aside0.mk (below_step B8x0_ hb); (try clear hb); (try clear hl)))
   go_meet
   case rel => exact ⟨_, (true), (be_), H', ⟨(by first | omega | exact Nat.le_refl _)⟩, ⟨B8x44_⟩, ⟨B8x6_⟩, ⟨B8x5_⟩, ⟨B8x0_⟩⟩
 case rest =>
  clear HC5
  obtain ⟨kq, x26_4, rfl, HA, HJ4, HO_9, BK241, BK242, HB⟩ := hcut
  cases kq with
  | zero => exact absurd HA.out (by simp [spec_JoinBits.j0])
  | succ kj4 =>
   have H := HA.out
   clear HA
   simp only [spec_JoinBits.j0] at H
   by_cases c18 : x26_4 = true
   ·subst c18
    rw [if_pos rfl] at H
    simp only [Option.some.injEq, Prod.mk.injEq] at H
    obtain ⟨rfl, rfl, rfl, rfl, rfl, rfl, rfl, rfl⟩ := H
    have hnb19 := NB242_241.out
    have hnc19 := NB241_242.out
    obtain ⟨hcz20_0, hcz20_1, hcz20_2, hcz20_3, hcz20_4, hcz20_5⟩ := cl6 BK242.out
    obtain ⟨hfz20_0, hfz20_1, hfz20_2, hfz20_3, hfz20_4, hfz20_5⟩ := fr6 BK242.out
    go_wp2_with (first | ((with_reducible refine gate_store (t := 62) (p := 7) rfl ?_); refine store_event (t := 62) (p := 7) (v := ?vo_w21) (w1 := ((((((wc.setCell ⟨gb242, 0, none⟩ (.int .i64 0)).setCell ⟨gb242, 1, none⟩ (.int .i64 0)).setCell ⟨gb242, 2, none⟩ (.int .i64 0)).setCell ⟨gb242, 3, none⟩ (.int .i64 0)).setCell ⟨gb242, 4, none⟩ (.bool false)).setCell ⟨gb242, 5, none⟩ (.string (⟨#[]⟩ : ByteArray)))) ?hg ?ho ?hn ?hr ?_; (case ho => rfl); (case hg => rfl); (case hn => rfl); (case hr => exact B8x32_); intro w21 hw; replace HO_9 : Aside0 (Kd.S k82 82 w21 w.heap.size (fun k_ => (w.heap.size ≤ k_)) v244 t243) := ⟨(by rw [hw]; exact (by (with_reducible repeat (first | apply Kd.S_alloc | apply Kd.S_drewN | apply Kd.S_drew)); exact Kd.S_mono (Kd.S_far (p := ⟨gb242, 5, none⟩) (Kd.S_far (p := ⟨gb242, 4, none⟩) (Kd.S_far (p := ⟨gb242, 3, none⟩) (Kd.S_far (p := ⟨gb242, 2, none⟩) (Kd.S_far (p := ⟨gb242, 1, none⟩) (Kd.S_far (p := ⟨gb242, 0, none⟩) (Kd.S_types HO_9.out BK242.out (by decide)) (fun _ hk => hk.2) (.int .i64 0)) (fun _ hk => hk.2) (.int .i64 0)) (fun _ hk => hk.2) (.int .i64 0)) (fun _ hk => hk.2) (.int .i64 0)) (fun _ hk => hk.2) (.bool false)) (fun _ hk => hk.2) (.string (⟨#[]⟩ : ByteArray))) (fun _ hk => hk.1)))⟩; replace BK241 : Aside0 (w21.heap[gb241]? = some (.cells #[.int .i64 a1_0, .int .i64 a1_1, .int .i64 a1_2, .int .i64 a1_3, .bool a1_4, .string a1_5] 62 (0, 0))) := ⟨B8x23_⟩; replace BK242 : Aside0 (w21.heap[gb242]? = some (.cells #[.int .i64 0, .int .i64 0, .int .i64 0, .int .i64 0, .bool false, .string (⟨#[]⟩ : ByteArray)] 62 (0, 0))) := ⟨(by rw [hw]; exact B8x9_)⟩; replace HB : Aside0 (Below w.heap.size w w21) := ⟨(by rw [hw]; exact B8x0_)⟩; clear hw))
    refine bodyPost_ret (results_list (rs := [.tmp 6, .cell 7 62, .tmp 8]) rfl (by simp) (.tmp (.cell gb242 62 #[.int .i64 0, .int .i64 0, .int .i64 0, .int .i64 0, .bool false, .string (⟨#[]⟩ : ByteArray)] (0, 0) _ rfl B8x5_ Try.underlying62 rfl B8x13_ (.tmp .nil)))) rfl ?_
    exact ⟨_, by first | rfl | (simp [errW_none, errW_some] <;> rfl) | (simp [*, errW_none, errW_some] <;> rfl), Kd.R_N ((Kd.S_R B8x7_)), by repeat (first | (with_reducible first | exact HB.out | apply below_alloc | apply pw_below_drewN | apply below_drew1 | refine below_set ?_ GE241.out | refine below_set ?_ GE242.out) | exact HB.out)⟩
   ·replace c18 := Bool.eq_false_iff.mpr c18
    subst c18
    rw [if_neg (show ¬ (false = true) by decide)] at H
    have HC22 := Aside0.mk H
    clear H
    go_upto_region 4 with (fail)
    go_cut [36] (fun v36 wc => ∃ (kq : Nat) (x36_21 : Bool), v36 = .bool x36_21 ∧ Aside0 (spec_JoinBits.j1 kq a2 t243 x36_21 a1_0 a1_1 a1_2 a1_3 a1_4 a1_5 = some (r1, r2, r3, r4, r5, r6, r7, r8)) ∧ Aside0 (kq ≤ kj4) ∧ Aside0 (Kd.S k82 82 wc w.heap.size (fun k_ => (w.heap.size ≤ k_)) v244 t243) ∧ Aside0 (wc.heap[gb241]? = some (.cells #[.int .i64 a1_0, .int .i64 a1_1, .int .i64 a1_2, .int .i64 a1_3, .bool a1_4, .string a1_5] 62 (0, 0))) ∧ Aside0 (wc.heap[gb242]? = some (.cells #[.int .i64 0, .int .i64 0, .int .i64 0, .int .i64 0, .bool false, .string (⟨#[]⟩ : ByteArray)] 62 (0, 0))) ∧ Aside0 (Below w.heap.size w wc))
    case first =>
     have H := HC22.out
     clear HC22
     by_cases c23 : a1_3 = 0
     ·rw [if_pos c23] at H
      have c23b0 := beq_iff_eq.mpr c23
      have c23b1 := bne_eq_false_iff_eq.mpr c23
      clear c23
      (first | rw [c23b0] | (simp only [i64_w, i32_w]; rw [c23b0]) | skip)
      have H' := Aside0.mk H
      clear H
      have hnb24 := NB241_242.out
      have hnc24 := NB242_241.out
      obtain ⟨hcz25_0, hcz25_1, hcz25_2, hcz25_3, hcz25_4, hcz25_5⟩ := cl6 BK241.out
      obtain ⟨hfz25_0, hfz25_1, hfz25_2, hfz25_3, hfz25_4, hfz25_5⟩ := fr6 BK241.out
      go_wp2
      go_meet
      case rel => exact ⟨_, (!a1_4), (be_), H', ⟨B8x52_⟩, ⟨B8x7_⟩, ⟨B8x6_⟩, ⟨B8x5_⟩, ⟨B8x0_⟩⟩
     ·rw [if_neg c23] at H
      have c23b0 := beq_eq_false_iff_ne.mpr c23
      have c23b1 := bne_iff_ne.mpr c23
      (first | rw [c23b0] | (simp only [i64_w, i32_w]; rw [c23b0]) | skip)
      have H' := Aside0.mk H
      clear H
      have hnb26 := NB241_242.out
      have hnc26 := NB242_241.out
      obtain ⟨hcz27_0, hcz27_1, hcz27_2, hcz27_3, hcz27_4, hcz27_5⟩ := cl6 BK241.out
      obtain ⟨hfz27_0, hfz27_1, hfz27_2, hfz27_3, hfz27_4, hfz27_5⟩ := fr6 BK241.out
      go_wp2
      go_meet
      case rel => exact ⟨_, (false), (be_), H', ⟨B8x52_⟩, ⟨B8x7_⟩, ⟨B8x6_⟩, ⟨B8x5_⟩, ⟨B8x0_⟩⟩
    case rest =>
     clear HC22
     try clear c18
     obtain ⟨kq, x36_21, rfl, HA, HJ21, HO_9, BK241, BK242, HB⟩ := hcut
     cases kq with
     | zero => exact absurd HA.out (by simp [spec_JoinBits.j1])
     | succ kj21 =>
      have H := HA.out
      clear HA
      simp only [spec_JoinBits.j1] at H
      by_cases c28 : x36_21 = true
      ·subst c28
       rw [if_pos rfl] at H
       simp only [Option.some.injEq, Prod.mk.injEq] at H
       obtain ⟨rfl, rfl, rfl, rfl, rfl, rfl, rfl, rfl⟩ := H
       try go_wp2
       replace HO_9 := Aside0.mk (Kd.S_drew HO_9.out)
       replace BK241 := Aside0.mk (blk_drew BK241.out)
       replace BK242 := Aside0.mk (blk_drew BK242.out)
       replace HB := Aside0.mk (below_drew1 HB.out)
       refine start_ (n := 5) (S := fun w' => w'.cell? ⟨gb241, 0, none⟩ = some (.int .i64 a1_0) ∧ w'.cell? ⟨gb241, 1, none⟩ = some (.int .i64 a1_1) ∧ w'.cell? ⟨gb241, 2, none⟩ = some (.int .i64 a1_2) ∧ w'.cell? ⟨gb241, 3, none⟩ = some (.int .i64 a1_3) ∧ w'.cell? ⟨gb241, 4, none⟩ = some (.bool a1_4) ∧ w'.cell? ⟨gb241, 5, none⟩ = some (.string a1_5)) (ds := []) #[false, false, false, false, false] B8x13_ rfl rfl ⟨(blk_cell BK241.out 0).trans rfl, (blk_cell BK241.out 1).trans rfl, (blk_cell BK241.out 2).trans rfl, (blk_cell BK241.out 3).trans rfl, (blk_cell BK241.out 4).trans rfl, (blk_cell BK241.out 5).trans rfl⟩ (fun hHeld => ?_)
       generalize wc.drew = w29 at HO_9 BK241 BK242 HB hHeld ⊢
       refine pure_ (i := 0) (N := some 37) (v := ?_) (a' := ?_) #[true, false, false, false, false] rfl rfl B8x13_ (fun _ _ _ h => h) (Or.inl ⟨by rfl, ?_⟩) ?_ ?_
       rotate_left
       ·intro w'
        go_simp
        with_reducible rfl
       rotate_left
       ·simp only [Act.put, List.setIfInBounds_toArray, List.set_cons_zero, List.set_cons_succ, i64_w, i32_w]
        rfl
       refine pure_ (i := 2) (N := some 6) (v := ?_) (a' := ?_) #[true, false, true, false, false] rfl rfl B8x13_ (fun _ _ _ h => h) (Or.inl ⟨by rfl, ?_⟩) ?_ ?_
       rotate_left
       ·intro w'
        go_simp
        with_reducible rfl
       rotate_left
       ·simp only [Act.put, List.setIfInBounds_toArray, List.set_cons_zero, List.set_cons_succ, i64_w, i32_w]
        rfl
       refine take_ (i := 1) (N := some 38) (v := ?_) (a' := ?_) #[true, true, true, false, false] rfl rfl B8x13_ (fun _ _ _ h => h) (Or.inl ⟨by rfl, ?_⟩) hHeld ?_ ?_
       rotate_left
       ·rintro w' ⟨s0, s1, s2, s3, s4, s5⟩
        go_simp
        with_reducible rfl
       rotate_left
       ·simp only [Act.put, List.setIfInBounds_toArray, List.set_cons_zero, List.set_cons_succ, i64_w, i32_w]
        rfl
       refine one_ (i := 3) (N := none) #[true, true, true, true, false] rfl rfl B8x13_ (by decide) (fun K hK => ?_)
       have hs30 : w29.cell? ⟨gb242, 0, none⟩ = some (.int .i64 0) := (blk_cell BK242.out 0).trans rfl
       have hfs30 := blk_frozen BK242.out 0
       have hns30_0 := NB241_242.out
       have hms30_0 := NB242_241.out
       have hs31 : w29.cell? ⟨gb242, 1, none⟩ = some (.int .i64 0) := (blk_cell BK242.out 1).trans rfl
       have hfs31 := blk_frozen BK242.out 1
       have hns31_0 := NB241_242.out
       have hms31_0 := NB242_241.out
       have hs32 : w29.cell? ⟨gb242, 2, none⟩ = some (.int .i64 0) := (blk_cell BK242.out 2).trans rfl
       have hfs32 := blk_frozen BK242.out 2
       have hns32_0 := NB241_242.out
       have hms32_0 := NB242_241.out
       have hs33 : w29.cell? ⟨gb242, 3, none⟩ = some (.int .i64 0) := (blk_cell BK242.out 3).trans rfl
       have hfs33 := blk_frozen BK242.out 3
       have hns33_0 := NB241_242.out
       have hms33_0 := NB242_241.out
       have hs34 : w29.cell? ⟨gb242, 4, none⟩ = some (.bool false) := (blk_cell BK242.out 4).trans rfl
       have hfs34 := blk_frozen BK242.out 4
       have hns34_0 := NB241_242.out
       have hms34_0 := NB242_241.out
       have hs35 : w29.cell? ⟨gb242, 5, none⟩ = some (.string (⟨#[]⟩ : ByteArray)) := (blk_cell BK242.out 5).trans rfl
       have hfs35 := blk_frozen BK242.out 5
       have hns35_0 := NB241_242.out
       have hms35_0 := NB242_241.out
       refine skip_ (w1 := ?_) (by rfl) rfl ?_ ?_
       rotate_left
       ·go_simp
        rfl
       refine hK.out _ _ ⟨((cell_far (p := ⟨gb242, _, none⟩) NB241_242.out _).trans (((cell_far (p := ⟨gb242, _, none⟩) NB241_242.out _).trans (((cell_far (p := ⟨gb242, _, none⟩) NB241_242.out _).trans (((cell_far (p := ⟨gb242, _, none⟩) NB241_242.out _).trans (((cell_far (p := ⟨gb242, _, none⟩) NB241_242.out _).trans (((cell_far (p := ⟨gb242, _, none⟩) NB241_242.out _).trans (hHeld.1)))))))))))), ((cell_far (p := ⟨gb242, _, none⟩) NB241_242.out _).trans (((cell_far (p := ⟨gb242, _, none⟩) NB241_242.out _).trans (((cell_far (p := ⟨gb242, _, none⟩) NB241_242.out _).trans (((cell_far (p := ⟨gb242, _, none⟩) NB241_242.out _).trans (((cell_far (p := ⟨gb242, _, none⟩) NB241_242.out _).trans (((cell_far (p := ⟨gb242, _, none⟩) NB241_242.out _).trans (hHeld.2.1)))))))))))), ((cell_far (p := ⟨gb242, _, none⟩) NB241_242.out _).trans (((cell_far (p := ⟨gb242, _, none⟩) NB241_242.out _).trans (((cell_far (p := ⟨gb242, _, none⟩) NB241_242.out _).trans (((cell_far (p := ⟨gb242, _, none⟩) NB241_242.out _).trans (((cell_far (p := ⟨gb242, _, none⟩) NB241_242.out _).trans (((cell_far (p := ⟨gb242, _, none⟩) NB241_242.out _).trans (hHeld.2.2.1)))))))))))), ((cell_far (p := ⟨gb242, _, none⟩) NB241_242.out _).trans (((cell_far (p := ⟨gb242, _, none⟩) NB241_242.out _).trans (((cell_far (p := ⟨gb242, _, none⟩) NB241_242.out _).trans (((cell_far (p := ⟨gb242, _, none⟩) NB241_242.out _).trans (((cell_far (p := ⟨gb242, _, none⟩) NB241_242.out _).trans (((cell_far (p := ⟨gb242, _, none⟩) NB241_242.out _).trans (hHeld.2.2.2.1)))))))))))), ((cell_far (p := ⟨gb242, _, none⟩) NB241_242.out _).trans (((cell_far (p := ⟨gb242, _, none⟩) NB241_242.out _).trans (((cell_far (p := ⟨gb242, _, none⟩) NB241_242.out _).trans (((cell_far (p := ⟨gb242, _, none⟩) NB241_242.out _).trans (((cell_far (p := ⟨gb242, _, none⟩) NB241_242.out _).trans (((cell_far (p := ⟨gb242, _, none⟩) NB241_242.out _).trans (hHeld.2.2.2.2.1)))))))))))), ((cell_far (p := ⟨gb242, _, none⟩) NB241_242.out _).trans (((cell_far (p := ⟨gb242, _, none⟩) NB241_242.out _).trans (((cell_far (p := ⟨gb242, _, none⟩) NB241_242.out _).trans (((cell_far (p := ⟨gb242, _, none⟩) NB241_242.out _).trans (((cell_far (p := ⟨gb242, _, none⟩) NB241_242.out _).trans (((cell_far (p := ⟨gb242, _, none⟩) NB241_242.out _).trans (hHeld.2.2.2.2.2))))))))))))⟩ (fun hHeld => ?_)
       clear hK K
       refine pure_ (i := 4) (N := some 8) (v := ?_) (a' := ?_) #[true, true, true, true, true] rfl rfl B8x13_ (fun _ _ _ h => h) (Or.inl ⟨by rfl, ?_⟩) ?_ ?_
       rotate_left
       ·intro w'
        go_simp
        with_reducible rfl
       rotate_left
       ·simp only [Act.put, List.setIfInBounds_toArray, List.set_cons_zero, List.set_cons_succ, i64_w, i32_w]
        rfl
       refine done_ B8x13_ ?_
       try go_wp2
       refine bodyPost_ret (results_list (rs := [.tmp 6, .cell 7 62, .tmp 8]) rfl (by simp) (.tmp (.cell gb242 62 #[.int .i64 a1_0, .int .i64 a1_1, .int .i64 a1_2, .int .i64 a1_3, .bool a1_4, .string a1_5] (0, 0) _ rfl B8x9_ Try.underlying62 rfl B8x13_ (.tmp .nil)))) rfl ?_
       exact ⟨_, by first | rfl | (simp [errW_none, errW_some] <;> rfl) | (simp [*, errW_none, errW_some] <;> rfl), Kd.R_N ((Kd.S_R (by (with_reducible repeat (first | apply Kd.S_alloc | apply Kd.S_drewN | apply Kd.S_drew)); exact Kd.S_mono (Kd.S_far (p := ⟨gb242, 5, none⟩) (Kd.S_far (p := ⟨gb242, 4, none⟩) (Kd.S_far (p := ⟨gb242, 3, none⟩) (Kd.S_far (p := ⟨gb242, 2, none⟩) (Kd.S_far (p := ⟨gb242, 1, none⟩) (Kd.S_far (p := ⟨gb242, 0, none⟩) (Kd.S_types HO_9.out BK242.out (by decide)) (fun _ hk => hk.2) (.int .i64 a1_0)) (fun _ hk => hk.2) (.int .i64 a1_1)) (fun _ hk => hk.2) (.int .i64 a1_2)) (fun _ hk => hk.2) (.int .i64 a1_3)) (fun _ hk => hk.2) (.bool a1_4)) (fun _ hk => hk.2) (.string a1_5)) (fun _ hk => hk.1)))), by repeat (first | (with_reducible first | exact HB.out | apply below_alloc | apply pw_below_drewN | apply below_drew1 | refine below_set ?_ GE241.out | refine below_set ?_ GE242.out) | exact HB.out)⟩
      ·replace c28 := Bool.eq_false_iff.mpr c28
       subst c28
       rw [if_neg (show ¬ (false = true) by decide)] at H
       have H' := Aside0.mk H
       clear H
       obtain ⟨Ao36, co36, eo36⟩ := Kd.S_slice HO_9.out
       subst eo36
       go_wp2
       go_loopg [10, 11] kj21 (fun kq v10 v11 w' => ∃ (x10_3 : Int) (x11_3 : Int), v10 = .int .i64 x10_3 ∧ v11 = .int .i64 x11_3 ∧ Aside0 (spec_JoinBits.l0 kq a2 t243 x10_3 x11_3 a1_0 a1_1 a1_2 a1_3 a1_4 a1_5 = some (r1, r2, r3, r4, r5, r6, r7, r8)) ∧ Aside0 (kq ≤ kj21) ∧ Aside0 (Kd.S k82 82 w' w.heap.size (fun k_ => (w.heap.size ≤ k_)) (.slice Ao36 t243.length co36) t243) ∧ Aside0 (w'.heap[gb241]? = some (.cells #[.int .i64 a1_0, .int .i64 a1_1, .int .i64 a1_2, .int .i64 a1_3, .bool a1_4, .string a1_5] 62 (0, 0))) ∧ Aside0 (w'.heap[gb242]? = some (.cells #[.int .i64 0, .int .i64 0, .int .i64 0, .int .i64 0, .bool false, .string (⟨#[]⟩ : ByteArray)] 62 (0, 0))) ∧ Aside0 (Below w.heap.size w w'))
       case atStart => exact ⟨((-1)), (wrap64 ((t243.length : Int) - 1)), (be_), (be_), H', ⟨Nat.le_refl _⟩, ⟨B8x7_⟩, ⟨B8x6_⟩, ⟨B8x5_⟩, ⟨B8x0_⟩⟩
       case round =>
        clear H'
        try clear c18
        try clear c28
        obtain ⟨x10_3, x11_3, rfl, rfl, HA, HK3, HO_9, BK241, BK242, HB⟩ := hrel
        cases gk with
        | zero => exact absurd HA.out (by simp [spec_JoinBits.l0])
        | succ k3 =>
         have H := HA.out
         clear HA
         simp only [spec_JoinBits.l0] at H
         by_cases c37 : x11_3 ≥ 0
         ·rw [if_pos c37] at H
          have c37b0 : decide (0 ≤ x11_3) = true := decide_eq_true c37
          clear c37
          have HC38 := Aside0.mk H
          clear H
          go_upto_block 1 with (fail)
          go_cut [10] (fun v10 wc => ∃ (kq : Nat) (x10_37 : Int), v10 = .int .i64 x10_37 ∧ Aside0 (spec_JoinBits.j3 kq a2 t243 x10_37 x11_3 a1_0 a1_1 a1_2 a1_3 a1_4 a1_5 = some (r1, r2, r3, r4, r5, r6, r7, r8)) ∧ Aside0 (kq ≤ k3) ∧ Aside0 (Kd.S k82 82 wc w.heap.size (fun k_ => (w.heap.size ≤ k_)) (.slice Ao36 t243.length co36) t243) ∧ Aside0 (wc.heap[gb241]? = some (.cells #[.int .i64 a1_0, .int .i64 a1_1, .int .i64 a1_2, .int .i64 a1_3, .bool a1_4, .string a1_5] 62 (0, 0))) ∧ Aside0 (wc.heap[gb242]? = some (.cells #[.int .i64 0, .int .i64 0, .int .i64 0, .int .i64 0, .bool false, .string (⟨#[]⟩ : ByteArray)] 62 (0, 0))) ∧ Aside0 (Below w.heap.size w wc))
          case first =>
           have H := HC38.out
           clear HC38
           by_cases c39 : 0 ≤ x11_3
           rotate_left
           ·rw [if_neg c39] at H
            exact absurd H (by simp)
           rw [if_pos c39] at H
           have c39b0 : decide (0 ≤ x11_3) = true := decide_eq_true c39
           clear c39
           (first | rw [c39b0] | (simp only [i64_w, i32_w]; rw [c39b0]) | skip)
           by_cases c40 : x11_3 < (t243.length : Int)
           rotate_left
           ·rw [if_neg c40] at H
            exact absurd H (by simp)
           rw [if_pos c40] at H
           have c40b0 : decide (x11_3 < (t243.length : Int)) = true := decide_eq_true c40
           clear c40
           by_cases c41 : ((rd_T82 t243 x11_3).f0) = a1_0
           ·rw [if_pos c41] at H
            have c41b0 := beq_iff_eq.mpr c41
            have c41b1 := bne_eq_false_iff_eq.mpr c41
            clear c41
            by_cases c42 : ((rd_T82 t243 x11_3).f1) = a1_2
            ·rw [if_pos c42] at H
             have c42b0 := beq_iff_eq.mpr c42
             have c42b1 := bne_eq_false_iff_eq.mpr c42
             clear c42
             have H' := Aside0.mk H
             clear H
             try go_wp2
             replace HO_9 := Aside0.mk (Kd.S_drew HO_9.out)
             replace BK241 := Aside0.mk (blk_drew BK241.out)
             replace BK242 := Aside0.mk (blk_drew BK242.out)
             replace HB := Aside0.mk (below_drew1 HB.out)
             have p248 : 0 ≤ (x11_3 : Int) := of_decide_eq_true B8x3_
             have q248 : x11_3 < (t243.length : Int) := of_decide_eq_true B8x3_
             obtain ⟨ad248, A248_2, c248_2, A248_3, c248_3, e248, hx248_0, hx248_1, hx248_2, hx248_3, hx248_4, hx248_5, hl248_2, hi248_2, hl248_3, hi248_3⟩ := at_T82 (Kd.S_reads' HO_9.out).2.2 x11_3 p248 q248
             cases e248
             obtain ⟨ce248, hce248, hMe248, hcc248⟩ := Kd.S_get HO_9.out z82 x11_3 p248 B8x34_
             obtain ⟨ve248_2, ve248_3, rfl, ge248_2, ge248_3⟩ := k82_openM hMe248
             have hv248_2 := hcc248 2 _ rfl
             rw [add_field _ _ 2 (by omega)] at hv248_2
             replace hv248_2 := Option.some.inj (hv248_2.symm.trans hx248_2)
             rw [hv248_2] at ge248_2
             have HL248_2 := Aside0.mk (show Kd.R Kd.string 9 _ _ _ _ ((rd_T82 t243 x11_3).f2) from ge248_2)
             clear hv248_2 ge248_2
             have HX248_2 := Aside0.mk hx248_2
             have hv248_3 := hcc248 3 _ rfl
             rw [add_field _ _ 3 (by omega)] at hv248_3
             replace hv248_3 := Option.some.inj (hv248_3.symm.trans hx248_3)
             rw [hv248_3] at ge248_3
             have HL248_3 := Aside0.mk (show Kd.R (Kd.int .i64) 3 _ _ _ _ ((rd_T82 t243 x11_3).f3) from ge248_3)
             clear hv248_3 ge248_3
             have HX248_3 := Aside0.mk hx248_3
             clear hcc248 hce248
             have HR248_2 := Aside0.mk hi248_2
             have HC248_2 := Aside0.mk hl248_2
             clear hi248_2 hl248_2
             have HR248_3 := Aside0.mk hi248_3
             have HC248_3 := Aside0.mk hl248_3
             clear hi248_3 hl248_3
             replace p248 := eq_true p248
             replace q248 := eq_true q248
             have p249 : 0 ≤ (x11_3 : Int) := of_decide_eq_true B8x3_
             have q249 : x11_3 < (t243.length : Int) := of_decide_eq_true B8x3_
             obtain ⟨ad249, A249_2, c249_2, A249_3, c249_3, e249, hx249_0, hx249_1, hx249_2, hx249_3, hx249_4, hx249_5, hl249_2, hi249_2, hl249_3, hi249_3⟩ := at_T82 (Kd.S_reads' HO_9.out).2.2 x11_3 p249 q249
             obtain rfl : ad248 = ad249 := (by injection e249)
             obtain ⟨ce249, hce249, hMe249, hcc249⟩ := Kd.S_get HO_9.out z82 x11_3 p249 B8x47_
             obtain ⟨ve249_2, ve249_3, rfl, ge249_2, ge249_3⟩ := k82_openM hMe249
             have hv249_2 := hcc249 2 _ rfl
             rw [add_field _ _ 2 (by omega)] at hv249_2
             replace hv249_2 := Option.some.inj (hv249_2.symm.trans hx249_2)
             rw [hv249_2] at ge249_2
             have HL249_2 := Aside0.mk (show Kd.R Kd.string 9 _ _ _ _ ((rd_T82 t243 x11_3).f2) from ge249_2)
             clear hv249_2 ge249_2
             have HX249_2 := Aside0.mk hx249_2
             have hv249_3 := hcc249 3 _ rfl
             rw [add_field _ _ 3 (by omega)] at hv249_3
             replace hv249_3 := Option.some.inj (hv249_3.symm.trans hx249_3)
             rw [hv249_3] at ge249_3
             have HL249_3 := Aside0.mk (show Kd.R (Kd.int .i64) 3 _ _ _ _ ((rd_T82 t243 x11_3).f3) from ge249_3)
             clear hv249_3 ge249_3
             have HX249_3 := Aside0.mk hx249_3
             clear hcc249 hce249
             have HR249_2 := Aside0.mk hi249_2
             have HC249_2 := Aside0.mk hl249_2
             clear hi249_2 hl249_2
             have HR249_3 := Aside0.mk hi249_3
             have HC249_3 := Aside0.mk hl249_3
             clear hi249_3 hl249_3
             replace p249 := eq_true p249
             replace q249 := eq_true q249
             have ea_ := Option.some.inj (hx248_2.symm.trans hx249_2)
             injection ea_ with ea_ en_ ec_
             subst ea_
             subst ec_
             clear en_
             have ea_ := Option.some.inj (hx248_3.symm.trans hx249_3)
             injection ea_ with ea_ en_ ec_
             subst ea_
             subst ec_
             clear en_
             refine start_ (n := 18) (S := fun w' => w'.cell? ⟨gb241, 0, none⟩ = some (.int .i64 a1_0) ∧ w'.cell? ⟨gb241, 1, none⟩ = some (.int .i64 a1_1) ∧ w'.cell? ⟨gb241, 2, none⟩ = some (.int .i64 a1_2) ∧ w'.cell? ⟨gb241, 3, none⟩ = some (.int .i64 a1_3) ∧ w'.cell? ⟨gb241, 4, none⟩ = some (.bool a1_4) ∧ w'.cell? ⟨gb241, 5, none⟩ = some (.string a1_5) ∧ w'.cell? (ad248.add ((x11_3).toNat * 6)) = some (.int .i64 ((rd_T82 t243 x11_3).f0)) ∧ w'.cell? ⟨(ad248.add ((x11_3).toNat * 6)).block, (ad248.add ((x11_3).toNat * 6)).off + 1, none⟩ = some (.int .i64 ((rd_T82 t243 x11_3).f1)) ∧ w'.cell? ⟨(ad248.add ((x11_3).toNat * 6)).block, (ad248.add ((x11_3).toNat * 6)).off + 2, none⟩ = some (.slice A248_2 ((rd_T82 t243 x11_3).f2).length c248_2) ∧ w'.cell? ⟨(ad248.add ((x11_3).toNat * 6)).block, (ad248.add ((x11_3).toNat * 6)).off + 3, none⟩ = some (.slice A248_3 ((rd_T82 t243 x11_3).f3).length c248_3) ∧ w'.cell? ⟨(ad248.add ((x11_3).toNat * 6)).block, (ad248.add ((x11_3).toNat * 6)).off + 4, none⟩ = some (.int .i64 ((rd_T82 t243 x11_3).f4)) ∧ w'.cell? ⟨(ad248.add ((x11_3).toNat * 6)).block, (ad248.add ((x11_3).toNat * 6)).off + 5, none⟩ = some (.int .i64 ((rd_T82 t243 x11_3).f5)) ∧ w'.cell? (ad248.add ((x11_3).toNat * 6)) = some (.int .i64 ((rd_T82 t243 x11_3).f0)) ∧ w'.cell? ⟨(ad248.add ((x11_3).toNat * 6)).block, (ad248.add ((x11_3).toNat * 6)).off + 1, none⟩ = some (.int .i64 ((rd_T82 t243 x11_3).f1)) ∧ w'.cell? ⟨(ad248.add ((x11_3).toNat * 6)).block, (ad248.add ((x11_3).toNat * 6)).off + 2, none⟩ = some (.slice A248_2 ((rd_T82 t243 x11_3).f2).length c248_2) ∧ w'.cell? ⟨(ad248.add ((x11_3).toNat * 6)).block, (ad248.add ((x11_3).toNat * 6)).off + 3, none⟩ = some (.slice A248_3 ((rd_T82 t243 x11_3).f3).length c248_3) ∧ w'.cell? ⟨(ad248.add ((x11_3).toNat * 6)).block, (ad248.add ((x11_3).toNat * 6)).off + 4, none⟩ = some (.int .i64 ((rd_T82 t243 x11_3).f4)) ∧ w'.cell? ⟨(ad248.add ((x11_3).toNat * 6)).block, (ad248.add ((x11_3).toNat * 6)).off + 5, none⟩ = some (.int .i64 ((rd_T82 t243 x11_3).f5))) (ds := []) #[false, false, false, false, false, false, false, false, false, false, false, false, false, false, false, false, false, false] B8x13_ rfl rfl ⟨(blk_cell BK241.out 0).trans rfl, (blk_cell BK241.out 1).trans rfl, (blk_cell BK241.out 2).trans rfl, (blk_cell BK241.out 3).trans rfl, (blk_cell BK241.out 4).trans rfl, (blk_cell BK241.out 5).trans rfl, hx248_0, hx248_1, hx248_2, hx248_3, hx248_4, hx248_5, hx249_0, hx249_1, hx249_2, hx249_3, hx249_4, hx249_5⟩ (fun hHeld => ?_); refine with_tabW spec_JoinBits.tab10 spec_JoinBits.bits10 (fun HT_ HW_ => ?_)
             generalize wr.drew = w43 at HO_9 BK241 BK242 HB HL248_2 HL248_3 HL249_2 HL249_3 HR248_2 HR248_3 HR249_2 HR249_3 HX248_2 HX248_3 HX249_2 HX249_3 hx248_0 hx248_1 hx248_2 hx248_3 hx248_4 hx248_5 hx249_0 hx249_1 hx249_2 hx249_3 hx249_4 hx249_5 hHeld ⊢
             refine pu_ 0 46 HT_ ?_
             refine pu_ 1 47 HT_ ?_
             refine pu_ 2 48 HT_ ?_
             refine pu_ 3 49 HT_ ?_
             refine pu_ 5 51 HT_ ?_
             refine ta_ 4 50 HT_ HW_ hHeld ?_
             refine ta_ 6 52 HT_ HW_ hHeld ?_
             refine pu_ 7 53 HT_ ?_
             refine pu_ 8 54 HT_ ?_
             refine pu_ 9 55 HT_ ?_
             refine pu_ 10 56 HT_ ?_
             refine pu_ 11 57 HT_ ?_
             refine pu_ 12 58 HT_ ?_
             refine pu_ 14 60 HT_ ?_
             refine ta_ 13 59 HT_ HW_ hHeld ?_
             refine ta_ 15 61 HT_ HW_ hHeld ?_
             refine pu_ 16 62 HT_ ?_
             refine pu_ 17 63 HT_ ?_
             refine done_ (done_of HT_.out B8x13_) ?_
             try go_wp2
             go_meet
             case rel => exact ⟨_, (x11_3), (be_), H', ⟨B8x28_⟩, ⟨B8x7_⟩, ⟨B8x6_⟩, ⟨B8x5_⟩, ⟨B8x0_⟩⟩
            ·rw [if_neg c42] at H
             have c42b0 := beq_eq_false_iff_ne.mpr c42
             have c42b1 := bne_iff_ne.mpr c42
             have H' := Aside0.mk H
             clear H
             try go_wp2
             replace HO_9 := Aside0.mk (Kd.S_drew HO_9.out)
             replace BK241 := Aside0.mk (blk_drew BK241.out)
             replace BK242 := Aside0.mk (blk_drew BK242.out)
             replace HB := Aside0.mk (below_drew1 HB.out)
             have p248 : 0 ≤ (x11_3 : Int) := of_decide_eq_true B8x3_
             have q248 : x11_3 < (t243.length : Int) := of_decide_eq_true B8x3_
             obtain ⟨ad248, A248_2, c248_2, A248_3, c248_3, e248, hx248_0, hx248_1, hx248_2, hx248_3, hx248_4, hx248_5, hl248_2, hi248_2, hl248_3, hi248_3⟩ := at_T82 (Kd.S_reads' HO_9.out).2.2 x11_3 p248 q248
             cases e248
             obtain ⟨ce248, hce248, hMe248, hcc248⟩ := Kd.S_get HO_9.out z82 x11_3 p248 B8x34_
             obtain ⟨ve248_2, ve248_3, rfl, ge248_2, ge248_3⟩ := k82_openM hMe248
             have hv248_2 := hcc248 2 _ rfl
             rw [add_field _ _ 2 (by omega)] at hv248_2
             replace hv248_2 := Option.some.inj (hv248_2.symm.trans hx248_2)
             rw [hv248_2] at ge248_2
             have HL248_2 := Aside0.mk (show Kd.R Kd.string 9 _ _ _ _ ((rd_T82 t243 x11_3).f2) from ge248_2)
             clear hv248_2 ge248_2
             have HX248_2 := Aside0.mk hx248_2
             have hv248_3 := hcc248 3 _ rfl
             rw [add_field _ _ 3 (by omega)] at hv248_3
             replace hv248_3 := Option.some.inj (hv248_3.symm.trans hx248_3)
             rw [hv248_3] at ge248_3
             have HL248_3 := Aside0.mk (show Kd.R (Kd.int .i64) 3 _ _ _ _ ((rd_T82 t243 x11_3).f3) from ge248_3)
             clear hv248_3 ge248_3
             have HX248_3 := Aside0.mk hx248_3
             clear hcc248 hce248
             have HR248_2 := Aside0.mk hi248_2
             have HC248_2 := Aside0.mk hl248_2
             clear hi248_2 hl248_2
             have HR248_3 := Aside0.mk hi248_3
             have HC248_3 := Aside0.mk hl248_3
             clear hi248_3 hl248_3
             replace p248 := eq_true p248
             replace q248 := eq_true q248
             have p249 : 0 ≤ (x11_3 : Int) := of_decide_eq_true B8x3_
             have q249 : x11_3 < (t243.length : Int) := of_decide_eq_true B8x3_
             obtain ⟨ad249, A249_2, c249_2, A249_3, c249_3, e249, hx249_0, hx249_1, hx249_2, hx249_3, hx249_4, hx249_5, hl249_2, hi249_2, hl249_3, hi249_3⟩ := at_T82 (Kd.S_reads' HO_9.out).2.2 x11_3 p249 q249
             obtain rfl : ad248 = ad249 := (by injection e249)
             obtain ⟨ce249, hce249, hMe249, hcc249⟩ := Kd.S_get HO_9.out z82 x11_3 p249 B8x47_
             obtain ⟨ve249_2, ve249_3, rfl, ge249_2, ge249_3⟩ := k82_openM hMe249
             have hv249_2 := hcc249 2 _ rfl
             rw [add_field _ _ 2 (by omega)] at hv249_2
             replace hv249_2 := Option.some.inj (hv249_2.symm.trans hx249_2)
             rw [hv249_2] at ge249_2
             have HL249_2 := Aside0.mk (show Kd.R Kd.string 9 _ _ _ _ ((rd_T82 t243 x11_3).f2) from ge249_2)
             clear hv249_2 ge249_2
             have HX249_2 := Aside0.mk hx249_2
             have hv249_3 := hcc249 3 _ rfl
             rw [add_field _ _ 3 (by omega)] at hv249_3
             replace hv249_3 := Option.some.inj (hv249_3.symm.trans hx249_3)
             rw [hv249_3] at ge249_3
             have HL249_3 := Aside0.mk (show Kd.R (Kd.int .i64) 3 _ _ _ _ ((rd_T82 t243 x11_3).f3) from ge249_3)
             clear hv249_3 ge249_3
             have HX249_3 := Aside0.mk hx249_3
             clear hcc249 hce249
             have HR249_2 := Aside0.mk hi249_2
             have HC249_2 := Aside0.mk hl249_2
             clear hi249_2 hl249_2
             have HR249_3 := Aside0.mk hi249_3
             have HC249_3 := Aside0.mk hl249_3
             clear hi249_3 hl249_3
             replace p249 := eq_true p249
             replace q249 := eq_true q249
             have ea_ := Option.some.inj (hx248_2.symm.trans hx249_2)
             injection ea_ with ea_ en_ ec_
             subst ea_
             subst ec_
             clear en_
             have ea_ := Option.some.inj (hx248_3.symm.trans hx249_3)
             injection ea_ with ea_ en_ ec_
             subst ea_
             subst ec_
             clear en_
             refine start_ (n := 18) (S := fun w' => w'.cell? ⟨gb241, 0, none⟩ = some (.int .i64 a1_0) ∧ w'.cell? ⟨gb241, 1, none⟩ = some (.int .i64 a1_1) ∧ w'.cell? ⟨gb241, 2, none⟩ = some (.int .i64 a1_2) ∧ w'.cell? ⟨gb241, 3, none⟩ = some (.int .i64 a1_3) ∧ w'.cell? ⟨gb241, 4, none⟩ = some (.bool a1_4) ∧ w'.cell? ⟨gb241, 5, none⟩ = some (.string a1_5) ∧ w'.cell? (ad248.add ((x11_3).toNat * 6)) = some (.int .i64 ((rd_T82 t243 x11_3).f0)) ∧ w'.cell? ⟨(ad248.add ((x11_3).toNat * 6)).block, (ad248.add ((x11_3).toNat * 6)).off + 1, none⟩ = some (.int .i64 ((rd_T82 t243 x11_3).f1)) ∧ w'.cell? ⟨(ad248.add ((x11_3).toNat * 6)).block, (ad248.add ((x11_3).toNat * 6)).off + 2, none⟩ = some (.slice A248_2 ((rd_T82 t243 x11_3).f2).length c248_2) ∧ w'.cell? ⟨(ad248.add ((x11_3).toNat * 6)).block, (ad248.add ((x11_3).toNat * 6)).off + 3, none⟩ = some (.slice A248_3 ((rd_T82 t243 x11_3).f3).length c248_3) ∧ w'.cell? ⟨(ad248.add ((x11_3).toNat * 6)).block, (ad248.add ((x11_3).toNat * 6)).off + 4, none⟩ = some (.int .i64 ((rd_T82 t243 x11_3).f4)) ∧ w'.cell? ⟨(ad248.add ((x11_3).toNat * 6)).block, (ad248.add ((x11_3).toNat * 6)).off + 5, none⟩ = some (.int .i64 ((rd_T82 t243 x11_3).f5)) ∧ w'.cell? (ad248.add ((x11_3).toNat * 6)) = some (.int .i64 ((rd_T82 t243 x11_3).f0)) ∧ w'.cell? ⟨(ad248.add ((x11_3).toNat * 6)).block, (ad248.add ((x11_3).toNat * 6)).off + 1, none⟩ = some (.int .i64 ((rd_T82 t243 x11_3).f1)) ∧ w'.cell? ⟨(ad248.add ((x11_3).toNat * 6)).block, (ad248.add ((x11_3).toNat * 6)).off + 2, none⟩ = some (.slice A248_2 ((rd_T82 t243 x11_3).f2).length c248_2) ∧ w'.cell? ⟨(ad248.add ((x11_3).toNat * 6)).block, (ad248.add ((x11_3).toNat * 6)).off + 3, none⟩ = some (.slice A248_3 ((rd_T82 t243 x11_3).f3).length c248_3) ∧ w'.cell? ⟨(ad248.add ((x11_3).toNat * 6)).block, (ad248.add ((x11_3).toNat * 6)).off + 4, none⟩ = some (.int .i64 ((rd_T82 t243 x11_3).f4)) ∧ w'.cell? ⟨(ad248.add ((x11_3).toNat * 6)).block, (ad248.add ((x11_3).toNat * 6)).off + 5, none⟩ = some (.int .i64 ((rd_T82 t243 x11_3).f5))) (ds := []) #[false, false, false, false, false, false, false, false, false, false, false, false, false, false, false, false, false, false] B8x13_ rfl rfl ⟨(blk_cell BK241.out 0).trans rfl, (blk_cell BK241.out 1).trans rfl, (blk_cell BK241.out 2).trans rfl, (blk_cell BK241.out 3).trans rfl, (blk_cell BK241.out 4).trans rfl, (blk_cell BK241.out 5).trans rfl, hx248_0, hx248_1, hx248_2, hx248_3, hx248_4, hx248_5, hx249_0, hx249_1, hx249_2, hx249_3, hx249_4, hx249_5⟩ (fun hHeld => ?_); refine with_tabW spec_JoinBits.tab10 spec_JoinBits.bits10 (fun HT_ HW_ => ?_)
             generalize wr.drew = w44 at HO_9 BK241 BK242 HB HL248_2 HL248_3 HL249_2 HL249_3 HR248_2 HR248_3 HR249_2 HR249_3 HX248_2 HX248_3 HX249_2 HX249_3 hx248_0 hx248_1 hx248_2 hx248_3 hx248_4 hx248_5 hx249_0 hx249_1 hx249_2 hx249_3 hx249_4 hx249_5 hHeld ⊢
             refine pu_ 0 46 HT_ ?_
             refine pu_ 1 47 HT_ ?_
             refine pu_ 2 48 HT_ ?_
             refine pu_ 3 49 HT_ ?_
             refine pu_ 5 51 HT_ ?_
             refine ta_ 4 50 HT_ HW_ hHeld ?_
             refine ta_ 6 52 HT_ HW_ hHeld ?_
             refine pu_ 7 53 HT_ ?_
             refine pu_ 8 54 HT_ ?_
             refine pu_ 9 55 HT_ ?_
             refine pu_ 10 56 HT_ ?_
             refine pu_ 11 57 HT_ ?_
             refine pu_ 12 58 HT_ ?_
             refine pu_ 14 60 HT_ ?_
             refine ta_ 13 59 HT_ HW_ hHeld ?_
             refine ta_ 15 61 HT_ HW_ hHeld ?_
             refine pu_ 16 62 HT_ ?_
             refine pu_ 17 63 HT_ ?_
             refine done_ (done_of HT_.out B8x13_) ?_
             try go_wp2
             go_meet
             case rel => exact ⟨_, (x10_3), (be_), H', ⟨B8x28_⟩, ⟨B8x7_⟩, ⟨B8x6_⟩, ⟨B8x5_⟩, ⟨B8x0_⟩⟩
           ·rw [if_neg c41] at H
            have c41b0 := beq_eq_false_iff_ne.mpr c41
            have c41b1 := bne_iff_ne.mpr c41
            have H' := Aside0.mk H
            clear H
            try go_wp2
            replace HO_9 := Aside0.mk (Kd.S_drew HO_9.out)
            replace BK241 := Aside0.mk (blk_drew BK241.out)
            replace BK242 := Aside0.mk (blk_drew BK242.out)
            replace HB := Aside0.mk (below_drew1 HB.out)
            have p248 : 0 ≤ (x11_3 : Int) := of_decide_eq_true B8x3_
            have q248 : x11_3 < (t243.length : Int) := of_decide_eq_true B8x3_
            obtain ⟨ad248, A248_2, c248_2, A248_3, c248_3, e248, hx248_0, hx248_1, hx248_2, hx248_3, hx248_4, hx248_5, hl248_2, hi248_2, hl248_3, hi248_3⟩ := at_T82 (Kd.S_reads' HO_9.out).2.2 x11_3 p248 q248
            cases e248
            obtain ⟨ce248, hce248, hMe248, hcc248⟩ := Kd.S_get HO_9.out z82 x11_3 p248 B8x34_
            obtain ⟨ve248_2, ve248_3, rfl, ge248_2, ge248_3⟩ := k82_openM hMe248
            have hv248_2 := hcc248 2 _ rfl
            rw [add_field _ _ 2 (by omega)] at hv248_2
            replace hv248_2 := Option.some.inj (hv248_2.symm.trans hx248_2)
            rw [hv248_2] at ge248_2
            have HL248_2 := Aside0.mk (show Kd.R Kd.string 9 _ _ _ _ ((rd_T82 t243 x11_3).f2) from ge248_2)
            clear hv248_2 ge248_2
            have HX248_2 := Aside0.mk hx248_2
            have hv248_3 := hcc248 3 _ rfl
            rw [add_field _ _ 3 (by omega)] at hv248_3
            replace hv248_3 := Option.some.inj (hv248_3.symm.trans hx248_3)
            rw [hv248_3] at ge248_3
            have HL248_3 := Aside0.mk (show Kd.R (Kd.int .i64) 3 _ _ _ _ ((rd_T82 t243 x11_3).f3) from ge248_3)
            clear hv248_3 ge248_3
            have HX248_3 := Aside0.mk hx248_3
            clear hcc248 hce248
            have HR248_2 := Aside0.mk hi248_2
            have HC248_2 := Aside0.mk hl248_2
            clear hi248_2 hl248_2
            have HR248_3 := Aside0.mk hi248_3
            have HC248_3 := Aside0.mk hl248_3
            clear hi248_3 hl248_3
            replace p248 := eq_true p248
            replace q248 := eq_true q248
            refine start_ (n := 18) (S := fun w' => w'.cell? ⟨gb241, 0, none⟩ = some (.int .i64 a1_0) ∧ w'.cell? ⟨gb241, 1, none⟩ = some (.int .i64 a1_1) ∧ w'.cell? ⟨gb241, 2, none⟩ = some (.int .i64 a1_2) ∧ w'.cell? ⟨gb241, 3, none⟩ = some (.int .i64 a1_3) ∧ w'.cell? ⟨gb241, 4, none⟩ = some (.bool a1_4) ∧ w'.cell? ⟨gb241, 5, none⟩ = some (.string a1_5) ∧ w'.cell? (ad248.add ((x11_3).toNat * 6)) = some (.int .i64 ((rd_T82 t243 x11_3).f0)) ∧ w'.cell? ⟨(ad248.add ((x11_3).toNat * 6)).block, (ad248.add ((x11_3).toNat * 6)).off + 1, none⟩ = some (.int .i64 ((rd_T82 t243 x11_3).f1)) ∧ w'.cell? ⟨(ad248.add ((x11_3).toNat * 6)).block, (ad248.add ((x11_3).toNat * 6)).off + 2, none⟩ = some (.slice A248_2 ((rd_T82 t243 x11_3).f2).length c248_2) ∧ w'.cell? ⟨(ad248.add ((x11_3).toNat * 6)).block, (ad248.add ((x11_3).toNat * 6)).off + 3, none⟩ = some (.slice A248_3 ((rd_T82 t243 x11_3).f3).length c248_3) ∧ w'.cell? ⟨(ad248.add ((x11_3).toNat * 6)).block, (ad248.add ((x11_3).toNat * 6)).off + 4, none⟩ = some (.int .i64 ((rd_T82 t243 x11_3).f4)) ∧ w'.cell? ⟨(ad248.add ((x11_3).toNat * 6)).block, (ad248.add ((x11_3).toNat * 6)).off + 5, none⟩ = some (.int .i64 ((rd_T82 t243 x11_3).f5))) (ds := []) #[false, false, false, false, false, false, false, false, false, false, false, false, false, false, false, false, false, false] B8x13_ rfl rfl ⟨(blk_cell BK241.out 0).trans rfl, (blk_cell BK241.out 1).trans rfl, (blk_cell BK241.out 2).trans rfl, (blk_cell BK241.out 3).trans rfl, (blk_cell BK241.out 4).trans rfl, (blk_cell BK241.out 5).trans rfl, hx248_0, hx248_1, hx248_2, hx248_3, hx248_4, hx248_5⟩ (fun hHeld => ?_); refine with_tabW spec_JoinBits.tab10 spec_JoinBits.bits10 (fun HT_ HW_ => ?_)
            generalize wr.drew = w45 at HO_9 BK241 BK242 HB HL248_2 HL248_3 HR248_2 HR248_3 HX248_2 HX248_3 hx248_0 hx248_1 hx248_2 hx248_3 hx248_4 hx248_5 hHeld ⊢
            refine pu_ 0 46 HT_ ?_
            refine pu_ 1 47 HT_ ?_
            refine pu_ 2 48 HT_ ?_
            refine pu_ 3 49 HT_ ?_
            refine pu_ 5 51 HT_ ?_
            refine ta_ 4 50 HT_ HW_ hHeld ?_
            refine ta_ 6 52 HT_ HW_ hHeld ?_
            refine pu_ 7 53 HT_ ?_
            refine pu_ 8 54 HT_ ?_
            refine of_ 9 55 HT_ ?_
            refine of_ 10 56 HT_ ?_
            refine of_ 11 57 HT_ ?_
            refine of_ 12 58 HT_ ?_
            refine of_ 13 59 HT_ ?_
            refine of_ 14 60 HT_ ?_
            refine of_ 15 61 HT_ ?_
            refine of_ 16 62 HT_ ?_
            refine pu_ 17 63 HT_ ?_
            refine done_ (done_of HT_.out B8x13_) ?_
            try go_wp2
            go_meet
            case rel => exact ⟨_, (x10_3), (be_), H', ⟨B8x28_⟩, ⟨B8x7_⟩, ⟨B8x6_⟩, ⟨B8x5_⟩, ⟨B8x0_⟩⟩
          case rest =>
           clear HC38
           obtain ⟨kq, x10_37, rfl, HA, HJ37, HO_9, BK241, BK242, HB⟩ := hcut
           cases kq with
           | zero => exact absurd HA.out (by simp [spec_JoinBits.j3])
           | succ kj37 =>
            have H := HA.out
            clear HA
            simp only [spec_JoinBits.j3] at H
            have H' := Aside0.mk H
            clear H
            go_wp2
            go_roundg kj37
            case measure => have := HJ4.out; have := HJ21.out; have := HK3.out; have := HJ37.out; omega
            case rel => exact ⟨(x10_37), (wrap64 (x11_3 - 1)), (be_), (be_), H', ⟨(by have := HJ4.out; have := HJ21.out; have := HK3.out; have := HJ37.out; omega)⟩, ⟨B8x7_⟩, ⟨B8x6_⟩, ⟨B8x5_⟩, ⟨B8x0_⟩⟩
         ·rw [if_neg c37] at H
          have c37b0 : decide (0 ≤ x11_3) = false := decide_eq_false c37
          clear c37
          have HC46 := Aside0.mk H
          clear H
          go_upto_if 66 with (fail)
          go_cut [9, 10] (fun v9 v10 wc => ∃ (kq : Nat) (x9_45 : List (S82)) (x10_45 : Int), v10 = .int .i64 x10_45 ∧ Aside0 (spec_JoinBits.j5 kq x9_45 x10_45 a1_0 a1_1 a1_2 a1_3 a1_4 a1_5 = some (r1, r2, r3, r4, r5, r6, r7, r8)) ∧ Aside0 (kq ≤ k3) ∧ Aside0 (Kd.S k82 82 wc w.heap.size (fun k_ => (w.heap.size ≤ k_)) v9 x9_45) ∧ Aside0 (wc.heap[gb241]? = some (.cells #[.int .i64 a1_0, .int .i64 a1_1, .int .i64 a1_2, .int .i64 a1_3, .bool a1_4, .string a1_5] 62 (0, 0))) ∧ Aside0 (wc.heap[gb242]? = some (.cells #[.int .i64 0, .int .i64 0, .int .i64 0, .int .i64 0, .bool false, .string (⟨#[]⟩ : ByteArray)] 62 (0, 0))) ∧ Aside0 (Below w.heap.size w wc))
          case first =>
           have H := HC46.out
           clear HC46
           by_cases c47 : x10_3 < 0
           ·rw [if_pos c47] at H
            have c47b0 : decide (x10_3 < 0) = true := decide_eq_true c47
            clear c47
            (first | rw [c47b0] | (simp only [i64_w, i32_w]; rw [c47b0]) | skip)
            by_cases c48 : t243.length < 1759218604441
            rotate_left
            ·rw [if_neg c48] at H
             exact absurd H (by simp)
            rw [if_pos c48] at H
            have LMc48 := Aside0.mk c48
            clear c48
            obtain ⟨y250, hy250⟩ : ∃ y_ : List (S82), y_ = (t243 ++ [(⟨a1_0, a1_2, ([] : List ByteArray), ([] : List Int), 0, wrap64 (a2 + 10)⟩ : S82)]) := ⟨_, rfl⟩
            replace H : (spec_JoinBits.l1 k3 y250 a1_0 a1_1 a1_2 a1_3 a1_4 a1_5) = some (r1, r2, r3, r4, r5, r6, r7, r8) := by first | (rw [hy250]; with_reducible exact H) | (have H2_ := (Option.bind_some _ _).symm.trans H; rw [hy250]; with_reducible exact H2_) | (have H2_ := (Option.bind_some _ _).symm.trans H; with_reducible exact H2_) | with_reducible exact H | (rw [hy250]; exact H) | exact H
            have Ny250 := Aside0.mk hy250
            clear hy250
            have H' := Aside0.mk H
            clear H
            have hnb49 := NB241_242.out
            have hnc49 := NB242_241.out
            obtain ⟨hcz50_0, hcz50_1, hcz50_2, hcz50_3, hcz50_4, hcz50_5⟩ := cl6 BK241.out
            obtain ⟨hfz50_0, hfz50_1, hfz50_2, hfz50_3, hfz50_4, hfz50_5⟩ := fr6 BK241.out
            go_wp2_with (first | ((with_reducible refine gate_builtin (b := .append) (xs := #[.tmp 67, .tmp 75]) rfl ?_); at_builtin; refine Kd.S_append k82 (w0 := w) w.heap.size rfl (.tmp 67) (.tmp 75) 68 82 (.agg #[(.int .i64 0), (.int .i64 0), (.slice none 0 0), (.slice none 0 0), (.int .i64 0), (.int .i64 0)]) 80 rfl Try.underlying68 info82 rfl (by decide) (by omega) (.slice Ao36 t243.length co36) t243 (⟨a1_0, a1_2, ([] : List ByteArray), ([] : List Int), 0, wrap64 (a2 + 10)⟩ : S82) [.int .i64 a1_0, .int .i64 a1_2, .slice none 0 0, .slice none 0 0, .int .i64 0, .int .i64 (wrap64 (a2 + 10))] (fun k_ => (w.heap.size ≤ k_)) (fun _ => False) rfl rfl ?aP (fun k_ hk_ => hk_.elim) ?aF ?aO ?aB ?aS ?aL ?_; (case aP => exact k82_mkM _ _ _ (⟨a1_0, a1_2, ([] : List ByteArray), ([] : List Int), 0, wrap64 (a2 + 10)⟩ : S82) (Kd.R_nil _ _ _ _ _) (Kd.R_nil _ _ _ _ _)); (case aB => exact B8x0_); (case aF => exact (fun k_ hk => (Nat.le_trans (below_size B8x0_) hk))); (case aO => exact B8x42_); (case aS => exact B8x33_); (case aL => have := LMc48.out; omega); intro v251 w51 ho hb hg hat; rw [← Ny250.out] at ho; replace BK241 := Aside0.mk (blk_grown (g := gb241) (o := .cells #[.int .i64 a1_0, .int .i64 a1_1, .int .i64 a1_2, .int .i64 a1_3, .bool a1_4, .string a1_5] 62 (0, 0)) B8x6_ hg (Kd.S_ne HO_9.out BK241.out (by decide))); replace BK242 := Aside0.mk (blk_grown (g := gb242) (o := .cells #[.int .i64 0, .int .i64 0, .int .i64 0, .int .i64 0, .bool false, .string (⟨#[]⟩ : ByteArray)] 62 (0, 0)) B8x5_ hg (Kd.S_ne HO_9.out BK242.out (by decide))); replace HB := Aside0.mk (hb); have HO252 := Aside0.mk (ho); clear HO_9; clear ho hb hg hat))
            go_loopg [9] k3 (fun kq v9 w' => ∃ (x9_4 : List (S82)), Aside0 (spec_JoinBits.l1 kq x9_4 a1_0 a1_1 a1_2 a1_3 a1_4 a1_5 = some (r1, r2, r3, r4, r5, r6, r7, r8)) ∧ Aside0 (kq ≤ k3) ∧ Aside0 (Kd.S k82 82 w' w.heap.size (fun k_ => (w.heap.size ≤ k_)) v9 x9_4) ∧ Aside0 (w'.heap[gb241]? = some (.cells #[.int .i64 a1_0, .int .i64 a1_1, .int .i64 a1_2, .int .i64 a1_3, .bool a1_4, .string a1_5] 62 (0, 0))) ∧ Aside0 (w'.heap[gb242]? = some (.cells #[.int .i64 0, .int .i64 0, .int .i64 0, .int .i64 0, .bool false, .string (⟨#[]⟩ : ByteArray)] 62 (0, 0))) ∧ Aside0 (Below w.heap.size w w'))
            case atStart => exact ⟨(y250), H', ⟨Nat.le_refl _⟩, ⟨(by (with_reducible repeat (first | apply Kd.S_alloc | apply Kd.S_drewN | apply Kd.S_drew)); exact HO252.out)⟩, ⟨B8x6_⟩, ⟨B8x5_⟩, ⟨B8x0_⟩⟩
            case round =>
             clear H'
             try clear c37
             try clear c37b0
             try clear c47
             try clear c47b0
             try clear c48
             try clear hcz50_0
             try clear hcz50_1
             try clear hcz50_2
             try clear hcz50_3
             try clear hcz50_4
             try clear hcz50_5
             try clear hfz50_0
             try clear hfz50_1
             try clear hfz50_2
             try clear hfz50_3
             try clear hfz50_4
             try clear hfz50_5
             obtain ⟨x9_4, HA, HK4, HO_9, BK241, BK242, HB⟩ := hrel
             cases gk with
             | zero => exact absurd HA.out (by simp [spec_JoinBits.l1])
             | succ k4 =>
              have H := HA.out
              clear HA
              simp only [spec_JoinBits.l1] at H
              by_cases c52 : (x9_4.length : Int) > 3
              ·rw [if_pos c52] at H
               have c52b0 : decide (3 < (x9_4.length : Int)) = true := decide_eq_true c52
               have c52b1 : decide (3 < x9_4.length) = true := decide_eq_true (by omega)
               clear c52
               by_cases c53 : 1 ≤ (x9_4.length : Int)
               rotate_left
               ·rw [if_neg c53] at H
                exact absurd H (by simp)
               rw [if_pos c53] at H
               have c53b0 := eq_true c53
               have c53b1 : decide (1 ≤ (x9_4.length : Int)) = true := decide_eq_true c53
               clear c53
               obtain ⟨y253, hy253⟩ : ∃ y_ : List (S82), y_ = (x9_4.drop 1) := ⟨_, rfl⟩
               replace H : ((spec_l11CopyBits.f k4 y253).bind fun t257 => (spec_JoinBits.l1 k4 t257 a1_0 a1_1 a1_2 a1_3 a1_4 a1_5)) = some (r1, r2, r3, r4, r5, r6, r7, r8) := by first | (rw [hy253]; with_reducible exact H) | (have H2_ := (Option.bind_some _ _).symm.trans H; rw [hy253]; with_reducible exact H2_) | (have H2_ := (Option.bind_some _ _).symm.trans H; with_reducible exact H2_) | with_reducible exact H | (rw [hy253]; exact H) | exact H
               have Ny253 := Aside0.mk hy253
               clear hy253
               replace H := bsi H
               obtain ⟨t257, A54, H⟩ := H
               (try dsimp only at H)
               have H' := Aside0.mk H
               clear H
               obtain ⟨Ao55, co55, eo55⟩ := Kd.S_slice HO_9.out
               subst eo55
               have q56 : (1 : Int) ≤ ((x9_4.length : Int) : Int) := of_decide_eq_true B8x3_
               obtain ⟨i056, hi056, _, hsz56, _⟩ := info_parts info82
               have hroom56 : x9_4.length ≤ co55 := (Kd.S_reads' HO_9.out).2.1
               have hC56 : Kd.C k82 _ Ao55 x9_4.length x9_4 := (Kd.S_reads' HO_9.out).2.2
               have hcut56 := cut_from (P := Try.prog) 68 82 .i64 Try.underlying68 hi056 6 hsz56 Ao55 x9_4.length co55 1 (by omega) q56
               have hr56 := Kd.C_drop (m := (1 : Int).toNat) (c := co55) hC56 (by omega) hroom56
               obtain ⟨A56, hA56⟩ : ∃ A1, A1 = (if co55 = (1 : Int).toNat then Ao55 else (Ao55 : Option Addr).map (·.add ((1 : Int).toNat * 6))) := ⟨_, rfl⟩
               obtain ⟨c56, hc56⟩ : ∃ c1, c1 = co55 - (1 : Int).toNat := ⟨_, rfl⟩
               have hy56 : y253.length = x9_4.length - (1 : Int).toNat := (by rw [Ny253.out, List.length_drop] <;> omega)
               rw [show (x9_4).drop (1 : Int).toNat = y253 from Ny253.out.symm] at hr56
               replace hr56 : Kd.C k82 _ A56 y253.length y253 := (by rw [hA56]; exact hr56)
               rw [← hy56, ← hA56, ← hc56] at hcut56
               have HR256 := Aside0.mk hr56
               have HC256 := Aside0.mk (show y253.length ≤ c56 from (by rw [hy56, hc56]; exact Nat.sub_le_sub_right hroom56 _))
               clear hr56 hC56 hroom56 hi056 hsz56 hc56
               have KY56 := Aside0.mk hy56
               have KA56 := Aside0.mk hA56
               clear hy56 hA56
               have KL56 := Aside0.mk (show 1 ≤ x9_4.length from (by omega))
               replace q56 := eq_true q56
               go_wp2_with (first | ((with_reducible refine gate_callee (f := 104) rfl ?_); refine goesL_ (some 82) rfl rfl Try.func104 B8x13_ rfl #[.slice A56 y253.length c56] rfl B8x8_ ?_; (with_reducible refine (spec_l11CopyBits.calls k4 _ _ y253 t257 _ ?side1 ?side2 A54.out).mono ?_); (case side1 => repeat (first | exact B8x39_ | (with_reducible refine Kd.C_alloc ?_ _) | (with_reducible refine Kd.C_drewN ?_ _) | (with_reducible refine Kd.C_drew ?_))); (case side2 => exact HC256.out); rintro e w57 ⟨v258, rfl, ho0, hb⟩; refine ⟨_, rfl, ?_⟩; have HO259 := Aside0.mk (Kd.S_lower (Kd.S_new' (Kd.S_newM (M := fun k_ => (w.heap.size ≤ k_)) ho0 (below_size B8x0_) (fun k_ h_ => h_)) (Kd.S_lt B8x7_)) (below_size B8x0_)); replace HO_9 := Aside0.mk (Kd.S_elder' B8x7_ (Kd.S_base ho0) hb); replace BK241 := Aside0.mk (bb BK241.out hb); replace BK242 := Aside0.mk (bb BK242.out hb); replace HR256 := Aside0.mk (Kd.C_below B8x39_ hb); replace HB := Aside0.mk (below_step B8x0_ hb); (try clear hb); (try clear hl); (try clear ho0)))
               go_roundg k4
               case measure => have := HJ4.out; have := HJ21.out; have := HK3.out; have := HK4.out; omega
               case rel => exact ⟨(t257), H', ⟨(by have := HJ4.out; have := HJ21.out; have := HK3.out; have := HK4.out; omega)⟩, ⟨(by (with_reducible repeat (first | apply Kd.S_alloc | apply Kd.S_drewN | apply Kd.S_drew)); exact Kd.S_mono HO259.out (fun _ hk => hk.1.1))⟩, ⟨B8x6_⟩, ⟨B8x5_⟩, ⟨B8x0_⟩⟩
              ·rw [if_neg c52] at H
               have c52b0 : decide (3 < (x9_4.length : Int)) = false := decide_eq_false c52
               have c52b1 : decide (3 < x9_4.length) = false := decide_eq_false (by omega)
               clear c52
               have H' := Aside0.mk H
               clear H
               obtain ⟨Ao58, co58, eo58⟩ := Kd.S_slice HO_9.out
               subst eo58
               go_wp2
               go_meet
               case rel => exact ⟨_, (x9_4), (wrap64 ((x9_4.length : Int) - 1)), (be_), H', ⟨(by have := HJ4.out; have := HJ21.out; have := HK3.out; have := HK4.out; first | omega | exact Nat.le_refl _)⟩, ⟨B8x7_⟩, ⟨B8x6_⟩, ⟨B8x5_⟩, ⟨B8x0_⟩⟩
           ·rw [if_neg c47] at H
            have c47b0 : decide (x10_3 < 0) = false := decide_eq_false c47
            clear c47
            (first | rw [c47b0] | (simp only [i64_w, i32_w]; rw [c47b0]) | skip)
            have H' := Aside0.mk H
            clear H
            go_wp2
            go_meet
            case rel => exact ⟨_, (t243), (x10_3), (be_), H', ⟨B8x28_⟩, ⟨B8x7_⟩, ⟨B8x6_⟩, ⟨B8x5_⟩, ⟨B8x0_⟩⟩
          case rest =>
           clear HC46
           try clear c37
           try clear c37b0
           obtain ⟨kq, x9_45, x10_45, rfl, HA, HJ45, HO_9, BK241, BK242, HB⟩ := hcut
           cases kq with
           | zero => exact absurd HA.out (by simp [spec_JoinBits.j5])
           | succ kj45 =>
            have H := HA.out
            clear HA
            simp only [spec_JoinBits.j5] at H
            have H' := Aside0.mk H
            clear H
            go_wp2
            go_loopg [12, 13] kj45 (fun kq v12 v13 w' => ∃ (x12_5 : Bool) (x13_5 : Int), v12 = .bool x12_5 ∧ v13 = .int .i64 x13_5 ∧ Aside0 (spec_JoinBits.l2 kq x9_45 x10_45 x12_5 x13_5 a1_0 a1_1 a1_2 a1_3 a1_4 a1_5 = some (r1, r2, r3, r4, r5, r6, r7, r8)) ∧ Aside0 (kq ≤ kj45) ∧ Aside0 (Kd.S k82 82 w' w.heap.size (fun k_ => (w.heap.size ≤ k_)) u9 x9_45) ∧ Aside0 (w'.heap[gb241]? = some (.cells #[.int .i64 a1_0, .int .i64 a1_1, .int .i64 a1_2, .int .i64 a1_3, .bool a1_4, .string a1_5] 62 (0, 0))) ∧ Aside0 (w'.heap[gb242]? = some (.cells #[.int .i64 0, .int .i64 0, .int .i64 0, .int .i64 0, .bool false, .string (⟨#[]⟩ : ByteArray)] 62 (0, 0))) ∧ Aside0 (Below w.heap.size w w'))
            case atStart => exact ⟨(false), (0), (be_), (be_), H', ⟨Nat.le_refl _⟩, ⟨B8x7_⟩, ⟨B8x6_⟩, ⟨B8x5_⟩, ⟨B8x0_⟩⟩
            case round =>
             clear H'
             try clear c37
             try clear c37b0
             obtain ⟨x12_5, x13_5, rfl, rfl, HA, HK5, HO_9, BK241, BK242, HB⟩ := hrel
             cases gk with
             | zero => exact absurd HA.out (by simp [spec_JoinBits.l2])
             | succ k5 =>
              have H := HA.out
              clear HA
              simp only [spec_JoinBits.l2] at H
              by_cases c59 : 0 ≤ x10_45
              rotate_left
              ·rw [if_neg c59] at H
               exact absurd H (by simp)
              rw [if_pos c59] at H
              have c59b0 : decide (0 ≤ x10_45) = true := decide_eq_true c59
              clear c59
              by_cases c60 : x10_45 < (x9_45.length : Int)
              rotate_left
              ·rw [if_neg c60] at H
               exact absurd H (by simp)
              rw [if_pos c60] at H
              have c60b0 : decide (x10_45 < (x9_45.length : Int)) = true := decide_eq_true c60
              clear c60
              by_cases c61 : x13_5 < (((rd_T82 x9_45 x10_45).f3).length : Int)
              ·rw [if_pos c61] at H
               have c61b0 : decide (x13_5 < (((rd_T82 x9_45 x10_45).f3).length : Int)) = true := decide_eq_true c61
               clear c61
               have HC62 := Aside0.mk H
               clear H
               obtain ⟨Ao63, co63, eo63⟩ := Kd.S_slice HO_9.out
               subst eo63
               have p260 : 0 ≤ (x10_45 : Int) := of_decide_eq_true B8x3_
               have q260 : x10_45 < (x9_45.length : Int) := of_decide_eq_true B8x3_
               obtain ⟨ad260, A260_2, c260_2, A260_3, c260_3, e260, hx260_0, hx260_1, hx260_2, hx260_3, hx260_4, hx260_5, hl260_2, hi260_2, hl260_3, hi260_3⟩ := at_T82 (Kd.S_reads' HO_9.out).2.2 x10_45 p260 q260
               cases e260
               obtain ⟨ce260, hce260, hMe260, hcc260⟩ := Kd.S_get HO_9.out z82 x10_45 p260 B8x48_
               obtain ⟨ve260_2, ve260_3, rfl, ge260_2, ge260_3⟩ := k82_openM hMe260
               have hv260_2 := hcc260 2 _ rfl
               rw [add_field _ _ 2 (by omega)] at hv260_2
               replace hv260_2 := Option.some.inj (hv260_2.symm.trans hx260_2)
               rw [hv260_2] at ge260_2
               have HL260_2 := Aside0.mk (show Kd.R Kd.string 9 _ _ _ _ ((rd_T82 x9_45 x10_45).f2) from ge260_2)
               clear hv260_2 ge260_2
               have HX260_2 := Aside0.mk hx260_2
               have hv260_3 := hcc260 3 _ rfl
               rw [add_field _ _ 3 (by omega)] at hv260_3
               replace hv260_3 := Option.some.inj (hv260_3.symm.trans hx260_3)
               rw [hv260_3] at ge260_3
               have HL260_3 := Aside0.mk (show Kd.R (Kd.int .i64) 3 _ _ _ _ ((rd_T82 x9_45 x10_45).f3) from ge260_3)
               clear hv260_3 ge260_3
               have HX260_3 := Aside0.mk hx260_3
               clear hcc260 hce260
               have HR260_2 := Aside0.mk hi260_2
               have HC260_2 := Aside0.mk hl260_2
               clear hi260_2 hl260_2
               have HR260_3 := Aside0.mk hi260_3
               have HC260_3 := Aside0.mk hl260_3
               clear hi260_3 hl260_3
               replace p260 := eq_true p260
               replace q260 := eq_true q260
               go_upto_block 5 with (fail)
               go_cut [12] (fun v12 wc => ∃ (kq : Nat) (x12_61 : Bool), v12 = .bool x12_61 ∧ Aside0 (spec_JoinBits.j7 kq x9_45 x10_45 x12_61 x13_5 a1_0 a1_1 a1_2 a1_3 a1_4 a1_5 = some (r1, r2, r3, r4, r5, r6, r7, r8)) ∧ Aside0 (kq ≤ k5) ∧ Aside0 (Kd.S k82 82 wc w.heap.size (fun k_ => (w.heap.size ≤ k_)) (.slice (some ad260) x9_45.length co63) x9_45) ∧ Aside0 (wc.heap[gb241]? = some (.cells #[.int .i64 a1_0, .int .i64 a1_1, .int .i64 a1_2, .int .i64 a1_3, .bool a1_4, .string a1_5] 62 (0, 0))) ∧ Aside0 (wc.heap[gb242]? = some (.cells #[.int .i64 0, .int .i64 0, .int .i64 0, .int .i64 0, .bool false, .string (⟨#[]⟩ : ByteArray)] 62 (0, 0))) ∧ Aside0 (Kd.C Kd.string wc A260_2 ((rd_T82 x9_45 x10_45).f2).length ((rd_T82 x9_45 x10_45).f2)) ∧ Aside0 (Kd.C (Kd.int .i64) wc A260_3 ((rd_T82 x9_45 x10_45).f3).length ((rd_T82 x9_45 x10_45).f3)) ∧ Aside0 (Below w.heap.size w wc))
               case first =>
                have H := HC62.out
                clear HC62
                by_cases c64 : x12_5 = true
                ·subst c64
                 rw [if_pos rfl] at H
                 have H' := Aside0.mk H
                 clear H
                 try go_wp2
                 replace HO_9 := Aside0.mk (Kd.S_drew HO_9.out)
                 replace HL260_2 := Aside0.mk (Kd.R_drew HL260_2.out)
                 replace HL260_3 := Aside0.mk (Kd.R_drew HL260_3.out)
                 replace BK241 := Aside0.mk (blk_drew BK241.out)
                 replace BK242 := Aside0.mk (blk_drew BK242.out)
                 replace HR260_2 := Aside0.mk (Kd.C_drew HR260_2.out)
                 replace HR260_3 := Aside0.mk (Kd.C_drew HR260_3.out)
                 replace HB := Aside0.mk (below_drew1 HB.out)
                 refine start_ (n := 15) (S := fun w' => True) (ds := []) #[false, false, false, false, false, false, false, false, false, false, false, false, false, false, false] B8x13_ rfl rfl trivial (fun hHeld => ?_); refine with_tabW spec_JoinBits.tab21 spec_JoinBits.bits21 (fun HT_ HW_ => ?_)
                 generalize wr.drew = w65 at HO_9 HL260_2 HL260_3 BK241 BK242 HR260_2 HR260_3 HB hHeld ⊢
                 refine pu_ 0 96 HT_ ?_
                 refine pu_ 1 97 HT_ ?_
                 refine of_ 2 98 HT_ ?_
                 refine of_ 3 99 HT_ ?_
                 refine of_ 4 100 HT_ ?_
                 refine of_ 5 101 HT_ ?_
                 refine of_ 6 102 HT_ ?_
                 refine of_ 7 103 HT_ ?_
                 refine of_ 8 104 HT_ ?_
                 refine of_ 9 105 HT_ ?_
                 refine of_ 10 106 HT_ ?_
                 refine of_ 11 107 HT_ ?_
                 refine of_ 12 108 HT_ ?_
                 refine pu_ 13 109 HT_ ?_
                 refine pu_ 14 12 HT_ ?_
                 refine done_ (done_of HT_.out B8x13_) ?_
                 try go_wp2
                 go_meet
                 case rel => exact ⟨_, (true), (be_), H', ⟨B8x14_⟩, ⟨B8x7_⟩, ⟨B8x6_⟩, ⟨B8x5_⟩, ⟨B8x37_⟩, ⟨B8x38_⟩, ⟨B8x0_⟩⟩
                ·replace c64 := Bool.eq_false_iff.mpr c64
                 subst c64
                 rw [if_neg (show ¬ (false = true) by decide)] at H
                 by_cases c66 : 0 ≤ x13_5
                 rotate_left
                 ·rw [if_neg c66] at H
                  exact absurd H (by simp)
                 rw [if_pos c66] at H
                 have c66b0 : decide (0 ≤ x13_5) = true := decide_eq_true c66
                 clear c66
                 (first | rw [c66b0] | (simp only [i64_w, i32_w]; rw [c66b0]) | skip)
                 have H' := Aside0.mk H
                 clear H
                 try go_wp2
                 replace HO_9 := Aside0.mk (Kd.S_drew HO_9.out)
                 replace HL260_2 := Aside0.mk (Kd.R_drew HL260_2.out)
                 replace HL260_3 := Aside0.mk (Kd.R_drew HL260_3.out)
                 replace BK241 := Aside0.mk (blk_drew BK241.out)
                 replace BK242 := Aside0.mk (blk_drew BK242.out)
                 replace HR260_2 := Aside0.mk (Kd.C_drew HR260_2.out)
                 replace HR260_3 := Aside0.mk (Kd.C_drew HR260_3.out)
                 replace HB := Aside0.mk (below_drew1 HB.out)
                 have p261 : 0 ≤ (x10_45 : Int) := of_decide_eq_true B8x3_
                 have q261 : x10_45 < (x9_45.length : Int) := of_decide_eq_true B8x3_
                 obtain ⟨ad261, A261_2, c261_2, A261_3, c261_3, e261, hx261_0, hx261_1, hx261_2, hx261_3, hx261_4, hx261_5, hl261_2, hi261_2, hl261_3, hi261_3⟩ := at_T82 (Kd.S_reads' HO_9.out).2.2 x10_45 p261 q261
                 obtain rfl : ad260 = ad261 := (by injection e261)
                 obtain ⟨ce261, hce261, hMe261, hcc261⟩ := Kd.S_get HO_9.out z82 x10_45 p261 (by first | exact q261 | exact of_decide_eq_true B8x3_ | (have e_ := (Kd.S_reads' HO_9.out).1; omega))
                 obtain ⟨ve261_2, ve261_3, rfl, ge261_2, ge261_3⟩ := k82_openM hMe261
                 have hv261_2 := hcc261 2 _ rfl
                 rw [add_field _ _ 2 (by omega)] at hv261_2
                 replace hv261_2 := Option.some.inj (hv261_2.symm.trans hx261_2)
                 rw [hv261_2] at ge261_2
                 have HL261_2 := Aside0.mk (show Kd.R Kd.string 9 _ _ _ _ ((rd_T82 x9_45 x10_45).f2) from ge261_2)
                 clear hv261_2 ge261_2
                 have HX261_2 := Aside0.mk hx261_2
                 have hv261_3 := hcc261 3 _ rfl
                 rw [add_field _ _ 3 (by omega)] at hv261_3
                 replace hv261_3 := Option.some.inj (hv261_3.symm.trans hx261_3)
                 rw [hv261_3] at ge261_3
                 have HL261_3 := Aside0.mk (show Kd.R (Kd.int .i64) 3 _ _ _ _ ((rd_T82 x9_45 x10_45).f3) from ge261_3)
                 clear hv261_3 ge261_3
                 have HX261_3 := Aside0.mk hx261_3
                 clear hcc261 hce261
                 have HR261_2 := Aside0.mk hi261_2
                 have HC261_2 := Aside0.mk hl261_2
                 clear hi261_2 hl261_2
                 have HR261_3 := Aside0.mk hi261_3
                 have HC261_3 := Aside0.mk hl261_3
                 clear hi261_3 hl261_3
                 replace p261 := eq_true p261
                 replace q261 := eq_true q261
                 have p262 : 0 ≤ (x13_5 : Int) := of_decide_eq_true B8x3_
                 have q262 : x13_5 < (((rd_T82 x9_45 x10_45).f3).length : Int) := of_decide_eq_true B8x3_
                 obtain ⟨ad262, e262, hx262_0⟩ := Kd.at_int (by repeat (first | (with_reducible exact HR261_3.out) | (with_reducible refine Kd.C_alloc ?_ _) | (with_reducible refine Kd.C_drewN ?_ _) | (with_reducible refine Kd.C_drew ?_) | exact HR261_3.out)) x13_5 p262 q262
                 cases e262
                 replace p262 := eq_true p262
                 replace q262 := eq_true q262
                 refine start_ (n := 15) (S := fun w' => w'.cell? ⟨gb241, 0, none⟩ = some (.int .i64 a1_0) ∧ w'.cell? ⟨gb241, 1, none⟩ = some (.int .i64 a1_1) ∧ w'.cell? ⟨gb241, 2, none⟩ = some (.int .i64 a1_2) ∧ w'.cell? ⟨gb241, 3, none⟩ = some (.int .i64 a1_3) ∧ w'.cell? ⟨gb241, 4, none⟩ = some (.bool a1_4) ∧ w'.cell? ⟨gb241, 5, none⟩ = some (.string a1_5) ∧ w'.cell? (ad260.add ((x10_45).toNat * 6)) = some (.int .i64 ((rd_T82 x9_45 x10_45).f0)) ∧ w'.cell? ⟨(ad260.add ((x10_45).toNat * 6)).block, (ad260.add ((x10_45).toNat * 6)).off + 1, none⟩ = some (.int .i64 ((rd_T82 x9_45 x10_45).f1)) ∧ w'.cell? ⟨(ad260.add ((x10_45).toNat * 6)).block, (ad260.add ((x10_45).toNat * 6)).off + 2, none⟩ = some (.slice A261_2 ((rd_T82 x9_45 x10_45).f2).length c261_2) ∧ w'.cell? ⟨(ad260.add ((x10_45).toNat * 6)).block, (ad260.add ((x10_45).toNat * 6)).off + 3, none⟩ = some (.slice (some ad262) ((rd_T82 x9_45 x10_45).f3).length c261_3) ∧ w'.cell? ⟨(ad260.add ((x10_45).toNat * 6)).block, (ad260.add ((x10_45).toNat * 6)).off + 4, none⟩ = some (.int .i64 ((rd_T82 x9_45 x10_45).f4)) ∧ w'.cell? ⟨(ad260.add ((x10_45).toNat * 6)).block, (ad260.add ((x10_45).toNat * 6)).off + 5, none⟩ = some (.int .i64 ((rd_T82 x9_45 x10_45).f5)) ∧ w'.cell? (ad262.add (x13_5).toNat) = some (.int .i64 (rd ((rd_T82 x9_45 x10_45).f3) x13_5))) (ds := []) #[false, false, false, false, false, false, false, false, false, false, false, false, false, false, false] B8x13_ rfl rfl ⟨(blk_cell BK241.out 0).trans rfl, (blk_cell BK241.out 1).trans rfl, (blk_cell BK241.out 2).trans rfl, (blk_cell BK241.out 3).trans rfl, (blk_cell BK241.out 4).trans rfl, (blk_cell BK241.out 5).trans rfl, hx261_0, hx261_1, hx261_2, hx261_3, hx261_4, hx261_5, hx262_0⟩ (fun hHeld => ?_); refine with_tabW spec_JoinBits.tab21 spec_JoinBits.bits21 (fun HT_ HW_ => ?_)
                 generalize wr.drew = w67 at HO_9 HL260_2 HL260_3 BK241 BK242 HR260_2 HR260_3 HB HL261_2 HL261_3 HR261_2 HR261_3 HX261_2 HX261_3 hx261_0 hx261_1 hx261_2 hx261_3 hx261_4 hx261_5 hx262_0 hHeld ⊢
                 refine pu_ 0 96 HT_ ?_
                 refine pu_ 1 97 HT_ ?_
                 refine pu_ 2 98 HT_ ?_
                 refine pu_ 3 99 HT_ ?_
                 refine pu_ 4 100 HT_ ?_
                 refine pu_ 5 101 HT_ ?_
                 refine pu_ 7 103 HT_ ?_
                 refine pu_ 10 106 HT_ ?_
                 refine ta_ 6 102 HT_ HW_ hHeld ?_
                 refine pu_ 8 104 HT_ ?_
                 refine ta_ 9 105 HT_ HW_ hHeld ?_
                 refine ta_ 11 107 HT_ HW_ hHeld ?_
                 refine pu_ 12 108 HT_ ?_
                 refine pu_ 13 109 HT_ ?_
                 refine pu_ 14 12 HT_ ?_
                 refine done_ (done_of HT_.out B8x13_) ?_
                 try go_wp2
                 go_meet
                 case rel => exact ⟨_, (((rd ((rd_T82 x9_45 x10_45).f3) x13_5) == a1_3)), (be_), H', ⟨B8x14_⟩, ⟨B8x7_⟩, ⟨B8x6_⟩, ⟨B8x5_⟩, ⟨B8x37_⟩, ⟨B8x38_⟩, ⟨B8x0_⟩⟩
               case rest =>
                clear HC62
                try clear c37
                try clear c37b0
                try clear c59
                try clear c59b0
                try clear c60
                try clear c60b0
                try clear c61
                try clear c61b0
                try clear hx260_0
                try clear hx260_1
                try clear hx260_2
                try clear hx260_3
                try clear hx260_4
                try clear hx260_5
                try clear p260
                try clear q260
                obtain ⟨kq, x12_61, rfl, HA, HJ61, HO_9, BK241, BK242, HR260_2, HR260_3, HB⟩ := hcut
                cases kq with
                | zero => exact absurd HA.out (by simp [spec_JoinBits.j7])
                | succ kj61 =>
                 have H := HA.out
                 clear HA
                 simp only [spec_JoinBits.j7] at H
                 have H' := Aside0.mk H
                 clear H
                 go_wp2
                 go_roundg kj61
                 case measure => have := HJ4.out; have := HJ21.out; have := HK3.out; have := HJ45.out; have := HK5.out; have := HJ61.out; omega
                 case rel => exact ⟨(x12_61), (wrap64 (x13_5 + 1)), (be_), (be_), H', ⟨(by have := HJ4.out; have := HJ21.out; have := HK3.out; have := HJ45.out; have := HK5.out; have := HJ61.out; omega)⟩, ⟨B8x7_⟩, ⟨B8x6_⟩, ⟨B8x5_⟩, ⟨B8x0_⟩⟩
              ·rw [if_neg c61] at H
               have c61b0 : decide (x13_5 < (((rd_T82 x9_45 x10_45).f3).length : Int)) = false := decide_eq_false c61
               clear c61
               have HC68 := Aside0.mk H
               clear H
               obtain ⟨Ao69, co69, eo69⟩ := Kd.S_slice HO_9.out
               subst eo69
               have p260 : 0 ≤ (x10_45 : Int) := of_decide_eq_true B8x3_
               have q260 : x10_45 < (x9_45.length : Int) := of_decide_eq_true B8x3_
               obtain ⟨ad260, A260_2, c260_2, A260_3, c260_3, e260, hx260_0, hx260_1, hx260_2, hx260_3, hx260_4, hx260_5, hl260_2, hi260_2, hl260_3, hi260_3⟩ := at_T82 (Kd.S_reads' HO_9.out).2.2 x10_45 p260 q260
               cases e260
               obtain ⟨ce260, hce260, hMe260, hcc260⟩ := Kd.S_get HO_9.out z82 x10_45 p260 B8x48_
               obtain ⟨ve260_2, ve260_3, rfl, ge260_2, ge260_3⟩ := k82_openM hMe260
               have hv260_2 := hcc260 2 _ rfl
               rw [add_field _ _ 2 (by omega)] at hv260_2
               replace hv260_2 := Option.some.inj (hv260_2.symm.trans hx260_2)
               rw [hv260_2] at ge260_2
               have HL260_2 := Aside0.mk (show Kd.R Kd.string 9 _ _ _ _ ((rd_T82 x9_45 x10_45).f2) from ge260_2)
               clear hv260_2 ge260_2
               have HX260_2 := Aside0.mk hx260_2
               have hv260_3 := hcc260 3 _ rfl
               rw [add_field _ _ 3 (by omega)] at hv260_3
               replace hv260_3 := Option.some.inj (hv260_3.symm.trans hx260_3)
               rw [hv260_3] at ge260_3
               have HL260_3 := Aside0.mk (show Kd.R (Kd.int .i64) 3 _ _ _ _ ((rd_T82 x9_45 x10_45).f3) from ge260_3)
               clear hv260_3 ge260_3
               have HX260_3 := Aside0.mk hx260_3
               clear hcc260 hce260
               have HR260_2 := Aside0.mk hi260_2
               have HC260_2 := Aside0.mk hl260_2
               clear hi260_2 hl260_2
               have HR260_3 := Aside0.mk hi260_3
               have HC260_3 := Aside0.mk hl260_3
               clear hi260_3 hl260_3
               replace p260 := eq_true p260
               replace q260 := eq_true q260
               go_upto_if 111 with (fail)
               go_cut [] (fun wc => ∃ (kq : Nat) (x9_67 : List (S82)), Aside0 (spec_JoinBits.j8 kq x9_67 x10_45 a1_0 a1_1 a1_2 a1_3 a1_4 a1_5 = some (r1, r2, r3, r4, r5, r6, r7, r8)) ∧ Aside0 (kq ≤ k5) ∧ Aside0 (Kd.N k82 82 wc w.heap.size (fun k_ => (w.heap.size ≤ k_) ∧ k_ ≠ gb241 ∧ k_ ≠ gb242) (.slice (some ad260) x9_45.length co69) x9_67) ∧ Aside0 (wc.heap[gb241]? = some (.cells #[.int .i64 a1_0, .int .i64 a1_1, .int .i64 a1_2, .int .i64 a1_3, .bool a1_4, .string a1_5] 62 (0, 0))) ∧ Aside0 (wc.heap[gb242]? = some (.cells #[.int .i64 0, .int .i64 0, .int .i64 0, .int .i64 0, .bool false, .string (⟨#[]⟩ : ByteArray)] 62 (0, 0))) ∧ Aside0 (Below w.heap.size w wc))
               case first => as_aux_lemma =>
                have H := HC68.out
                clear HC68
                by_cases c70 : x12_5 = true
                ·subst c70
                 rw [if_pos rfl] at H
                 have H' := Aside0.mk H
                 clear H
                 go_wp2
                 go_meet
                 case rel => exact ⟨_, (x9_45), H', ⟨B8x14_⟩, ⟨Kd.R_N ((Kd.S_R B8x17_))⟩, ⟨B8x6_⟩, ⟨B8x5_⟩, ⟨B8x0_⟩⟩
                ·replace c70 := Bool.eq_false_iff.mpr c70
                 subst c70
                 rw [if_neg (show ¬ (false = true) by decide)] at H
                 by_cases c71 : ((rd_T82 x9_45 x10_45).f3).length < 17592186044416
                 rotate_left
                 ·rw [if_neg c71] at H
                  exact absurd H (by simp)
                 rw [if_pos c71] at H
                 have LMc71 := Aside0.mk c71
                 clear c71
                 obtain ⟨y264, hy264⟩ : ∃ y_ : List Int, y_ = (((rd_T82 x9_45 x10_45).f3) ++ [a1_3]) := ⟨_, rfl⟩
                 replace H : ((some (x9_45.set (x10_45 : Int).toNat (⟨(rd_T82 x9_45 x10_45).f0, (rd_T82 x9_45 x10_45).f1, (rd_T82 x9_45 x10_45).f2, y264, (rd_T82 x9_45 x10_45).f4, (rd_T82 x9_45 x10_45).f5⟩ : S82) : List (S82))).bind fun y267 => (if ((rd_T82 y267 x10_45).f2).length < 8796093022208 then ((some (y267.set (x10_45 : Int).toNat (⟨(rd_T82 y267 x10_45).f0, (rd_T82 y267 x10_45).f1, (((rd_T82 y267 x10_45).f2) ++ [a1_5]), (rd_T82 y267 x10_45).f3, (rd_T82 y267 x10_45).f4, (rd_T82 y267 x10_45).f5⟩ : S82) : List (S82))).bind fun y272 => (if a1_4 = true then (spec_JoinBits.j8 k5 y272 x10_45 a1_0 a1_1 a1_2 a1_3 a1_4 a1_5) else (if ((rd_T82 y272 x10_45).f4) = 0 then (spec_JoinBits.j8 k5 (y272.set (x10_45 : Int).toNat (⟨(rd_T82 y272 x10_45).f0, (rd_T82 y272 x10_45).f1, (rd_T82 y272 x10_45).f2, (rd_T82 y272 x10_45).f3, wrap64 (a1_3 + (a1_5.size : Int)), (rd_T82 y272 x10_45).f5⟩ : S82)) x10_45 a1_0 a1_1 a1_2 a1_3 a1_4 a1_5) else (spec_JoinBits.j8 k5 y272 x10_45 a1_0 a1_1 a1_2 a1_3 a1_4 a1_5)))) else (none))) = some (r1, r2, r3, r4, r5, r6, r7, r8) := by first | (rw [hy264]; with_reducible exact H) | (have H2_ := (Option.bind_some _ _).symm.trans H; rw [hy264]; with_reducible exact H2_) | (have H2_ := (Option.bind_some _ _).symm.trans H; with_reducible exact H2_) | with_reducible exact H | (rw [hy264]; exact H) | exact H
                 have Ny264 := Aside0.mk hy264
                 clear hy264
                 obtain ⟨y267, hy267⟩ : ∃ y_ : List (S82), y_ = (x9_45.set (x10_45 : Int).toNat (⟨(rd_T82 x9_45 x10_45).f0, (rd_T82 x9_45 x10_45).f1, (rd_T82 x9_45 x10_45).f2, y264, (rd_T82 x9_45 x10_45).f4, (rd_T82 x9_45 x10_45).f5⟩ : S82)) := ⟨_, rfl⟩
                 replace H : (if ((rd_T82 y267 x10_45).f2).length < 8796093022208 then ((some (y267.set (x10_45 : Int).toNat (⟨(rd_T82 y267 x10_45).f0, (rd_T82 y267 x10_45).f1, (((rd_T82 y267 x10_45).f2) ++ [a1_5]), (rd_T82 y267 x10_45).f3, (rd_T82 y267 x10_45).f4, (rd_T82 y267 x10_45).f5⟩ : S82) : List (S82))).bind fun y272 => (if a1_4 = true then (spec_JoinBits.j8 k5 y272 x10_45 a1_0 a1_1 a1_2 a1_3 a1_4 a1_5) else (if ((rd_T82 y272 x10_45).f4) = 0 then (spec_JoinBits.j8 k5 (y272.set (x10_45 : Int).toNat (⟨(rd_T82 y272 x10_45).f0, (rd_T82 y272 x10_45).f1, (rd_T82 y272 x10_45).f2, (rd_T82 y272 x10_45).f3, wrap64 (a1_3 + (a1_5.size : Int)), (rd_T82 y272 x10_45).f5⟩ : S82)) x10_45 a1_0 a1_1 a1_2 a1_3 a1_4 a1_5) else (spec_JoinBits.j8 k5 y272 x10_45 a1_0 a1_1 a1_2 a1_3 a1_4 a1_5)))) else (none)) = some (r1, r2, r3, r4, r5, r6, r7, r8) := by first | (rw [hy267]; with_reducible exact H) | (have H2_ := (Option.bind_some _ _).symm.trans H; rw [hy267]; with_reducible exact H2_) | (have H2_ := (Option.bind_some _ _).symm.trans H; with_reducible exact H2_) | with_reducible exact H | (rw [hy267]; exact H) | exact H
                 have Ny267 := Aside0.mk hy267
                 clear hy267
                 by_cases c73 : ((rd_T82 y267 x10_45).f2).length < 8796093022208
                 rotate_left
                 ·rw [if_neg c73] at H
                  exact absurd H (by simp)
                 rw [if_pos c73] at H
                 have LMc73 := Aside0.mk c73
                 clear c73
                 obtain ⟨y269, hy269⟩ : ∃ y_ : List ByteArray, y_ = (((rd_T82 y267 x10_45).f2) ++ [a1_5]) := ⟨_, rfl⟩
                 replace H : ((some (y267.set (x10_45 : Int).toNat (⟨(rd_T82 y267 x10_45).f0, (rd_T82 y267 x10_45).f1, y269, (rd_T82 y267 x10_45).f3, (rd_T82 y267 x10_45).f4, (rd_T82 y267 x10_45).f5⟩ : S82) : List (S82))).bind fun y272 => (if a1_4 = true then (spec_JoinBits.j8 k5 y272 x10_45 a1_0 a1_1 a1_2 a1_3 a1_4 a1_5) else (if ((rd_T82 y272 x10_45).f4) = 0 then (spec_JoinBits.j8 k5 (y272.set (x10_45 : Int).toNat (⟨(rd_T82 y272 x10_45).f0, (rd_T82 y272 x10_45).f1, (rd_T82 y272 x10_45).f2, (rd_T82 y272 x10_45).f3, wrap64 (a1_3 + (a1_5.size : Int)), (rd_T82 y272 x10_45).f5⟩ : S82)) x10_45 a1_0 a1_1 a1_2 a1_3 a1_4 a1_5) else (spec_JoinBits.j8 k5 y272 x10_45 a1_0 a1_1 a1_2 a1_3 a1_4 a1_5)))) = some (r1, r2, r3, r4, r5, r6, r7, r8) := by first | (rw [hy269]; with_reducible exact H) | (have H2_ := (Option.bind_some _ _).symm.trans H; rw [hy269]; with_reducible exact H2_) | (have H2_ := (Option.bind_some _ _).symm.trans H; with_reducible exact H2_) | with_reducible exact H | (rw [hy269]; exact H) | exact H
                 have Ny269 := Aside0.mk hy269
                 clear hy269
                 obtain ⟨y272, hy272⟩ : ∃ y_ : List (S82), y_ = (y267.set (x10_45 : Int).toNat (⟨(rd_T82 y267 x10_45).f0, (rd_T82 y267 x10_45).f1, y269, (rd_T82 y267 x10_45).f3, (rd_T82 y267 x10_45).f4, (rd_T82 y267 x10_45).f5⟩ : S82)) := ⟨_, rfl⟩
                 replace H : (if a1_4 = true then (spec_JoinBits.j8 k5 y272 x10_45 a1_0 a1_1 a1_2 a1_3 a1_4 a1_5) else (if ((rd_T82 y272 x10_45).f4) = 0 then (spec_JoinBits.j8 k5 (y272.set (x10_45 : Int).toNat (⟨(rd_T82 y272 x10_45).f0, (rd_T82 y272 x10_45).f1, (rd_T82 y272 x10_45).f2, (rd_T82 y272 x10_45).f3, wrap64 (a1_3 + (a1_5.size : Int)), (rd_T82 y272 x10_45).f5⟩ : S82)) x10_45 a1_0 a1_1 a1_2 a1_3 a1_4 a1_5) else (spec_JoinBits.j8 k5 y272 x10_45 a1_0 a1_1 a1_2 a1_3 a1_4 a1_5))) = some (r1, r2, r3, r4, r5, r6, r7, r8) := by first | (rw [hy272]; with_reducible exact H) | (have H2_ := (Option.bind_some _ _).symm.trans H; rw [hy272]; with_reducible exact H2_) | (have H2_ := (Option.bind_some _ _).symm.trans H; with_reducible exact H2_) | with_reducible exact H | (rw [hy272]; exact H) | exact H
                 have Ny272 := Aside0.mk hy272
                 clear hy272
                 by_cases c75 : a1_4 = true
                 ·subst c75
                  rw [if_pos rfl] at H
                  have H' := Aside0.mk H
                  clear H
                  try go_wp2
                  replace HO_9 := Aside0.mk (Kd.S_drew HO_9.out)
                  replace HL260_2 := Aside0.mk (Kd.R_drew HL260_2.out)
                  replace HL260_3 := Aside0.mk (Kd.R_drew HL260_3.out)
                  replace BK241 := Aside0.mk (blk_drew BK241.out)
                  replace BK242 := Aside0.mk (blk_drew BK242.out)
                  replace HR260_2 := Aside0.mk (Kd.C_drew HR260_2.out)
                  replace HR260_3 := Aside0.mk (Kd.C_drew HR260_3.out)
                  replace HB := Aside0.mk (below_drew1 HB.out)
                  have p263 : 0 ≤ (x10_45 : Int) := of_decide_eq_true B8x3_
                  have q263 : x10_45 < (x9_45.length : Int) := of_decide_eq_true B8x3_
                  obtain ⟨ad263, A263_2, c263_2, A263_3, c263_3, e263, hx263_0, hx263_1, hx263_2, hx263_3, hx263_4, hx263_5, hl263_2, hi263_2, hl263_3, hi263_3⟩ := at_T82 (Kd.S_reads' HO_9.out).2.2 x10_45 p263 q263
                  obtain rfl : ad260 = ad263 := (by injection e263)
                  obtain ⟨ce263, hce263, hMe263, hcc263⟩ := Kd.S_get HO_9.out z82 x10_45 p263 B8x35_
                  obtain ⟨ve263_2, ve263_3, rfl, ge263_2, ge263_3⟩ := k82_openM hMe263
                  have hv263_2 := hcc263 2 _ rfl
                  rw [add_field _ _ 2 (by omega)] at hv263_2
                  replace hv263_2 := Option.some.inj (hv263_2.symm.trans hx263_2)
                  rw [hv263_2] at ge263_2
                  have HL263_2 := Aside0.mk (show Kd.R Kd.string 9 _ _ _ _ ((rd_T82 x9_45 x10_45).f2) from ge263_2)
                  clear hv263_2 ge263_2
                  have HX263_2 := Aside0.mk hx263_2
                  have hv263_3 := hcc263 3 _ rfl
                  rw [add_field _ _ 3 (by omega)] at hv263_3
                  replace hv263_3 := Option.some.inj (hv263_3.symm.trans hx263_3)
                  rw [hv263_3] at ge263_3
                  have HL263_3 := Aside0.mk (show Kd.R (Kd.int .i64) 3 _ _ _ _ ((rd_T82 x9_45 x10_45).f3) from ge263_3)
                  clear hv263_3 ge263_3
                  have HX263_3 := Aside0.mk hx263_3
                  clear hcc263 hce263
                  have HR263_2 := Aside0.mk hi263_2
                  have HC263_2 := Aside0.mk hl263_2
                  clear hi263_2 hl263_2
                  have HR263_3 := Aside0.mk hi263_3
                  have HC263_3 := Aside0.mk hl263_3
                  clear hi263_3 hl263_3
                  replace p263 := eq_true p263
                  replace q263 := eq_true q263
                  obtain ⟨go77, co77, eo77, gb77, gl77, cl77, HG77⟩ := Kd.S_form HO_9.out (by have h_ : (x10_45 : Int) < ((x9_45.length : Int) : Int) := of_decide_eq_true B8x3_; have h2_ : 0 ≤ (x10_45 : Int) := (of_decide_eq_true B8x3_); omega)
                  (first | cases eo77 | (injection eo77 with ea_ en_ ec_; (first | subst ea_ | (injection ea_ with ea_; subst ea_)); subst ec_; clear en_))
                  have GB77 := Aside0.mk gb77
                  have GG77 := Aside0.mk HG77
                  clear gb77 gl77 HG77
                  (first | simp only [add_plain] at hx260_0 | skip)
                  (first | simp only [add_plain] at hx260_1 | skip)
                  (first | simp only [add_plain] at hx260_2 | skip)
                  (first | simp only [add_plain] at hx260_3 | skip)
                  (first | simp only [add_plain] at hx260_4 | skip)
                  (first | simp only [add_plain] at hx260_5 | skip)
                  (first | simp only [add_plain] at hx261_0 | skip)
                  (first | simp only [add_plain] at hx261_1 | skip)
                  (first | simp only [add_plain] at hx261_2 | skip)
                  (first | simp only [add_plain] at hx261_3 | skip)
                  (first | simp only [add_plain] at hx261_4 | skip)
                  (first | simp only [add_plain] at hx261_5 | skip)
                  (first | simp only [add_plain] at hx263_0 | skip)
                  (first | simp only [add_plain] at hx263_1 | skip)
                  (first | simp only [add_plain] at hx263_2 | skip)
                  (first | simp only [add_plain] at hx263_3 | skip)
                  (first | simp only [add_plain] at hx263_4 | skip)
                  (first | simp only [add_plain] at hx263_5 | skip)
                  obtain ⟨oki77, ce77, hcl77, hM77, hcc77, _, _, hH77⟩ := Kd.S_elem HO_9.out z82 (x10_45 : Int) (of_decide_eq_true B8x3_) (by have h_ : (x10_45 : Int) < ((x9_45.length : Int) : Int) := of_decide_eq_true B8x3_; first | exact h_ | (have e_ := (Kd.S_reads' HO_9.out).1; omega) | simpa using h_)
                  obtain ⟨ve77_2, ve77_3, rfl, ge77_2, ge77_3⟩ := k82_openM hM77
                  have hv77 := hcc77 3 _ rfl
                  have hX77 := HX263_3.out
                  (try simp only [add_plain] at hX77)
                  (try simp only [Nat.add_zero] at hv77)
                  replace hv77 := Option.some.inj (hv77.symm.trans hX77)
                  subst hv77
                  clear hX77 hcc77 hcl77
                  have UU77 := Aside0.mk (show Kd.R (Kd.int .i64) 3 _ w.heap.size oki77 (.slice A263_3 ((rd_T82 x9_45 x10_45).f3).length c263_3) ((rd_T82 x9_45 x10_45).f3) from ge77_3)
                  have HH77 := Aside0.mk hH77
                  have HN77 := Aside0.mk (Kd.S_reads' HO_9.out).1
                  have HE77_2 := Aside0.mk ge77_2
                  clear hH77 ge77_2 ge77_3
                  refine start_ (n := 14) (S := fun w' => w'.cell? ⟨gb241, 0, none⟩ = some (.int .i64 a1_0) ∧ w'.cell? ⟨gb241, 1, none⟩ = some (.int .i64 a1_1) ∧ w'.cell? ⟨gb241, 2, none⟩ = some (.int .i64 a1_2) ∧ w'.cell? ⟨gb241, 3, none⟩ = some (.int .i64 a1_3) ∧ w'.cell? ⟨gb241, 4, none⟩ = some (.bool true) ∧ w'.cell? ⟨gb241, 5, none⟩ = some (.string a1_5) ∧ w'.cell? ⟨go77, ((x10_45).toNat * 6), none⟩ = some (.int .i64 ((rd_T82 x9_45 x10_45).f0)) ∧ w'.cell? ⟨go77, ((x10_45).toNat * 6) + 1, none⟩ = some (.int .i64 ((rd_T82 x9_45 x10_45).f1)) ∧ w'.cell? ⟨go77, ((x10_45).toNat * 6) + 2, none⟩ = some (.slice A263_2 ((rd_T82 x9_45 x10_45).f2).length c263_2) ∧ w'.cell? ⟨go77, ((x10_45).toNat * 6) + 3, none⟩ = some (.slice A263_3 ((rd_T82 x9_45 x10_45).f3).length c263_3) ∧ w'.cell? ⟨go77, ((x10_45).toNat * 6) + 4, none⟩ = some (.int .i64 ((rd_T82 x9_45 x10_45).f4)) ∧ w'.cell? ⟨go77, ((x10_45).toNat * 6) + 5, none⟩ = some (.int .i64 ((rd_T82 x9_45 x10_45).f5))) (ds := [13]) #[false, false, false, false, false, false, false, false, false, false, false, false, false, false] B8x13_ rfl rfl ⟨(blk_cell BK241.out 0).trans rfl, (blk_cell BK241.out 1).trans rfl, (blk_cell BK241.out 2).trans rfl, (blk_cell BK241.out 3).trans rfl, (blk_cell BK241.out 4).trans rfl, (blk_cell BK241.out 5).trans rfl, hx263_0, hx263_1, hx263_2, hx263_3, hx263_4, hx263_5⟩ (fun hHeld => ?_); refine with_tabW spec_JoinBits.tab23 spec_JoinBits.bits23 (fun HT_ HW_ => ?_)
                  generalize wr.drew = w76 at HO_9 HL260_2 HL260_3 BK241 BK242 HR260_2 HR260_3 HB GG77 HE77_2 HH77 HL263_2 HL263_3 HR263_2 HR263_3 HX263_2 HX263_3 UU77 hx260_0 hx260_1 hx260_2 hx260_3 hx260_4 hx260_5 hx263_0 hx263_1 hx263_2 hx263_3 hx263_4 hx263_5 hHeld ⊢
                  refine pu_ 0 112 HT_ ?_
                  refine pu_ 1 113 HT_ ?_
                  refine pu_ 2 114 HT_ ?_
                  refine pu_ 3 115 HT_ ?_
                  refine pu_ 4 116 HT_ ?_
                  refine pu_ 5 117 HT_ ?_
                  refine pu_ 7 119 HT_ ?_
                  refine ta_ 6 118 HT_ HW_ hHeld ?_
                  refine ta_ 8 120 HT_ HW_ hHeld ?_
                  refine one_ (i := 9) (N := some 121) #[true, true, true, true, true, true, true, true, true, true, false, false, false, false] rfl rfl (one_of HT_.out B8x13_) (by decide) (fun K hK => ?_)
                  refine value_ (w1 := ?_) (v := ?_) (by rfl) rfl ?_ ?_
                  rotate_left 2
                  ·go_simp
                   constructor
                   ·rfl
                   ·rfl
                  refine hK.out _ _ ⟨(blk_cell (blk_alloc BK241.out _) 0).trans rfl, (blk_cell (blk_alloc BK241.out _) 1).trans rfl, (blk_cell (blk_alloc BK241.out _) 2).trans rfl, (blk_cell (blk_alloc BK241.out _) 3).trans rfl, (blk_cell (blk_alloc BK241.out _) 4).trans rfl, (blk_cell (blk_alloc BK241.out _) 5).trans rfl, (World.cell?_alloc_lt _ _ _ (World.block_lt_of_cell? _ _ (hHeld.2.2.2.2.2.2.1))).trans (hHeld.2.2.2.2.2.2.1), (World.cell?_alloc_lt _ _ _ (World.block_lt_of_cell? _ _ (hHeld.2.2.2.2.2.2.2.1))).trans (hHeld.2.2.2.2.2.2.2.1), (World.cell?_alloc_lt _ _ _ (World.block_lt_of_cell? _ _ (hHeld.2.2.2.2.2.2.2.2.1))).trans (hHeld.2.2.2.2.2.2.2.2.1), (World.cell?_alloc_lt _ _ _ (World.block_lt_of_cell? _ _ (hHeld.2.2.2.2.2.2.2.2.2.1))).trans (hHeld.2.2.2.2.2.2.2.2.2.1), (World.cell?_alloc_lt _ _ _ (World.block_lt_of_cell? _ _ (hHeld.2.2.2.2.2.2.2.2.2.2.1))).trans (hHeld.2.2.2.2.2.2.2.2.2.2.1), (World.cell?_alloc_lt _ _ _ (World.block_lt_of_cell? _ _ (hHeld.2.2.2.2.2.2.2.2.2.2.2))).trans (hHeld.2.2.2.2.2.2.2.2.2.2.2)⟩ (fun hHeld => ?_)
                  clear hK K
                  refine norm_ (a' := ?_) ?_ ?_
                  rotate_left
                  ·show Act.put _ (some 121) _ = _
                   simp only [Act.put, List.setIfInBounds_toArray, List.set_cons_zero, List.set_cons_succ, i64_w, i32_w]
                   rfl
                  refine one_ (i := 10) (N := some 122) #[true, true, true, true, true, true, true, true, true, true, true, false, false, false] rfl rfl (one_of HT_.out B8x13_) (by decide) (fun K hK => ?_)
                  refine Kd.R_append_step (Kd.int .i64) (w0 := w) w.heap.size (by rfl) (.tmp 118) (.tmp 121) 51 3 (.int .i64 0) 8 rfl Try.underlying51 info3 rfl (by decide) (by omega) (.slice A263_3 ((rd_T82 x9_45 x10_45).f3).length c263_3) ((rd_T82 x9_45 x10_45).f3) a1_3 [.int .i64 a1_3] (fun k_ => oki77 k_ ∨ ((fun k_ => (w.heap.size ≤ k_))) k_ ∧ w76.heap.size ≤ k_) (fun _ => False) rfl rfl ?aP (fun _ hk => hk.elim) ?aF ?aO ?aB ?aS ?aL ?_
                  (case aP => exact rfl)
                  (case aB => exact B8x0_)
                  (case aF => exact (fun k_ hk => .inr ⟨(by first | trivial | exact Nat.le_trans (below_size (by repeat (first | (with_reducible first | exact HB.out | apply below_alloc | apply pw_below_drewN | apply below_drew1) | exact HB.out))) hk), hk⟩))
                  (case aO => (with_reducible repeat (first | apply Kd.R_alloc | apply Kd.R_drewN | apply Kd.R_drew)); exact Kd.R_mono UU77.out (fun _ hk => .inl hk))
                  (case aS => exact B8x33_)
                  (case aL => have := LMc71.out; omega)
                  intro v265 w78 ho hb hg hat
                  (first | have HS6_ := cell_grown hg (hHeld.2.2.2.2.2.2.1) B8x1_ | have HS6_ := cell_grown hg (cell_unalloc (hHeld.2.2.2.2.2.2.1) B8x4_) B8x1_)
                  (first | have HS7_ := cell_grown hg (hHeld.2.2.2.2.2.2.2.1) B8x1_ | have HS7_ := cell_grown hg (cell_unalloc (hHeld.2.2.2.2.2.2.2.1) B8x4_) B8x1_)
                  (first | have HS8_ := cell_grown hg (hHeld.2.2.2.2.2.2.2.2.1) B8x1_ | have HS8_ := cell_grown hg (cell_unalloc (hHeld.2.2.2.2.2.2.2.2.1) B8x4_) B8x1_)
                  (first | have HS9_ := cell_grown hg (hHeld.2.2.2.2.2.2.2.2.2.1) B8x1_ | have HS9_ := cell_grown hg (cell_unalloc (hHeld.2.2.2.2.2.2.2.2.2.1) B8x4_) B8x1_)
                  (first | have HS10_ := cell_grown hg (hHeld.2.2.2.2.2.2.2.2.2.2.1) B8x1_ | have HS10_ := cell_grown hg (cell_unalloc (hHeld.2.2.2.2.2.2.2.2.2.2.1) B8x4_) B8x1_)
                  (first | have HS11_ := cell_grown hg (hHeld.2.2.2.2.2.2.2.2.2.2.2) B8x1_ | have HS11_ := cell_grown hg (cell_unalloc (hHeld.2.2.2.2.2.2.2.2.2.2.2) B8x4_) B8x1_)
                  rw [← Ny264.out] at ho
                  replace BK241 := Aside0.mk (blk_grown (g := gb241) (o := .cells #[.int .i64 a1_0, .int .i64 a1_1, .int .i64 a1_2, .int .i64 a1_3, .bool true, .string a1_5] 62 (0, 0)) B8x6_ hg (Kd.R_ne HL263_3.out BK241.out (by decide)))
                  replace BK242 := Aside0.mk (blk_grown (g := gb242) (o := .cells #[.int .i64 0, .int .i64 0, .int .i64 0, .int .i64 0, .bool false, .string (⟨#[]⟩ : ByteArray)] 62 (0, 0)) B8x5_ hg (Kd.R_ne HL263_3.out BK242.out (by decide)))
                  replace HB := Aside0.mk (hb)
                  replace HH77 := Aside0.mk (Kd.H_grown (Kd.H_widen (by repeat (first | exact HH77.out | refine Kd.H_alloc ?_ _ | refine Kd.H_drewN ?_ _ | refine Kd.H_drew ?_))) hg (fun k_ e_ => .inl (UU77.out.1 k_ e_)))
                  replace HE77_2 := Aside0.mk (Kd.R_over' (v := (.slice A263_3 ((rd_T82 x9_45 x10_45).f3).length c263_3)) (by (with_reducible repeat (first | apply Kd.R_alloc | apply Kd.R_drewN | apply Kd.R_drew)); exact HE77_2.out) (Kd.R_typed UU77.out) (by decide) hg)
                  have HO266 := Aside0.mk (ho)
                  clear HO_9
                  clear UU77
                  clear HL260_2
                  clear HL260_3
                  clear HL263_2
                  clear HL263_3
                  clear ho hb hg hat
                  have p72 : 0 ≤ (x10_45 : Int) := of_decide_eq_true B8x3_
                  have q72 : (x10_45 : Int) < ((x9_45.length : Int) : Int) := of_decide_eq_true B8x3_
                  replace p72 := eq_true p72
                  replace q72 := eq_true q72
                  obtain ⟨Ao81, co81, eo81⟩ := Kd.R_slice HO266.out
                  (first | subst eo81 | (injection eo81 with f1_ f2_ f3_; have f4_ := f1_.symm; have f5_ := f3_.symm; clear f1_ f2_ f3_; subst f4_; subst f5_))
                  obtain ⟨_, _, hraw79, _, _, hcc79, _⟩ := Kd.H_raw HH77.out (of_decide_eq_true B8x3_) (by have h_ : (x10_45 : Int) < ((x9_45.length : Int) : Int) := of_decide_eq_true B8x3_; first | exact h_ | (have e_ := (HN77.out); omega) | simpa using h_)
                  obtain ⟨_, hfr79⟩ := Kd.H_at HH77.out (of_decide_eq_true B8x3_) (by have h_ : (x10_45 : Int) < ((x9_45.length : Int) : Int) := of_decide_eq_true B8x3_; first | exact h_ | (have e_ := (HN77.out); omega) | simpa using h_)
                  have hx79_0 := hcc79 3 _ rfl
                  have hf79_0 := hfr79 3
                  (try rw [show (k82).sz = 6 from rfl] at hx79_0)
                  (try rw [show (k82).sz = 6 from rfl] at hf79_0)
                  have HP79 := Kd.S_seg0 HH77.out (of_decide_eq_true B8x3_) (by have h_ : (x10_45 : Int) < ((x9_45.length : Int) : Int) := of_decide_eq_true B8x3_; first | exact h_ | (have e_ := (HN77.out); omega) | simpa using h_) (seg := [.slice Ao81 y264.length co81]) (j := 3) (show 4 ≤ 6 from (by decide)) (x' := (⟨(rd_T82 x9_45 x10_45).f0, (rd_T82 x9_45 x10_45).f1, (rd_T82 x9_45 x10_45).f2, y264, (rd_T82 x9_45 x10_45).f4, (rd_T82 x9_45 x10_45).f5⟩ : S82)) (k82_mkM _ _ _ (⟨(rd_T82 x9_45 x10_45).f0, (rd_T82 x9_45 x10_45).f1, (rd_T82 x9_45 x10_45).f2, y264, (rd_T82 x9_45 x10_45).f4, (rd_T82 x9_45 x10_45).f5⟩ : S82) (Kd.R_mono HE77_2.out (fun _ h_ => .inl h_)) HO266.out) (fun _ hk => hk)
                  clear hcc79 hfr79
                  have HNB241_go77 := Aside0.mk (show gb241 ≠ go77 from (by have h_ := Kd.R_ne hraw79 BK241.out (by decide); intro e_; exact h_ B8x43_))
                  have HNB242_go77 := Aside0.mk (show gb242 ≠ go77 from (by have h_ := Kd.R_ne hraw79 BK242.out (by decide); intro e_; exact h_ B8x43_))
                  have HS79 := HP79.1
                  rw [← Ny267.out] at HS79
                  have HQ79 := Aside0.mk HS79
                  obtain ⟨_, hgg79⟩ := Kd.R_typed hraw79 go77 rfl
                  have GG79_ := Aside0.mk hgg79
                  clear HP79 HS79 hgg79
                  refine hK.out _ _ ⟨(blk_cell BK241.out 0).trans rfl, (blk_cell BK241.out 1).trans rfl, (blk_cell BK241.out 2).trans rfl, (blk_cell BK241.out 3).trans rfl, (blk_cell BK241.out 4).trans rfl, (blk_cell BK241.out 5).trans rfl, HS6_, HS7_, HS8_, HS9_, HS10_, HS11_⟩ (fun hHeld => ?_)
                  clear hK K
                  refine norm_ (a' := ?_) ?_ ?_
                  rotate_left
                  ·show Act.put _ (some 122) _ = _
                   simp only [Act.put, List.setIfInBounds_toArray, List.set_cons_zero, List.set_cons_succ, i64_w, i32_w]
                   rfl
                  refine pu_ 11 123 HT_ ?_
                  refine pu_ 12 124 HT_ ?_
                  refine last_ (i := 13) (N := none) #[true, true, true, true, true, true, true, true, true, true, true, true, true, true] rfl rfl (one_of HT_.out B8x13_) (by decide) (fun K hK => ?_)
                  refine skip_ (w1 := ?_) (by rfl) rfl ?_ ?_
                  rotate_left
                  ·go_simp
                   rfl
                  refine hK.out _ _ ?_
                  clear hK K
                  refine done_ (done_of HT_.out B8x13_) ?_
                  try go_wp2
                  have n0_ : Aside0 (Kd.S k82 82 (w78.setCell ⟨go77, (x10_45 : Int).toNat * 6 + 3, none⟩ (.slice Ao81 y264.length co81)) w.heap.size (fun k_ => (w.heap.size ≤ k_)) (.slice (some ⟨go77, 0, none⟩) x9_45.length co69) y267) := ⟨(by (with_reducible repeat (first | apply Kd.S_alloc | apply Kd.S_drewN | apply Kd.S_drew)); exact HQ79.out)⟩
                  have n1_ : Aside0 ((w78.setCell ⟨go77, (x10_45 : Int).toNat * 6 + 3, none⟩ (.slice Ao81 y264.length co81)).heap[gb241]? = some (.cells #[.int .i64 a1_0, .int .i64 a1_1, .int .i64 a1_2, .int .i64 a1_3, .bool true, .string a1_5] 62 (0, 0))) := ⟨B8x15_⟩
                  have n2_ : Aside0 ((w78.setCell ⟨go77, (x10_45 : Int).toNat * 6 + 3, none⟩ (.slice Ao81 y264.length co81)).heap[gb242]? = some (.cells #[.int .i64 0, .int .i64 0, .int .i64 0, .int .i64 0, .bool false, .string (⟨#[]⟩ : ByteArray)] 62 (0, 0))) := ⟨B8x16_⟩
                  have n3_ : Aside0 (Below w.heap.size w (w78.setCell ⟨go77, (x10_45 : Int).toNat * 6 + 3, none⟩ (.slice Ao81 y264.length co81))) := ⟨B8x30_⟩
                  (try clear HO_9)
                  (try clear BK241)
                  (try clear BK242)
                  (try clear HB)
                  generalize (w78.setCell ⟨go77, (x10_45 : Int).toNat * 6 + 3, none⟩ (.slice Ao81 y264.length co81)) = w82 at n0_ n1_ n2_ n3_ ⊢
                  have HO_9 := n0_
                  have BK241 := n1_
                  have BK242 := n2_
                  have HB := n3_
                  clear n0_ n1_ n2_ n3_
                  replace HO_9 := Aside0.mk (Kd.S_drew HO_9.out)
                  replace BK241 := Aside0.mk (blk_drew BK241.out)
                  replace BK242 := Aside0.mk (blk_drew BK242.out)
                  replace HB := Aside0.mk (below_drew1 HB.out)
                  have p268 : 0 ≤ (x10_45 : Int) := of_decide_eq_true B8x3_
                  have q268 : x10_45 < (y267.length : Int) := (by have h_ : (x10_45 : Int) < ((x9_45.length : Int) : Int) := of_decide_eq_true B8x3_; first | (have e_ := (Kd.S_reads' HO_9.out).1; omega) | simpa only [Ny267.out, List.length_set] using h_)
                  have ql268 : ((x10_45 : Int) < ((x9_45.length : Int) : Int)) = True := eq_true (of_decide_eq_true B8x3_)
                  obtain ⟨ad268, A268_2, c268_2, A268_3, c268_3, e268, hx268_0, hx268_1, hx268_2, hx268_3, hx268_4, hx268_5, hl268_2, hi268_2, hl268_3, hi268_3⟩ := at_T82 (Kd.S_reads' HO_9.out).2.2 x10_45 p268 q268
                  obtain rfl : (⟨go77, 0, none⟩ : Addr) = ad268 := (by injection e268)
                  obtain ⟨ce268, hce268, hMe268, hcc268⟩ := Kd.S_get HO_9.out z82 x10_45 p268 B8x36_
                  obtain ⟨ve268_2, ve268_3, rfl, ge268_2, ge268_3⟩ := k82_openM hMe268
                  have hv268_2 := hcc268 2 _ rfl
                  rw [add_field _ _ 2 (by omega)] at hv268_2
                  replace hv268_2 := Option.some.inj (hv268_2.symm.trans hx268_2)
                  rw [hv268_2] at ge268_2
                  have HL268_2 := Aside0.mk (show Kd.R Kd.string 9 _ _ _ _ ((rd_T82 y267 x10_45).f2) from ge268_2)
                  clear hv268_2 ge268_2
                  have HX268_2 := Aside0.mk hx268_2
                  have hv268_3 := hcc268 3 _ rfl
                  rw [add_field _ _ 3 (by omega)] at hv268_3
                  replace hv268_3 := Option.some.inj (hv268_3.symm.trans hx268_3)
                  rw [hv268_3] at ge268_3
                  have HL268_3 := Aside0.mk (show Kd.R (Kd.int .i64) 3 _ _ _ _ ((rd_T82 y267 x10_45).f3) from ge268_3)
                  clear hv268_3 ge268_3
                  have HX268_3 := Aside0.mk hx268_3
                  clear hcc268 hce268
                  (first | simp only [add_plain] at hx268_0 | simp only [add_at] at hx268_0 | simp only [Addr.add, Nat.zero_add] at hx268_0 | skip)
                  (first | simp only [add_plain] at hx268_1 | simp only [add_at] at hx268_1 | simp only [Addr.add, Nat.zero_add] at hx268_1 | skip)
                  (first | simp only [add_plain] at hx268_2 | simp only [add_at] at hx268_2 | simp only [Addr.add, Nat.zero_add] at hx268_2 | skip)
                  (first | simp only [add_plain] at hx268_3 | simp only [add_at] at hx268_3 | simp only [Addr.add, Nat.zero_add] at hx268_3 | skip)
                  (first | simp only [add_plain] at hx268_4 | simp only [add_at] at hx268_4 | simp only [Addr.add, Nat.zero_add] at hx268_4 | skip)
                  (first | simp only [add_plain] at hx268_5 | simp only [add_at] at hx268_5 | simp only [Addr.add, Nat.zero_add] at hx268_5 | skip)
                  have HR268_2 := Aside0.mk hi268_2
                  have HC268_2 := Aside0.mk hl268_2
                  clear hi268_2 hl268_2
                  have HR268_3 := Aside0.mk hi268_3
                  have HC268_3 := Aside0.mk hl268_3
                  clear hi268_3 hl268_3
                  replace p268 := eq_true p268
                  replace q268 := eq_true q268
                  obtain ⟨oki84, ce84, hcl84, hM84, hcc84, _, _, hH84⟩ := Kd.S_elem HO_9.out z82 (x10_45 : Int) (of_decide_eq_true B8x3_) (by have h_ : (x10_45 : Int) < ((x9_45.length : Int) : Int) := of_decide_eq_true B8x3_; first | exact h_ | (have e_ := (Kd.S_reads' HO_9.out).1; omega) | simpa using h_)
                  obtain ⟨ve84_2, ve84_3, rfl, ge84_2, ge84_3⟩ := k82_openM hM84
                  have hv84 := hcc84 2 _ rfl
                  have hX84 := HX268_2.out
                  (try simp only [add_plain] at hX84)
                  (try simp only [Nat.add_zero] at hv84)
                  replace hv84 := Option.some.inj (hv84.symm.trans hX84)
                  subst hv84
                  clear hX84 hcc84 hcl84
                  have UU84 := Aside0.mk (show Kd.R Kd.string 9 _ w.heap.size oki84 (.slice A268_2 ((rd_T82 y267 x10_45).f2).length c268_2) ((rd_T82 y267 x10_45).f2) from ge84_2)
                  have HH84 := Aside0.mk hH84
                  have HN84 := Aside0.mk (Kd.S_reads' HO_9.out).1
                  have HE84_3 := Aside0.mk ge84_3
                  clear hH84 ge84_2 ge84_3
                  refine start_ (n := 14) (S := fun w' => w'.cell? ⟨gb241, 0, none⟩ = some (.int .i64 a1_0) ∧ w'.cell? ⟨gb241, 1, none⟩ = some (.int .i64 a1_1) ∧ w'.cell? ⟨gb241, 2, none⟩ = some (.int .i64 a1_2) ∧ w'.cell? ⟨gb241, 3, none⟩ = some (.int .i64 a1_3) ∧ w'.cell? ⟨gb241, 4, none⟩ = some (.bool true) ∧ w'.cell? ⟨gb241, 5, none⟩ = some (.string a1_5) ∧ w'.cell? ⟨go77, (x10_45).toNat * 6, none⟩ = some (.int .i64 ((rd_T82 y267 x10_45).f0)) ∧ w'.cell? ⟨go77, (x10_45).toNat * 6 + 1, none⟩ = some (.int .i64 ((rd_T82 y267 x10_45).f1)) ∧ w'.cell? ⟨go77, (x10_45).toNat * 6 + 2, none⟩ = some (.slice A268_2 ((rd_T82 y267 x10_45).f2).length c268_2) ∧ w'.cell? ⟨go77, (x10_45).toNat * 6 + 3, none⟩ = some (.slice A268_3 ((rd_T82 y267 x10_45).f3).length c268_3) ∧ w'.cell? ⟨go77, (x10_45).toNat * 6 + 4, none⟩ = some (.int .i64 ((rd_T82 y267 x10_45).f4)) ∧ w'.cell? ⟨go77, (x10_45).toNat * 6 + 5, none⟩ = some (.int .i64 ((rd_T82 y267 x10_45).f5))) (ds := [13]) #[false, false, false, false, false, false, false, false, false, false, false, false, false, false] B8x13_ rfl rfl ⟨(blk_cell BK241.out 0).trans rfl, (blk_cell BK241.out 1).trans rfl, (blk_cell BK241.out 2).trans rfl, (blk_cell BK241.out 3).trans rfl, (blk_cell BK241.out 4).trans rfl, (blk_cell BK241.out 5).trans rfl, hx268_0, hx268_1, hx268_2, hx268_3, hx268_4, hx268_5⟩ (fun hHeld => ?_); refine with_tabW spec_JoinBits.tab24 spec_JoinBits.bits24 (fun HT_ HW_ => ?_)
                  generalize w82.drew = w83 at HO_9 BK241 BK242 HB HE84_3 HH84 HL268_2 HL268_3 HQ79 HR268_2 HR268_3 HX268_2 HX268_3 UU84 hx268_0 hx268_1 hx268_2 hx268_3 hx268_4 hx268_5 hHeld ⊢
                  refine pu_ 0 125 HT_ ?_
                  refine pu_ 1 126 HT_ ?_
                  refine pu_ 2 127 HT_ ?_
                  refine pu_ 3 128 HT_ ?_
                  refine pu_ 4 129 HT_ ?_
                  refine pu_ 5 130 HT_ ?_
                  refine pu_ 7 132 HT_ ?_
                  refine ta_ 6 131 HT_ HW_ hHeld ?_
                  refine ta_ 8 133 HT_ HW_ hHeld ?_
                  refine one_ (i := 9) (N := some 134) #[true, true, true, true, true, true, true, true, true, true, false, false, false, false] rfl rfl (one_of HT_.out B8x13_) (by decide) (fun K hK => ?_)
                  refine value_ (w1 := ?_) (v := ?_) (by rfl) rfl ?_ ?_
                  rotate_left 2
                  ·go_simp
                   constructor
                   ·rfl
                   ·rfl
                  refine hK.out _ _ ⟨(blk_cell (blk_alloc BK241.out _) 0).trans rfl, (blk_cell (blk_alloc BK241.out _) 1).trans rfl, (blk_cell (blk_alloc BK241.out _) 2).trans rfl, (blk_cell (blk_alloc BK241.out _) 3).trans rfl, (blk_cell (blk_alloc BK241.out _) 4).trans rfl, (blk_cell (blk_alloc BK241.out _) 5).trans rfl, (World.cell?_alloc_lt _ _ _ (World.block_lt_of_cell? _ _ (hHeld.2.2.2.2.2.2.1))).trans (hHeld.2.2.2.2.2.2.1), (World.cell?_alloc_lt _ _ _ (World.block_lt_of_cell? _ _ (hHeld.2.2.2.2.2.2.2.1))).trans (hHeld.2.2.2.2.2.2.2.1), (World.cell?_alloc_lt _ _ _ (World.block_lt_of_cell? _ _ (hHeld.2.2.2.2.2.2.2.2.1))).trans (hHeld.2.2.2.2.2.2.2.2.1), (World.cell?_alloc_lt _ _ _ (World.block_lt_of_cell? _ _ (hHeld.2.2.2.2.2.2.2.2.2.1))).trans (hHeld.2.2.2.2.2.2.2.2.2.1), (World.cell?_alloc_lt _ _ _ (World.block_lt_of_cell? _ _ (hHeld.2.2.2.2.2.2.2.2.2.2.1))).trans (hHeld.2.2.2.2.2.2.2.2.2.2.1), (World.cell?_alloc_lt _ _ _ (World.block_lt_of_cell? _ _ (hHeld.2.2.2.2.2.2.2.2.2.2.2))).trans (hHeld.2.2.2.2.2.2.2.2.2.2.2)⟩ (fun hHeld => ?_)
                  clear hK K
                  refine norm_ (a' := ?_) ?_ ?_
                  rotate_left
                  ·show Act.put _ (some 134) _ = _
                   simp only [Act.put, List.setIfInBounds_toArray, List.set_cons_zero, List.set_cons_succ, i64_w, i32_w]
                   rfl
                  refine one_ (i := 10) (N := some 135) #[true, true, true, true, true, true, true, true, true, true, true, false, false, false] rfl rfl (one_of HT_.out B8x13_) (by decide) (fun K hK => ?_)
                  refine Kd.R_append_step Kd.string (w0 := w) w.heap.size (by rfl) (.tmp 131) (.tmp 134) 25 9 (.string ⟨#[]⟩) 16 rfl Try.underlying25 info9 rfl (by decide) (by omega) (.slice A268_2 ((rd_T82 y267 x10_45).f2).length c268_2) ((rd_T82 y267 x10_45).f2) a1_5 [.string a1_5] (fun k_ => oki84 k_ ∨ ((fun k_ => (w.heap.size ≤ k_))) k_ ∧ w83.heap.size ≤ k_) (fun _ => False) rfl rfl ?aP (fun _ hk => hk.elim) ?aF ?aO ?aB ?aS ?aL ?_
                  (case aP => exact rfl)
                  (case aB => exact B8x0_)
                  (case aF => exact (fun k_ hk => .inr ⟨(by first | trivial | exact Nat.le_trans (below_size (by repeat (first | (with_reducible first | exact HB.out | apply below_alloc | apply pw_below_drewN | apply below_drew1) | exact HB.out))) hk), hk⟩))
                  (case aO => (with_reducible repeat (first | apply Kd.R_alloc | apply Kd.R_drewN | apply Kd.R_drew)); exact Kd.R_mono UU84.out (fun _ hk => .inl hk))
                  (case aS => exact B8x33_)
                  (case aL => have := LMc73.out; omega)
                  intro v270 w85 ho hb hg hat
                  (first | have HS6_ := cell_grown hg (hHeld.2.2.2.2.2.2.1) B8x2_ | have HS6_ := cell_grown hg (cell_unalloc (hHeld.2.2.2.2.2.2.1) B8x4_) B8x2_)
                  (first | have HS7_ := cell_grown hg (hHeld.2.2.2.2.2.2.2.1) B8x2_ | have HS7_ := cell_grown hg (cell_unalloc (hHeld.2.2.2.2.2.2.2.1) B8x4_) B8x2_)
                  (first | have HS8_ := cell_grown hg (hHeld.2.2.2.2.2.2.2.2.1) B8x2_ | have HS8_ := cell_grown hg (cell_unalloc (hHeld.2.2.2.2.2.2.2.2.1) B8x4_) B8x2_)
                  (first | have HS9_ := cell_grown hg (hHeld.2.2.2.2.2.2.2.2.2.1) B8x2_ | have HS9_ := cell_grown hg (cell_unalloc (hHeld.2.2.2.2.2.2.2.2.2.1) B8x4_) B8x2_)
                  (first | have HS10_ := cell_grown hg (hHeld.2.2.2.2.2.2.2.2.2.2.1) B8x2_ | have HS10_ := cell_grown hg (cell_unalloc (hHeld.2.2.2.2.2.2.2.2.2.2.1) B8x4_) B8x2_)
                  (first | have HS11_ := cell_grown hg (hHeld.2.2.2.2.2.2.2.2.2.2.2) B8x2_ | have HS11_ := cell_grown hg (cell_unalloc (hHeld.2.2.2.2.2.2.2.2.2.2.2) B8x4_) B8x2_)
                  rw [← Ny269.out] at ho
                  replace BK241 := Aside0.mk (blk_grown (g := gb241) (o := .cells #[.int .i64 a1_0, .int .i64 a1_1, .int .i64 a1_2, .int .i64 a1_3, .bool true, .string a1_5] 62 (0, 0)) B8x6_ hg (Kd.R_ne HL268_2.out BK241.out (by decide)))
                  replace BK242 := Aside0.mk (blk_grown (g := gb242) (o := .cells #[.int .i64 0, .int .i64 0, .int .i64 0, .int .i64 0, .bool false, .string (⟨#[]⟩ : ByteArray)] 62 (0, 0)) B8x5_ hg (Kd.R_ne HL268_2.out BK242.out (by decide)))
                  replace HB := Aside0.mk (hb)
                  replace HH84 := Aside0.mk (Kd.H_grown (Kd.H_widen (by repeat (first | exact HH84.out | refine Kd.H_alloc ?_ _ | refine Kd.H_drewN ?_ _ | refine Kd.H_drew ?_))) hg (fun k_ e_ => .inl (UU84.out.1 k_ e_)))
                  replace HE84_3 := Aside0.mk (Kd.R_over' (v := (.slice A268_2 ((rd_T82 y267 x10_45).f2).length c268_2)) (by (with_reducible repeat (first | apply Kd.R_alloc | apply Kd.R_drewN | apply Kd.R_drew)); exact HE84_3.out) (Kd.R_typed UU84.out) (by decide) hg)
                  have HO271 := Aside0.mk (ho)
                  clear HO_9
                  clear UU84
                  clear HL268_2
                  clear HL268_3
                  clear ho hb hg hat
                  have p74 : 0 ≤ (x10_45 : Int) := of_decide_eq_true B8x3_
                  have q74 : (x10_45 : Int) < ((x9_45.length : Int) : Int) := of_decide_eq_true B8x3_
                  replace p74 := eq_true p74
                  replace q74 := eq_true q74
                  obtain ⟨Ao88, co88, eo88⟩ := Kd.R_slice HO271.out
                  (first | subst eo88 | (injection eo88 with f1_ f2_ f3_; have f4_ := f1_.symm; have f5_ := f3_.symm; clear f1_ f2_ f3_; subst f4_; subst f5_))
                  obtain ⟨_, _, hraw86, _, _, hcc86, _⟩ := Kd.H_raw HH84.out (of_decide_eq_true B8x3_) (by have h_ : (x10_45 : Int) < ((x9_45.length : Int) : Int) := of_decide_eq_true B8x3_; first | exact h_ | (have e_ := (HN84.out); omega) | simpa using h_)
                  obtain ⟨_, hfr86⟩ := Kd.H_at HH84.out (of_decide_eq_true B8x3_) (by have h_ : (x10_45 : Int) < ((x9_45.length : Int) : Int) := of_decide_eq_true B8x3_; first | exact h_ | (have e_ := (HN84.out); omega) | simpa using h_)
                  have hx86_0 := hcc86 2 _ rfl
                  have hf86_0 := hfr86 2
                  (try rw [show (k82).sz = 6 from rfl] at hx86_0)
                  (try rw [show (k82).sz = 6 from rfl] at hf86_0)
                  have HP86 := Kd.S_seg0 HH84.out (of_decide_eq_true B8x3_) (by have h_ : (x10_45 : Int) < ((x9_45.length : Int) : Int) := of_decide_eq_true B8x3_; first | exact h_ | (have e_ := (HN84.out); omega) | simpa using h_) (seg := [.slice Ao88 y269.length co88]) (j := 2) (show 3 ≤ 6 from (by decide)) (x' := (⟨(rd_T82 y267 x10_45).f0, (rd_T82 y267 x10_45).f1, y269, (rd_T82 y267 x10_45).f3, (rd_T82 y267 x10_45).f4, (rd_T82 y267 x10_45).f5⟩ : S82)) (k82_mkM _ _ _ (⟨(rd_T82 y267 x10_45).f0, (rd_T82 y267 x10_45).f1, y269, (rd_T82 y267 x10_45).f3, (rd_T82 y267 x10_45).f4, (rd_T82 y267 x10_45).f5⟩ : S82) HO271.out (Kd.R_mono HE84_3.out (fun _ h_ => .inl h_))) (fun _ hk => hk)
                  clear hcc86 hfr86
                  have HNB241_go77 := Aside0.mk (show gb241 ≠ go77 from (by have h_ := Kd.R_ne hraw86 BK241.out (by decide); intro e_; exact h_ B8x43_))
                  have HNB242_go77 := Aside0.mk (show gb242 ≠ go77 from (by have h_ := Kd.R_ne hraw86 BK242.out (by decide); intro e_; exact h_ B8x43_))
                  have HS86 := HP86.1
                  rw [← Ny272.out] at HS86
                  have HQ86 := Aside0.mk HS86
                  obtain ⟨_, hgg86⟩ := Kd.R_typed hraw86 go77 rfl
                  have GG86_ := Aside0.mk hgg86
                  clear HP86 HS86 hgg86
                  refine hK.out _ _ ⟨(blk_cell BK241.out 0).trans rfl, (blk_cell BK241.out 1).trans rfl, (blk_cell BK241.out 2).trans rfl, (blk_cell BK241.out 3).trans rfl, (blk_cell BK241.out 4).trans rfl, (blk_cell BK241.out 5).trans rfl, HS6_, HS7_, HS8_, HS9_, HS10_, HS11_⟩ (fun hHeld => ?_)
                  clear hK K
                  refine norm_ (a' := ?_) ?_ ?_
                  rotate_left
                  ·show Act.put _ (some 135) _ = _
                   simp only [Act.put, List.setIfInBounds_toArray, List.set_cons_zero, List.set_cons_succ, i64_w, i32_w]
                   rfl
                  refine pu_ 11 136 HT_ ?_
                  refine pu_ 12 137 HT_ ?_
                  refine last_ (i := 13) (N := none) #[true, true, true, true, true, true, true, true, true, true, true, true, true, true] rfl rfl (one_of HT_.out B8x13_) (by decide) (fun K hK => ?_)
                  refine skip_ (w1 := ?_) (by rfl) rfl ?_ ?_
                  rotate_left
                  ·go_simp
                   rfl
                  refine hK.out _ _ ?_
                  clear hK K
                  refine done_ (done_of HT_.out B8x13_) ?_
                  have hnb89 := NB241_242.out
                  have hnc89 := NB242_241.out
                  obtain ⟨hcz90_0, hcz90_1, hcz90_2, hcz90_3, hcz90_4, hcz90_5⟩ := cl6 BK241.out
                  obtain ⟨hfz90_0, hfz90_1, hfz90_2, hfz90_3, hfz90_4, hfz90_5⟩ := fr6 BK241.out
                  try go_wp2
                  go_meet
                  case rel => exact ⟨_, (y272), H', ⟨B8x14_⟩, ⟨Kd.R_N ((Kd.S_R (by (with_reducible repeat (first | apply Kd.S_alloc | apply Kd.S_drewN | apply Kd.S_drew)); exact Kd.S_mono (Kd.S_types (g := gb242) (t := 62) (cells := #[.int .i64 0, .int .i64 0, .int .i64 0, .int .i64 0, .bool false, .string (⟨#[]⟩ : ByteArray)]) (Kd.S_types (g := gb241) (t := 62) (cells := #[.int .i64 a1_0, .int .i64 a1_1, .int .i64 a1_2, .int .i64 a1_3, .bool true, .string a1_5]) (show Kd.S k82 82 (w85.setCell ⟨go77, (x10_45 : Int).toNat * 6 + 2, none⟩ (.slice Ao88 y269.length co88)) w.heap.size _ _ _ from HQ86.out) B8x15_ (by decide)) B8x16_ (by decide)) (fun _ hk => ⟨hk.1.1, ⟨hk.1.2, hk.2⟩⟩))))⟩, ⟨B8x15_⟩, ⟨B8x16_⟩, ⟨B8x30_⟩⟩
                 ·replace c75 := Bool.eq_false_iff.mpr c75
                  subst c75
                  rw [if_neg (show ¬ (false = true) by decide)] at H
                  by_cases c91 : ((rd_T82 y272 x10_45).f4) = 0
                  ·rw [if_pos c91] at H
                   have c91b0 := beq_iff_eq.mpr c91
                   have c91b1 := bne_eq_false_iff_eq.mpr c91
                   clear c91
                   (first | rw [c91b0] | (simp only [i64_w, i32_w]; rw [c91b0]) | skip)
                   obtain ⟨y274, hy274⟩ : ∃ y_ : List (S82), y_ = (y272.set (x10_45 : Int).toNat (⟨(rd_T82 y272 x10_45).f0, (rd_T82 y272 x10_45).f1, (rd_T82 y272 x10_45).f2, (rd_T82 y272 x10_45).f3, wrap64 (a1_3 + (a1_5.size : Int)), (rd_T82 y272 x10_45).f5⟩ : S82)) := ⟨_, rfl⟩
                   replace H : (spec_JoinBits.j8 k5 y274 x10_45 a1_0 a1_1 a1_2 a1_3 false a1_5) = some (r1, r2, r3, r4, r5, r6, r7, r8) := by first | (rw [hy274]; with_reducible exact H) | (have H2_ := (Option.bind_some _ _).symm.trans H; rw [hy274]; with_reducible exact H2_) | (have H2_ := (Option.bind_some _ _).symm.trans H; with_reducible exact H2_) | with_reducible exact H | (rw [hy274]; exact H) | exact H
                   have Ny274 := Aside0.mk hy274
                   clear hy274
                   have H' := Aside0.mk H
                   clear H
                   try go_wp2
                   replace HO_9 := Aside0.mk (Kd.S_drew HO_9.out)
                   replace HL260_2 := Aside0.mk (Kd.R_drew HL260_2.out)
                   replace HL260_3 := Aside0.mk (Kd.R_drew HL260_3.out)
                   replace BK241 := Aside0.mk (blk_drew BK241.out)
                   replace BK242 := Aside0.mk (blk_drew BK242.out)
                   replace HR260_2 := Aside0.mk (Kd.C_drew HR260_2.out)
                   replace HR260_3 := Aside0.mk (Kd.C_drew HR260_3.out)
                   replace HB := Aside0.mk (below_drew1 HB.out)
                   have p263 : 0 ≤ (x10_45 : Int) := of_decide_eq_true B8x3_
                   have q263 : x10_45 < (x9_45.length : Int) := of_decide_eq_true B8x3_
                   obtain ⟨ad263, A263_2, c263_2, A263_3, c263_3, e263, hx263_0, hx263_1, hx263_2, hx263_3, hx263_4, hx263_5, hl263_2, hi263_2, hl263_3, hi263_3⟩ := at_T82 (Kd.S_reads' HO_9.out).2.2 x10_45 p263 q263
                   obtain rfl : ad260 = ad263 := (by injection e263)
                   obtain ⟨ce263, hce263, hMe263, hcc263⟩ := Kd.S_get HO_9.out z82 x10_45 p263 B8x35_
                   obtain ⟨ve263_2, ve263_3, rfl, ge263_2, ge263_3⟩ := k82_openM hMe263
                   have hv263_2 := hcc263 2 _ rfl
                   rw [add_field _ _ 2 (by omega)] at hv263_2
                   replace hv263_2 := Option.some.inj (hv263_2.symm.trans hx263_2)
                   rw [hv263_2] at ge263_2
                   have HL263_2 := Aside0.mk (show Kd.R Kd.string 9 _ _ _ _ ((rd_T82 x9_45 x10_45).f2) from ge263_2)
                   clear hv263_2 ge263_2
                   have HX263_2 := Aside0.mk hx263_2
                   have hv263_3 := hcc263 3 _ rfl
                   rw [add_field _ _ 3 (by omega)] at hv263_3
                   replace hv263_3 := Option.some.inj (hv263_3.symm.trans hx263_3)
                   rw [hv263_3] at ge263_3
                   have HL263_3 := Aside0.mk (show Kd.R (Kd.int .i64) 3 _ _ _ _ ((rd_T82 x9_45 x10_45).f3) from ge263_3)
                   clear hv263_3 ge263_3
                   have HX263_3 := Aside0.mk hx263_3
                   clear hcc263 hce263
                   have HR263_2 := Aside0.mk hi263_2
                   have HC263_2 := Aside0.mk hl263_2
                   clear hi263_2 hl263_2
                   have HR263_3 := Aside0.mk hi263_3
                   have HC263_3 := Aside0.mk hl263_3
                   clear hi263_3 hl263_3
                   replace p263 := eq_true p263
                   replace q263 := eq_true q263
                   obtain ⟨go94, co94, eo94, gb94, gl94, cl94, HG94⟩ := Kd.S_form HO_9.out (by have h_ : (x10_45 : Int) < ((x9_45.length : Int) : Int) := of_decide_eq_true B8x3_; have h2_ : 0 ≤ (x10_45 : Int) := (of_decide_eq_true B8x3_); omega)
                   (first | cases eo94 | (injection eo94 with ea_ en_ ec_; (first | subst ea_ | (injection ea_ with ea_; subst ea_)); subst ec_; clear en_))
                   have GB94 := Aside0.mk gb94
                   have GG94 := Aside0.mk HG94
                   clear gb94 gl94 HG94
                   (first | simp only [add_plain] at hx263_0 | skip)
                   (first | simp only [add_plain] at hx263_1 | skip)
                   (first | simp only [add_plain] at hx263_2 | skip)
                   (first | simp only [add_plain] at hx263_3 | skip)
                   (first | simp only [add_plain] at hx263_4 | skip)
                   (first | simp only [add_plain] at hx263_5 | skip)
                   obtain ⟨oki94, ce94, hcl94, hM94, hcc94, _, _, hH94⟩ := Kd.S_elem HO_9.out z82 (x10_45 : Int) (of_decide_eq_true B8x3_) (by have h_ : (x10_45 : Int) < ((x9_45.length : Int) : Int) := of_decide_eq_true B8x3_; first | exact h_ | (have e_ := (Kd.S_reads' HO_9.out).1; omega) | simpa using h_)
                   obtain ⟨ve94_2, ve94_3, rfl, ge94_2, ge94_3⟩ := k82_openM hM94
                   have hv94 := hcc94 3 _ rfl
                   have hX94 := HX263_3.out
                   (try simp only [add_plain] at hX94)
                   (try simp only [Nat.add_zero] at hv94)
                   replace hv94 := Option.some.inj (hv94.symm.trans hX94)
                   subst hv94
                   clear hX94 hcc94 hcl94
                   have UU94 := Aside0.mk (show Kd.R (Kd.int .i64) 3 _ w.heap.size oki94 (.slice A263_3 ((rd_T82 x9_45 x10_45).f3).length c263_3) ((rd_T82 x9_45 x10_45).f3) from ge94_3)
                   have HH94 := Aside0.mk hH94
                   have HN94 := Aside0.mk (Kd.S_reads' HO_9.out).1
                   have HE94_2 := Aside0.mk ge94_2
                   clear hH94 ge94_2 ge94_3
                   refine start_ (n := 14) (S := fun w' => w'.cell? ⟨gb241, 0, none⟩ = some (.int .i64 a1_0) ∧ w'.cell? ⟨gb241, 1, none⟩ = some (.int .i64 a1_1) ∧ w'.cell? ⟨gb241, 2, none⟩ = some (.int .i64 a1_2) ∧ w'.cell? ⟨gb241, 3, none⟩ = some (.int .i64 a1_3) ∧ w'.cell? ⟨gb241, 4, none⟩ = some (.bool false) ∧ w'.cell? ⟨gb241, 5, none⟩ = some (.string a1_5) ∧ w'.cell? ⟨go94, ((x10_45).toNat * 6), none⟩ = some (.int .i64 ((rd_T82 x9_45 x10_45).f0)) ∧ w'.cell? ⟨go94, ((x10_45).toNat * 6) + 1, none⟩ = some (.int .i64 ((rd_T82 x9_45 x10_45).f1)) ∧ w'.cell? ⟨go94, ((x10_45).toNat * 6) + 2, none⟩ = some (.slice A263_2 ((rd_T82 x9_45 x10_45).f2).length c263_2) ∧ w'.cell? ⟨go94, ((x10_45).toNat * 6) + 3, none⟩ = some (.slice A263_3 ((rd_T82 x9_45 x10_45).f3).length c263_3) ∧ w'.cell? ⟨go94, ((x10_45).toNat * 6) + 4, none⟩ = some (.int .i64 ((rd_T82 x9_45 x10_45).f4)) ∧ w'.cell? ⟨go94, ((x10_45).toNat * 6) + 5, none⟩ = some (.int .i64 ((rd_T82 x9_45 x10_45).f5))) (ds := [13]) #[false, false, false, false, false, false, false, false, false, false, false, false, false, false] B8x13_ rfl rfl ⟨(blk_cell BK241.out 0).trans rfl, (blk_cell BK241.out 1).trans rfl, (blk_cell BK241.out 2).trans rfl, (blk_cell BK241.out 3).trans rfl, (blk_cell BK241.out 4).trans rfl, (blk_cell BK241.out 5).trans rfl, hx263_0, hx263_1, hx263_2, hx263_3, hx263_4, hx263_5⟩ (fun hHeld => ?_); refine with_tabW spec_JoinBits.tab23 spec_JoinBits.bits23 (fun HT_ HW_ => ?_)
                   generalize wr.drew = w93 at HO_9 HL260_2 HL260_3 BK241 BK242 HR260_2 HR260_3 HB GG94 HE94_2 HH94 HL263_2 HL263_3 HR263_2 HR263_3 HX263_2 HX263_3 UU94 hx263_0 hx263_1 hx263_2 hx263_3 hx263_4 hx263_5 hHeld ⊢
                   refine pu_ 0 112 HT_ ?_
                   refine pu_ 1 113 HT_ ?_
                   refine pu_ 2 114 HT_ ?_
                   refine pu_ 3 115 HT_ ?_
                   refine pu_ 4 116 HT_ ?_
                   refine pu_ 5 117 HT_ ?_
                   refine pu_ 7 119 HT_ ?_
                   refine ta_ 6 118 HT_ HW_ hHeld ?_
                   refine ta_ 8 120 HT_ HW_ hHeld ?_
                   refine one_ (i := 9) (N := some 121) #[true, true, true, true, true, true, true, true, true, true, false, false, false, false] rfl rfl (one_of HT_.out B8x13_) (by decide) (fun K hK => ?_)
                   refine value_ (w1 := ?_) (v := ?_) (by rfl) rfl ?_ ?_
                   rotate_left 2
                   ·go_simp
                    constructor
                    ·rfl
                    ·rfl
                   refine hK.out _ _ ⟨(blk_cell (blk_alloc BK241.out _) 0).trans rfl, (blk_cell (blk_alloc BK241.out _) 1).trans rfl, (blk_cell (blk_alloc BK241.out _) 2).trans rfl, (blk_cell (blk_alloc BK241.out _) 3).trans rfl, (blk_cell (blk_alloc BK241.out _) 4).trans rfl, (blk_cell (blk_alloc BK241.out _) 5).trans rfl, (World.cell?_alloc_lt _ _ _ (World.block_lt_of_cell? _ _ (hHeld.2.2.2.2.2.2.1))).trans (hHeld.2.2.2.2.2.2.1), (World.cell?_alloc_lt _ _ _ (World.block_lt_of_cell? _ _ (hHeld.2.2.2.2.2.2.2.1))).trans (hHeld.2.2.2.2.2.2.2.1), (World.cell?_alloc_lt _ _ _ (World.block_lt_of_cell? _ _ (hHeld.2.2.2.2.2.2.2.2.1))).trans (hHeld.2.2.2.2.2.2.2.2.1), (World.cell?_alloc_lt _ _ _ (World.block_lt_of_cell? _ _ (hHeld.2.2.2.2.2.2.2.2.2.1))).trans (hHeld.2.2.2.2.2.2.2.2.2.1), (World.cell?_alloc_lt _ _ _ (World.block_lt_of_cell? _ _ (hHeld.2.2.2.2.2.2.2.2.2.2.1))).trans (hHeld.2.2.2.2.2.2.2.2.2.2.1), (World.cell?_alloc_lt _ _ _ (World.block_lt_of_cell? _ _ (hHeld.2.2.2.2.2.2.2.2.2.2.2))).trans (hHeld.2.2.2.2.2.2.2.2.2.2.2)⟩ (fun hHeld => ?_)
                   clear hK K
                   refine norm_ (a' := ?_) ?_ ?_
                   rotate_left
                   ·show Act.put _ (some 121) _ = _
                    simp only [Act.put, List.setIfInBounds_toArray, List.set_cons_zero, List.set_cons_succ, i64_w, i32_w]
                    rfl
                   refine one_ (i := 10) (N := some 122) #[true, true, true, true, true, true, true, true, true, true, true, false, false, false] rfl rfl (one_of HT_.out B8x13_) (by decide) (fun K hK => ?_)
                   refine Kd.R_append_step (Kd.int .i64) (w0 := w) w.heap.size (by rfl) (.tmp 118) (.tmp 121) 51 3 (.int .i64 0) 8 rfl Try.underlying51 info3 rfl (by decide) (by omega) (.slice A263_3 ((rd_T82 x9_45 x10_45).f3).length c263_3) ((rd_T82 x9_45 x10_45).f3) a1_3 [.int .i64 a1_3] (fun k_ => oki94 k_ ∨ ((fun k_ => (w.heap.size ≤ k_))) k_ ∧ w93.heap.size ≤ k_) (fun _ => False) rfl rfl ?aP (fun _ hk => hk.elim) ?aF ?aO ?aB ?aS ?aL ?_
                   (case aP => exact rfl)
                   (case aB => exact B8x0_)
                   (case aF => exact (fun k_ hk => .inr ⟨(by first | trivial | exact Nat.le_trans (below_size (by repeat (first | (with_reducible first | exact HB.out | apply below_alloc | apply pw_below_drewN | apply below_drew1) | exact HB.out))) hk), hk⟩))
                   (case aO => (with_reducible repeat (first | apply Kd.R_alloc | apply Kd.R_drewN | apply Kd.R_drew)); exact Kd.R_mono UU94.out (fun _ hk => .inl hk))
                   (case aS => exact B8x33_)
                   (case aL => have := LMc71.out; omega)
                   intro v265 w95 ho hb hg hat
                   (first | have HS6_ := cell_grown hg (hHeld.2.2.2.2.2.2.1) B8x1_ | have HS6_ := cell_grown hg (cell_unalloc (hHeld.2.2.2.2.2.2.1) B8x4_) B8x1_)
                   (first | have HS7_ := cell_grown hg (hHeld.2.2.2.2.2.2.2.1) B8x1_ | have HS7_ := cell_grown hg (cell_unalloc (hHeld.2.2.2.2.2.2.2.1) B8x4_) B8x1_)
                   (first | have HS8_ := cell_grown hg (hHeld.2.2.2.2.2.2.2.2.1) B8x1_ | have HS8_ := cell_grown hg (cell_unalloc (hHeld.2.2.2.2.2.2.2.2.1) B8x4_) B8x1_)
                   (first | have HS9_ := cell_grown hg (hHeld.2.2.2.2.2.2.2.2.2.1) B8x1_ | have HS9_ := cell_grown hg (cell_unalloc (hHeld.2.2.2.2.2.2.2.2.2.1) B8x4_) B8x1_)
                   (first | have HS10_ := cell_grown hg (hHeld.2.2.2.2.2.2.2.2.2.2.1) B8x1_ | have HS10_ := cell_grown hg (cell_unalloc (hHeld.2.2.2.2.2.2.2.2.2.2.1) B8x4_) B8x1_)
                   (first | have HS11_ := cell_grown hg (hHeld.2.2.2.2.2.2.2.2.2.2.2) B8x1_ | have HS11_ := cell_grown hg (cell_unalloc (hHeld.2.2.2.2.2.2.2.2.2.2.2) B8x4_) B8x1_)
                   rw [← Ny264.out] at ho
                   replace BK241 := Aside0.mk (blk_grown (g := gb241) (o := .cells #[.int .i64 a1_0, .int .i64 a1_1, .int .i64 a1_2, .int .i64 a1_3, .bool false, .string a1_5] 62 (0, 0)) B8x6_ hg (Kd.R_ne HL263_3.out BK241.out (by decide)))
                   replace BK242 := Aside0.mk (blk_grown (g := gb242) (o := .cells #[.int .i64 0, .int .i64 0, .int .i64 0, .int .i64 0, .bool false, .string (⟨#[]⟩ : ByteArray)] 62 (0, 0)) B8x5_ hg (Kd.R_ne HL263_3.out BK242.out (by decide)))
                   replace HB := Aside0.mk (hb)
                   replace HH94 := Aside0.mk (Kd.H_grown (Kd.H_widen (by repeat (first | exact HH94.out | refine Kd.H_alloc ?_ _ | refine Kd.H_drewN ?_ _ | refine Kd.H_drew ?_))) hg (fun k_ e_ => .inl (UU94.out.1 k_ e_)))
                   replace HE94_2 := Aside0.mk (Kd.R_over' (v := (.slice A263_3 ((rd_T82 x9_45 x10_45).f3).length c263_3)) (by (with_reducible repeat (first | apply Kd.R_alloc | apply Kd.R_drewN | apply Kd.R_drew)); exact HE94_2.out) (Kd.R_typed UU94.out) (by decide) hg)
                   have HO266 := Aside0.mk (ho)
                   clear HO_9
                   clear UU94
                   clear HL260_2
                   clear HL260_3
                   clear HL263_2
                   clear HL263_3
                   clear ho hb hg hat
                   have p72 : 0 ≤ (x10_45 : Int) := of_decide_eq_true B8x3_
                   have q72 : (x10_45 : Int) < ((x9_45.length : Int) : Int) := of_decide_eq_true B8x3_
                   replace p72 := eq_true p72
                   replace q72 := eq_true q72
                   obtain ⟨Ao98, co98, eo98⟩ := Kd.R_slice HO266.out
                   (first | subst eo98 | (injection eo98 with f1_ f2_ f3_; have f4_ := f1_.symm; have f5_ := f3_.symm; clear f1_ f2_ f3_; subst f4_; subst f5_))
                   obtain ⟨_, _, hraw96, _, _, hcc96, _⟩ := Kd.H_raw HH94.out (of_decide_eq_true B8x3_) (by have h_ : (x10_45 : Int) < ((x9_45.length : Int) : Int) := of_decide_eq_true B8x3_; first | exact h_ | (have e_ := (HN94.out); omega) | simpa using h_)
                   obtain ⟨_, hfr96⟩ := Kd.H_at HH94.out (of_decide_eq_true B8x3_) (by have h_ : (x10_45 : Int) < ((x9_45.length : Int) : Int) := of_decide_eq_true B8x3_; first | exact h_ | (have e_ := (HN94.out); omega) | simpa using h_)
                   have hx96_0 := hcc96 3 _ rfl
                   have hf96_0 := hfr96 3
                   (try rw [show (k82).sz = 6 from rfl] at hx96_0)
                   (try rw [show (k82).sz = 6 from rfl] at hf96_0)
                   have HP96 := Kd.S_seg0 HH94.out (of_decide_eq_true B8x3_) (by have h_ : (x10_45 : Int) < ((x9_45.length : Int) : Int) := of_decide_eq_true B8x3_; first | exact h_ | (have e_ := (HN94.out); omega) | simpa using h_) (seg := [.slice Ao98 y264.length co98]) (j := 3) (show 4 ≤ 6 from (by decide)) (x' := (⟨(rd_T82 x9_45 x10_45).f0, (rd_T82 x9_45 x10_45).f1, (rd_T82 x9_45 x10_45).f2, y264, (rd_T82 x9_45 x10_45).f4, (rd_T82 x9_45 x10_45).f5⟩ : S82)) (k82_mkM _ _ _ (⟨(rd_T82 x9_45 x10_45).f0, (rd_T82 x9_45 x10_45).f1, (rd_T82 x9_45 x10_45).f2, y264, (rd_T82 x9_45 x10_45).f4, (rd_T82 x9_45 x10_45).f5⟩ : S82) (Kd.R_mono HE94_2.out (fun _ h_ => .inl h_)) HO266.out) (fun _ hk => hk)
                   clear hcc96 hfr96
                   have HNB241_go94 := Aside0.mk (show gb241 ≠ go94 from (by have h_ := Kd.R_ne hraw96 BK241.out (by decide); intro e_; exact h_ B8x43_))
                   have HNB242_go94 := Aside0.mk (show gb242 ≠ go94 from (by have h_ := Kd.R_ne hraw96 BK242.out (by decide); intro e_; exact h_ B8x43_))
                   have HS96 := HP96.1
                   rw [← Ny267.out] at HS96
                   have HQ96 := Aside0.mk HS96
                   obtain ⟨_, hgg96⟩ := Kd.R_typed hraw96 go94 rfl
                   have GG96_ := Aside0.mk hgg96
                   clear HP96 HS96 hgg96
                   refine hK.out _ _ ⟨(blk_cell BK241.out 0).trans rfl, (blk_cell BK241.out 1).trans rfl, (blk_cell BK241.out 2).trans rfl, (blk_cell BK241.out 3).trans rfl, (blk_cell BK241.out 4).trans rfl, (blk_cell BK241.out 5).trans rfl, HS6_, HS7_, HS8_, HS9_, HS10_, HS11_⟩ (fun hHeld => ?_)
                   clear hK K
                   refine norm_ (a' := ?_) ?_ ?_
                   rotate_left
                   ·show Act.put _ (some 122) _ = _
                    simp only [Act.put, List.setIfInBounds_toArray, List.set_cons_zero, List.set_cons_succ, i64_w, i32_w]
                    rfl
                   refine pu_ 11 123 HT_ ?_
                   refine pu_ 12 124 HT_ ?_
                   refine last_ (i := 13) (N := none) #[true, true, true, true, true, true, true, true, true, true, true, true, true, true] rfl rfl (one_of HT_.out B8x13_) (by decide) (fun K hK => ?_)
                   refine skip_ (w1 := ?_) (by rfl) rfl ?_ ?_
                   rotate_left
                   ·go_simp
                    rfl
                   refine hK.out _ _ ?_
                   clear hK K
                   refine done_ (done_of HT_.out B8x13_) ?_
                   try go_wp2
                   have n0_ : Aside0 (Kd.S k82 82 (w95.setCell ⟨go94, (x10_45 : Int).toNat * 6 + 3, none⟩ (.slice Ao98 y264.length co98)) w.heap.size (fun k_ => (w.heap.size ≤ k_)) (.slice (some ⟨go94, 0, none⟩) x9_45.length co69) y267) := ⟨(by (with_reducible repeat (first | apply Kd.S_alloc | apply Kd.S_drewN | apply Kd.S_drew)); exact HQ96.out)⟩
                   have n1_ : Aside0 ((w95.setCell ⟨go94, (x10_45 : Int).toNat * 6 + 3, none⟩ (.slice Ao98 y264.length co98)).heap[gb241]? = some (.cells #[.int .i64 a1_0, .int .i64 a1_1, .int .i64 a1_2, .int .i64 a1_3, .bool false, .string a1_5] 62 (0, 0))) := ⟨B8x26_⟩
                   have n2_ : Aside0 ((w95.setCell ⟨go94, (x10_45 : Int).toNat * 6 + 3, none⟩ (.slice Ao98 y264.length co98)).heap[gb242]? = some (.cells #[.int .i64 0, .int .i64 0, .int .i64 0, .int .i64 0, .bool false, .string (⟨#[]⟩ : ByteArray)] 62 (0, 0))) := ⟨B8x27_⟩
                   have n3_ : Aside0 (Below w.heap.size w (w95.setCell ⟨go94, (x10_45 : Int).toNat * 6 + 3, none⟩ (.slice Ao98 y264.length co98))) := ⟨B8x31_⟩
                   (try clear HO_9)
                   (try clear BK241)
                   (try clear BK242)
                   (try clear HB)
                   generalize (w95.setCell ⟨go94, (x10_45 : Int).toNat * 6 + 3, none⟩ (.slice Ao98 y264.length co98)) = w99 at n0_ n1_ n2_ n3_ ⊢
                   have HO_9 := n0_
                   have BK241 := n1_
                   have BK242 := n2_
                   have HB := n3_
                   clear n0_ n1_ n2_ n3_
                   replace HO_9 := Aside0.mk (Kd.S_drew HO_9.out)
                   replace BK241 := Aside0.mk (blk_drew BK241.out)
                   replace BK242 := Aside0.mk (blk_drew BK242.out)
                   replace HB := Aside0.mk (below_drew1 HB.out)
                   have p268 : 0 ≤ (x10_45 : Int) := of_decide_eq_true B8x3_
                   have q268 : x10_45 < (y267.length : Int) := (by have h_ : (x10_45 : Int) < ((x9_45.length : Int) : Int) := of_decide_eq_true B8x3_; first | (have e_ := (Kd.S_reads' HO_9.out).1; omega) | simpa only [Ny267.out, List.length_set] using h_)
                   have ql268 : ((x10_45 : Int) < ((x9_45.length : Int) : Int)) = True := eq_true (of_decide_eq_true B8x3_)
                   obtain ⟨ad268, A268_2, c268_2, A268_3, c268_3, e268, hx268_0, hx268_1, hx268_2, hx268_3, hx268_4, hx268_5, hl268_2, hi268_2, hl268_3, hi268_3⟩ := at_T82 (Kd.S_reads' HO_9.out).2.2 x10_45 p268 q268
                   obtain rfl : (⟨go94, 0, none⟩ : Addr) = ad268 := (by injection e268)
                   obtain ⟨ce268, hce268, hMe268, hcc268⟩ := Kd.S_get HO_9.out z82 x10_45 p268 B8x36_
                   obtain ⟨ve268_2, ve268_3, rfl, ge268_2, ge268_3⟩ := k82_openM hMe268
                   have hv268_2 := hcc268 2 _ rfl
                   rw [add_field _ _ 2 (by omega)] at hv268_2
                   replace hv268_2 := Option.some.inj (hv268_2.symm.trans hx268_2)
                   rw [hv268_2] at ge268_2
                   have HL268_2 := Aside0.mk (show Kd.R Kd.string 9 _ _ _ _ ((rd_T82 y267 x10_45).f2) from ge268_2)
                   clear hv268_2 ge268_2
                   have HX268_2 := Aside0.mk hx268_2
                   have hv268_3 := hcc268 3 _ rfl
                   rw [add_field _ _ 3 (by omega)] at hv268_3
                   replace hv268_3 := Option.some.inj (hv268_3.symm.trans hx268_3)
                   rw [hv268_3] at ge268_3
                   have HL268_3 := Aside0.mk (show Kd.R (Kd.int .i64) 3 _ _ _ _ ((rd_T82 y267 x10_45).f3) from ge268_3)
                   clear hv268_3 ge268_3
                   have HX268_3 := Aside0.mk hx268_3
                   clear hcc268 hce268
                   (first | simp only [add_plain] at hx268_0 | simp only [add_at] at hx268_0 | simp only [Addr.add, Nat.zero_add] at hx268_0 | skip)
                   (first | simp only [add_plain] at hx268_1 | simp only [add_at] at hx268_1 | simp only [Addr.add, Nat.zero_add] at hx268_1 | skip)
                   (first | simp only [add_plain] at hx268_2 | simp only [add_at] at hx268_2 | simp only [Addr.add, Nat.zero_add] at hx268_2 | skip)
                   (first | simp only [add_plain] at hx268_3 | simp only [add_at] at hx268_3 | simp only [Addr.add, Nat.zero_add] at hx268_3 | skip)
                   (first | simp only [add_plain] at hx268_4 | simp only [add_at] at hx268_4 | simp only [Addr.add, Nat.zero_add] at hx268_4 | skip)
                   (first | simp only [add_plain] at hx268_5 | simp only [add_at] at hx268_5 | simp only [Addr.add, Nat.zero_add] at hx268_5 | skip)
                   have HR268_2 := Aside0.mk hi268_2
                   have HC268_2 := Aside0.mk hl268_2
                   clear hi268_2 hl268_2
                   have HR268_3 := Aside0.mk hi268_3
                   have HC268_3 := Aside0.mk hl268_3
                   clear hi268_3 hl268_3
                   replace p268 := eq_true p268
                   replace q268 := eq_true q268
                   obtain ⟨oki101, ce101, hcl101, hM101, hcc101, _, _, hH101⟩ := Kd.S_elem HO_9.out z82 (x10_45 : Int) (of_decide_eq_true B8x3_) (by have h_ : (x10_45 : Int) < ((x9_45.length : Int) : Int) := of_decide_eq_true B8x3_; first | exact h_ | (have e_ := (Kd.S_reads' HO_9.out).1; omega) | simpa using h_)
                   obtain ⟨ve101_2, ve101_3, rfl, ge101_2, ge101_3⟩ := k82_openM hM101
                   have hv101 := hcc101 2 _ rfl
                   have hX101 := HX268_2.out
                   (try simp only [add_plain] at hX101)
                   (try simp only [Nat.add_zero] at hv101)
                   replace hv101 := Option.some.inj (hv101.symm.trans hX101)
                   subst hv101
                   clear hX101 hcc101 hcl101
                   have UU101 := Aside0.mk (show Kd.R Kd.string 9 _ w.heap.size oki101 (.slice A268_2 ((rd_T82 y267 x10_45).f2).length c268_2) ((rd_T82 y267 x10_45).f2) from ge101_2)
                   have HH101 := Aside0.mk hH101
                   have HN101 := Aside0.mk (Kd.S_reads' HO_9.out).1
                   have HE101_3 := Aside0.mk ge101_3
                   clear hH101 ge101_2 ge101_3
                   refine start_ (n := 14) (S := fun w' => w'.cell? ⟨gb241, 0, none⟩ = some (.int .i64 a1_0) ∧ w'.cell? ⟨gb241, 1, none⟩ = some (.int .i64 a1_1) ∧ w'.cell? ⟨gb241, 2, none⟩ = some (.int .i64 a1_2) ∧ w'.cell? ⟨gb241, 3, none⟩ = some (.int .i64 a1_3) ∧ w'.cell? ⟨gb241, 4, none⟩ = some (.bool false) ∧ w'.cell? ⟨gb241, 5, none⟩ = some (.string a1_5) ∧ w'.cell? ⟨go94, (x10_45).toNat * 6, none⟩ = some (.int .i64 ((rd_T82 y267 x10_45).f0)) ∧ w'.cell? ⟨go94, (x10_45).toNat * 6 + 1, none⟩ = some (.int .i64 ((rd_T82 y267 x10_45).f1)) ∧ w'.cell? ⟨go94, (x10_45).toNat * 6 + 2, none⟩ = some (.slice A268_2 ((rd_T82 y267 x10_45).f2).length c268_2) ∧ w'.cell? ⟨go94, (x10_45).toNat * 6 + 3, none⟩ = some (.slice A268_3 ((rd_T82 y267 x10_45).f3).length c268_3) ∧ w'.cell? ⟨go94, (x10_45).toNat * 6 + 4, none⟩ = some (.int .i64 ((rd_T82 y267 x10_45).f4)) ∧ w'.cell? ⟨go94, (x10_45).toNat * 6 + 5, none⟩ = some (.int .i64 ((rd_T82 y267 x10_45).f5))) (ds := [13]) #[false, false, false, false, false, false, false, false, false, false, false, false, false, false] B8x13_ rfl rfl ⟨(blk_cell BK241.out 0).trans rfl, (blk_cell BK241.out 1).trans rfl, (blk_cell BK241.out 2).trans rfl, (blk_cell BK241.out 3).trans rfl, (blk_cell BK241.out 4).trans rfl, (blk_cell BK241.out 5).trans rfl, hx268_0, hx268_1, hx268_2, hx268_3, hx268_4, hx268_5⟩ (fun hHeld => ?_); refine with_tabW spec_JoinBits.tab24 spec_JoinBits.bits24 (fun HT_ HW_ => ?_)
                   generalize w99.drew = w100 at HO_9 BK241 BK242 HB HE101_3 HH101 HL268_2 HL268_3 HQ96 HR268_2 HR268_3 HX268_2 HX268_3 UU101 hx268_0 hx268_1 hx268_2 hx268_3 hx268_4 hx268_5 hHeld ⊢
                   refine pu_ 0 125 HT_ ?_
                   refine pu_ 1 126 HT_ ?_
                   refine pu_ 2 127 HT_ ?_
                   refine pu_ 3 128 HT_ ?_
                   refine pu_ 4 129 HT_ ?_
                   refine pu_ 5 130 HT_ ?_
                   refine pu_ 7 132 HT_ ?_
                   refine ta_ 6 131 HT_ HW_ hHeld ?_
                   refine ta_ 8 133 HT_ HW_ hHeld ?_
                   refine one_ (i := 9) (N := some 134) #[true, true, true, true, true, true, true, true, true, true, false, false, false, false] rfl rfl (one_of HT_.out B8x13_) (by decide) (fun K hK => ?_)
                   refine value_ (w1 := ?_) (v := ?_) (by rfl) rfl ?_ ?_
                   rotate_left 2
                   ·go_simp
                    constructor
                    ·rfl
                    ·rfl
                   refine hK.out _ _ ⟨(blk_cell (blk_alloc BK241.out _) 0).trans rfl, (blk_cell (blk_alloc BK241.out _) 1).trans rfl, (blk_cell (blk_alloc BK241.out _) 2).trans rfl, (blk_cell (blk_alloc BK241.out _) 3).trans rfl, (blk_cell (blk_alloc BK241.out _) 4).trans rfl, (blk_cell (blk_alloc BK241.out _) 5).trans rfl, (World.cell?_alloc_lt _ _ _ (World.block_lt_of_cell? _ _ (hHeld.2.2.2.2.2.2.1))).trans (hHeld.2.2.2.2.2.2.1), (World.cell?_alloc_lt _ _ _ (World.block_lt_of_cell? _ _ (hHeld.2.2.2.2.2.2.2.1))).trans (hHeld.2.2.2.2.2.2.2.1), (World.cell?_alloc_lt _ _ _ (World.block_lt_of_cell? _ _ (hHeld.2.2.2.2.2.2.2.2.1))).trans (hHeld.2.2.2.2.2.2.2.2.1), (World.cell?_alloc_lt _ _ _ (World.block_lt_of_cell? _ _ (hHeld.2.2.2.2.2.2.2.2.2.1))).trans (hHeld.2.2.2.2.2.2.2.2.2.1), (World.cell?_alloc_lt _ _ _ (World.block_lt_of_cell? _ _ (hHeld.2.2.2.2.2.2.2.2.2.2.1))).trans (hHeld.2.2.2.2.2.2.2.2.2.2.1), (World.cell?_alloc_lt _ _ _ (World.block_lt_of_cell? _ _ (hHeld.2.2.2.2.2.2.2.2.2.2.2))).trans (hHeld.2.2.2.2.2.2.2.2.2.2.2)⟩ (fun hHeld => ?_)
                   clear hK K
                   refine norm_ (a' := ?_) ?_ ?_
                   rotate_left
                   ·show Act.put _ (some 134) _ = _
                    simp only [Act.put, List.setIfInBounds_toArray, List.set_cons_zero, List.set_cons_succ, i64_w, i32_w]
                    rfl
                   refine one_ (i := 10) (N := some 135) #[true, true, true, true, true, true, true, true, true, true, true, false, false, false] rfl rfl (one_of HT_.out B8x13_) (by decide) (fun K hK => ?_)
                   refine Kd.R_append_step Kd.string (w0 := w) w.heap.size (by rfl) (.tmp 131) (.tmp 134) 25 9 (.string ⟨#[]⟩) 16 rfl Try.underlying25 info9 rfl (by decide) (by omega) (.slice A268_2 ((rd_T82 y267 x10_45).f2).length c268_2) ((rd_T82 y267 x10_45).f2) a1_5 [.string a1_5] (fun k_ => oki101 k_ ∨ ((fun k_ => (w.heap.size ≤ k_))) k_ ∧ w100.heap.size ≤ k_) (fun _ => False) rfl rfl ?aP (fun _ hk => hk.elim) ?aF ?aO ?aB ?aS ?aL ?_
                   (case aP => exact rfl)
                   (case aB => exact B8x0_)
                   (case aF => exact (fun k_ hk => .inr ⟨(by first | trivial | exact Nat.le_trans (below_size (by repeat (first | (with_reducible first | exact HB.out | apply below_alloc | apply pw_below_drewN | apply below_drew1) | exact HB.out))) hk), hk⟩))
                   (case aO => (with_reducible repeat (first | apply Kd.R_alloc | apply Kd.R_drewN | apply Kd.R_drew)); exact Kd.R_mono UU101.out (fun _ hk => .inl hk))
                   (case aS => exact B8x33_)
                   (case aL => have := LMc73.out; omega)
                   intro v270 w102 ho hb hg hat
                   (first | have HS6_ := cell_grown hg (hHeld.2.2.2.2.2.2.1) B8x2_ | have HS6_ := cell_grown hg (cell_unalloc (hHeld.2.2.2.2.2.2.1) B8x4_) B8x2_)
                   (first | have HS7_ := cell_grown hg (hHeld.2.2.2.2.2.2.2.1) B8x2_ | have HS7_ := cell_grown hg (cell_unalloc (hHeld.2.2.2.2.2.2.2.1) B8x4_) B8x2_)
                   (first | have HS8_ := cell_grown hg (hHeld.2.2.2.2.2.2.2.2.1) B8x2_ | have HS8_ := cell_grown hg (cell_unalloc (hHeld.2.2.2.2.2.2.2.2.1) B8x4_) B8x2_)
                   (first | have HS9_ := cell_grown hg (hHeld.2.2.2.2.2.2.2.2.2.1) B8x2_ | have HS9_ := cell_grown hg (cell_unalloc (hHeld.2.2.2.2.2.2.2.2.2.1) B8x4_) B8x2_)
                   (first | have HS10_ := cell_grown hg (hHeld.2.2.2.2.2.2.2.2.2.2.1) B8x2_ | have HS10_ := cell_grown hg (cell_unalloc (hHeld.2.2.2.2.2.2.2.2.2.2.1) B8x4_) B8x2_)
                   (first | have HS11_ := cell_grown hg (hHeld.2.2.2.2.2.2.2.2.2.2.2) B8x2_ | have HS11_ := cell_grown hg (cell_unalloc (hHeld.2.2.2.2.2.2.2.2.2.2.2) B8x4_) B8x2_)
                   rw [← Ny269.out] at ho
                   replace BK241 := Aside0.mk (blk_grown (g := gb241) (o := .cells #[.int .i64 a1_0, .int .i64 a1_1, .int .i64 a1_2, .int .i64 a1_3, .bool false, .string a1_5] 62 (0, 0)) B8x6_ hg (Kd.R_ne HL268_2.out BK241.out (by decide)))
                   replace BK242 := Aside0.mk (blk_grown (g := gb242) (o := .cells #[.int .i64 0, .int .i64 0, .int .i64 0, .int .i64 0, .bool false, .string (⟨#[]⟩ : ByteArray)] 62 (0, 0)) B8x5_ hg (Kd.R_ne HL268_2.out BK242.out (by decide)))
                   replace HB := Aside0.mk (hb)
                   replace HH101 := Aside0.mk (Kd.H_grown (Kd.H_widen (by repeat (first | exact HH101.out | refine Kd.H_alloc ?_ _ | refine Kd.H_drewN ?_ _ | refine Kd.H_drew ?_))) hg (fun k_ e_ => .inl (UU101.out.1 k_ e_)))
                   replace HE101_3 := Aside0.mk (Kd.R_over' (v := (.slice A268_2 ((rd_T82 y267 x10_45).f2).length c268_2)) (by (with_reducible repeat (first | apply Kd.R_alloc | apply Kd.R_drewN | apply Kd.R_drew)); exact HE101_3.out) (Kd.R_typed UU101.out) (by decide) hg)
                   have HO271 := Aside0.mk (ho)
                   clear HO_9
                   clear UU101
                   clear HL268_2
                   clear HL268_3
                   clear ho hb hg hat
                   have p74 : 0 ≤ (x10_45 : Int) := of_decide_eq_true B8x3_
                   have q74 : (x10_45 : Int) < ((x9_45.length : Int) : Int) := of_decide_eq_true B8x3_
                   replace p74 := eq_true p74
                   replace q74 := eq_true q74
                   obtain ⟨Ao105, co105, eo105⟩ := Kd.R_slice HO271.out
                   (first | subst eo105 | (injection eo105 with f1_ f2_ f3_; have f4_ := f1_.symm; have f5_ := f3_.symm; clear f1_ f2_ f3_; subst f4_; subst f5_))
                   obtain ⟨_, _, hraw103, _, _, hcc103, _⟩ := Kd.H_raw HH101.out (of_decide_eq_true B8x3_) (by have h_ : (x10_45 : Int) < ((x9_45.length : Int) : Int) := of_decide_eq_true B8x3_; first | exact h_ | (have e_ := (HN101.out); omega) | simpa using h_)
                   obtain ⟨_, hfr103⟩ := Kd.H_at HH101.out (of_decide_eq_true B8x3_) (by have h_ : (x10_45 : Int) < ((x9_45.length : Int) : Int) := of_decide_eq_true B8x3_; first | exact h_ | (have e_ := (HN101.out); omega) | simpa using h_)
                   have hx103_0 := hcc103 2 _ rfl
                   have hf103_0 := hfr103 2
                   (try rw [show (k82).sz = 6 from rfl] at hx103_0)
                   (try rw [show (k82).sz = 6 from rfl] at hf103_0)
                   have HP103 := Kd.S_seg0 HH101.out (of_decide_eq_true B8x3_) (by have h_ : (x10_45 : Int) < ((x9_45.length : Int) : Int) := of_decide_eq_true B8x3_; first | exact h_ | (have e_ := (HN101.out); omega) | simpa using h_) (seg := [.slice Ao105 y269.length co105]) (j := 2) (show 3 ≤ 6 from (by decide)) (x' := (⟨(rd_T82 y267 x10_45).f0, (rd_T82 y267 x10_45).f1, y269, (rd_T82 y267 x10_45).f3, (rd_T82 y267 x10_45).f4, (rd_T82 y267 x10_45).f5⟩ : S82)) (k82_mkM _ _ _ (⟨(rd_T82 y267 x10_45).f0, (rd_T82 y267 x10_45).f1, y269, (rd_T82 y267 x10_45).f3, (rd_T82 y267 x10_45).f4, (rd_T82 y267 x10_45).f5⟩ : S82) HO271.out (Kd.R_mono HE101_3.out (fun _ h_ => .inl h_))) (fun _ hk => hk)
                   clear hcc103 hfr103
                   have HNB241_go94 := Aside0.mk (show gb241 ≠ go94 from (by have h_ := Kd.R_ne hraw103 BK241.out (by decide); intro e_; exact h_ B8x43_))
                   have HNB242_go94 := Aside0.mk (show gb242 ≠ go94 from (by have h_ := Kd.R_ne hraw103 BK242.out (by decide); intro e_; exact h_ B8x43_))
                   have HS103 := HP103.1
                   rw [← Ny272.out] at HS103
                   have HQ103 := Aside0.mk HS103
                   obtain ⟨_, hgg103⟩ := Kd.R_typed hraw103 go94 rfl
                   have GG103_ := Aside0.mk hgg103
                   clear HP103 HS103 hgg103
                   refine hK.out _ _ ⟨(blk_cell BK241.out 0).trans rfl, (blk_cell BK241.out 1).trans rfl, (blk_cell BK241.out 2).trans rfl, (blk_cell BK241.out 3).trans rfl, (blk_cell BK241.out 4).trans rfl, (blk_cell BK241.out 5).trans rfl, HS6_, HS7_, HS8_, HS9_, HS10_, HS11_⟩ (fun hHeld => ?_)
                   clear hK K
                   refine norm_ (a' := ?_) ?_ ?_
                   rotate_left
                   ·show Act.put _ (some 135) _ = _
                    simp only [Act.put, List.setIfInBounds_toArray, List.set_cons_zero, List.set_cons_succ, i64_w, i32_w]
                    rfl
                   refine pu_ 11 136 HT_ ?_
                   refine pu_ 12 137 HT_ ?_
                   refine last_ (i := 13) (N := none) #[true, true, true, true, true, true, true, true, true, true, true, true, true, true] rfl rfl (one_of HT_.out B8x13_) (by decide) (fun K hK => ?_)
                   refine skip_ (w1 := ?_) (by rfl) rfl ?_ ?_
                   rotate_left
                   ·go_simp
                    rfl
                   refine hK.out _ _ ?_
                   clear hK K
                   refine done_ (done_of HT_.out B8x13_) ?_
                   have n0_ : Aside0 (Kd.S k82 82 (w102.setCell ⟨go94, (x10_45 : Int).toNat * 6 + 2, none⟩ (.slice Ao105 y269.length co105)) w.heap.size (fun k_ => (w.heap.size ≤ k_)) (.slice (some ⟨go94, 0, none⟩) x9_45.length co69) y272) := ⟨(by (with_reducible repeat (first | apply Kd.S_alloc | apply Kd.S_drewN | apply Kd.S_drew)); exact HQ103.out)⟩
                   have n1_ : Aside0 ((w102.setCell ⟨go94, (x10_45 : Int).toNat * 6 + 2, none⟩ (.slice Ao105 y269.length co105)).heap[gb241]? = some (.cells #[.int .i64 a1_0, .int .i64 a1_1, .int .i64 a1_2, .int .i64 a1_3, .bool false, .string a1_5] 62 (0, 0))) := ⟨B8x26_⟩
                   have n2_ : Aside0 ((w102.setCell ⟨go94, (x10_45 : Int).toNat * 6 + 2, none⟩ (.slice Ao105 y269.length co105)).heap[gb242]? = some (.cells #[.int .i64 0, .int .i64 0, .int .i64 0, .int .i64 0, .bool false, .string (⟨#[]⟩ : ByteArray)] 62 (0, 0))) := ⟨B8x27_⟩
                   have n3_ : Aside0 (Below w.heap.size w (w102.setCell ⟨go94, (x10_45 : Int).toNat * 6 + 2, none⟩ (.slice Ao105 y269.length co105))) := ⟨B8x31_⟩
                   (try clear HO_9)
                   (try clear BK241)
                   (try clear BK242)
                   (try clear HB)
                   generalize (w102.setCell ⟨go94, (x10_45 : Int).toNat * 6 + 2, none⟩ (.slice Ao105 y269.length co105)) = w106 at n0_ n1_ n2_ n3_ ⊢
                   have HO_9 := n0_
                   have BK241 := n1_
                   have BK242 := n2_
                   have HB := n3_
                   clear n0_ n1_ n2_ n3_
                   have hnb107 := NB241_242.out
                   have hnc107 := NB242_241.out
                   obtain ⟨hcz108_0, hcz108_1, hcz108_2, hcz108_3, hcz108_4, hcz108_5⟩ := cl6 BK241.out
                   obtain ⟨hfz108_0, hfz108_1, hfz108_2, hfz108_3, hfz108_4, hfz108_5⟩ := fr6 BK241.out
                   have p273 : 0 ≤ (x10_45 : Int) := of_decide_eq_true B8x3_
                   have q273 : x10_45 < (y272.length : Int) := (by have h_ : (x10_45 : Int) < ((x9_45.length : Int) : Int) := of_decide_eq_true B8x3_; first | (have e_ := (Kd.S_reads' HO_9.out).1; omega) | simpa only [Ny267.out, Ny272.out, List.length_set] using h_)
                   have ql273 : ((x10_45 : Int) < ((x9_45.length : Int) : Int)) = True := eq_true (of_decide_eq_true B8x3_)
                   obtain ⟨ad273, A273_2, c273_2, A273_3, c273_3, e273, hx273_0, hx273_1, hx273_2, hx273_3, hx273_4, hx273_5, hl273_2, hi273_2, hl273_3, hi273_3⟩ := at_T82 (Kd.S_reads' HO_9.out).2.2 x10_45 p273 q273
                   obtain rfl : (⟨go94, 0, none⟩ : Addr) = ad273 := (by injection e273)
                   obtain ⟨ce273, hce273, hMe273, hcc273⟩ := Kd.S_get HO_9.out z82 x10_45 p273 B8x49_
                   obtain ⟨ve273_2, ve273_3, rfl, ge273_2, ge273_3⟩ := k82_openM hMe273
                   have hv273_2 := hcc273 2 _ rfl
                   rw [add_field _ _ 2 (by omega)] at hv273_2
                   replace hv273_2 := Option.some.inj (hv273_2.symm.trans hx273_2)
                   rw [hv273_2] at ge273_2
                   have HL273_2 := Aside0.mk (show Kd.R Kd.string 9 _ _ _ _ ((rd_T82 y272 x10_45).f2) from ge273_2)
                   clear hv273_2 ge273_2
                   have HX273_2 := Aside0.mk hx273_2
                   have hv273_3 := hcc273 3 _ rfl
                   rw [add_field _ _ 3 (by omega)] at hv273_3
                   replace hv273_3 := Option.some.inj (hv273_3.symm.trans hx273_3)
                   rw [hv273_3] at ge273_3
                   have HL273_3 := Aside0.mk (show Kd.R (Kd.int .i64) 3 _ _ _ _ ((rd_T82 y272 x10_45).f3) from ge273_3)
                   clear hv273_3 ge273_3
                   have HX273_3 := Aside0.mk hx273_3
                   clear hcc273 hce273
                   (first | simp only [add_plain] at hx273_0 | simp only [add_at] at hx273_0 | simp only [Addr.add, Nat.zero_add] at hx273_0 | skip)
                   (first | simp only [add_plain] at hx273_1 | simp only [add_at] at hx273_1 | simp only [Addr.add, Nat.zero_add] at hx273_1 | skip)
                   (first | simp only [add_plain] at hx273_2 | simp only [add_at] at hx273_2 | simp only [Addr.add, Nat.zero_add] at hx273_2 | skip)
                   (first | simp only [add_plain] at hx273_3 | simp only [add_at] at hx273_3 | simp only [Addr.add, Nat.zero_add] at hx273_3 | skip)
                   (first | simp only [add_plain] at hx273_4 | simp only [add_at] at hx273_4 | simp only [Addr.add, Nat.zero_add] at hx273_4 | skip)
                   (first | simp only [add_plain] at hx273_5 | simp only [add_at] at hx273_5 | simp only [Addr.add, Nat.zero_add] at hx273_5 | skip)
                   have HR273_2 := Aside0.mk hi273_2
                   have HC273_2 := Aside0.mk hl273_2
                   clear hi273_2 hl273_2
                   have HR273_3 := Aside0.mk hi273_3
                   have HC273_3 := Aside0.mk hl273_3
                   clear hi273_3 hl273_3
                   replace p273 := eq_true p273
                   replace q273 := eq_true q273
                   have p92 : 0 ≤ (x10_45 : Int) := of_decide_eq_true B8x3_
                   have q92 : (x10_45 : Int) < ((x9_45.length : Int) : Int) := of_decide_eq_true B8x3_
                   obtain ⟨_, ce92, hcl92, hM92, hcc92, hfr92, _, _⟩ := Kd.S_elem HO_9.out z82 (x10_45 : Int) p92 q92
                   obtain ⟨ve92_2, ve92_3, rfl, ge92_2, ge92_3⟩ := k82_openM hM92
                   have hx92_0 : w106.cell? ⟨go94, (x10_45 : Int).toNat * 6, none⟩ = some (.int .i64 ((rd_T82 y272 x10_45).f0)) := hcc92 0 _ rfl
                   have hx92_1 : w106.cell? ⟨go94, (x10_45 : Int).toNat * 6 + 1, none⟩ = some (.int .i64 ((rd_T82 y272 x10_45).f1)) := hcc92 1 _ rfl
                   have hx92_2 : w106.cell? ⟨go94, (x10_45 : Int).toNat * 6 + 2, none⟩ = some (ve92_2) := hcc92 2 _ rfl
                   have hx92_3 : w106.cell? ⟨go94, (x10_45 : Int).toNat * 6 + 3, none⟩ = some (ve92_3) := hcc92 3 _ rfl
                   have hx92_4 : w106.cell? ⟨go94, (x10_45 : Int).toNat * 6 + 4, none⟩ = some (.int .i64 ((rd_T82 y272 x10_45).f4)) := hcc92 4 _ rfl
                   have hx92_5 : w106.cell? ⟨go94, (x10_45 : Int).toNat * 6 + 5, none⟩ = some (.int .i64 ((rd_T82 y272 x10_45).f5)) := hcc92 5 _ rfl
                   have hf92_0 : w106.frozen? ⟨go94, (x10_45 : Int).toNat * 6, none⟩ = false := hfr92 0
                   have hf92_1 : w106.frozen? ⟨go94, (x10_45 : Int).toNat * 6 + 1, none⟩ = false := hfr92 1
                   have hf92_2 : w106.frozen? ⟨go94, (x10_45 : Int).toNat * 6 + 2, none⟩ = false := hfr92 2
                   have hf92_3 : w106.frozen? ⟨go94, (x10_45 : Int).toNat * 6 + 3, none⟩ = false := hfr92 3
                   have hf92_4 : w106.frozen? ⟨go94, (x10_45 : Int).toNat * 6 + 4, none⟩ = false := hfr92 4
                   have hf92_5 : w106.frozen? ⟨go94, (x10_45 : Int).toNat * 6 + 5, none⟩ = false := hfr92 5
                   clear hcl92 hcc92 hfr92 hM92
                   replace p92 := eq_true p92
                   replace q92 := eq_true q92
                   have HX109 := Aside0.mk (show Kd.S k82 82 w106 w.heap.size (fun k_ => ((fun k_ => (w.heap.size ≤ k_))) k_ ∧ ¬ ((fun _ => False)) k_) (.slice (some ⟨go94, 0, none⟩) x9_45.length co69) y272 from B8x42_)
                   obtain ⟨oki109, ce109, hcl109, hM109, hcc109, hfr109, hoki109, hH109⟩ := Kd.S_elem HX109.out z82 (x10_45 : Int) (of_decide_eq_true B8x3_) (by have h_ : (x10_45 : Int) < ((x9_45.length : Int) : Int) := of_decide_eq_true B8x3_; first | exact h_ | (have e_ := (Kd.S_reads' HO_9.out).1; omega) | simpa using h_)
                   obtain ⟨ve109_2, ve109_3, rfl, ge109_2, ge109_3⟩ := k82_openM hM109
                   have HP109 := Kd.S_seg hH109 (of_decide_eq_true B8x3_) (by have h_ : (x10_45 : Int) < ((x9_45.length : Int) : Int) := of_decide_eq_true B8x3_; first | exact h_ | (have e_ := (Kd.S_reads' HO_9.out).1; omega) | simpa using h_) (seg := [.int .i64 (wrap64 (a1_3 + (a1_5.size : Int)))]) (j := 4) (show 5 ≤ 6 from (by decide)) (x' := (⟨(rd_T82 y272 x10_45).f0, (rd_T82 y272 x10_45).f1, (rd_T82 y272 x10_45).f2, (rd_T82 y272 x10_45).f3, wrap64 (a1_3 + (a1_5.size : Int)), (rd_T82 y272 x10_45).f5⟩ : S82)) (k82_mkM _ _ _ (⟨(rd_T82 y272 x10_45).f0, (rd_T82 y272 x10_45).f1, (rd_T82 y272 x10_45).f2, (rd_T82 y272 x10_45).f3, wrap64 (a1_3 + (a1_5.size : Int)), (rd_T82 y272 x10_45).f5⟩ : S82) (Kd.R_mono ge109_2 (fun _ h_ => Or.inl h_)) (Kd.R_mono ge109_3 (fun _ h_ => Or.inl h_))) (fun _ hk => hk) (fun k_ hk_ => hk_.elim)
                   have hx109_4 := hcc109 4 _ rfl
                   (try simp only [show (k82).sz = 6 from rfl, Nat.mul_one, Nat.add_zero] at hx109_4)
                   have hf109_4 := hfr109 4
                   (try simp only [show (k82).sz = 6 from rfl, Nat.mul_one, Nat.add_zero] at hf109_4)
                   clear hcl109 hcc109 hfr109 hM109 hoki109 hH109
                   try go_wp2_with (first | ((with_reducible refine gate_store (t := 3) (p := 158) rfl ?_); refine store_event (t := 3) (p := 158) (v := ?vo_w110) (w1 := (w106.setCell ⟨go94, (x10_45 : Int).toNat * 6 + 4, none⟩ (.int .i64 (wrap64 (a1_3 + (a1_5.size : Int)))))) ?hg ?ho ?hn ?hr ?_; (case ho => rfl); (case hg => rfl); (case hn => rfl); (case hr => exact B8x32_); intro w110 hw; have hg : w106.grownBy w110 (some go94) := (by rw [hw]; exact HP109.2); have hp_ : Kd.S k82 82 w110 w.heap.size (fun k_ => (w.heap.size ≤ k_)) (.slice (some ⟨go94, 0, none⟩) x9_45.length co69) y274 := (by rw [hw, Ny274.out]; exact HP109.1); clear HP109; replace BK241 := Aside0.mk (blk_grown (g := gb241) (o := .cells #[.int .i64 a1_0, .int .i64 a1_1, .int .i64 a1_2, .int .i64 a1_3, .bool false, .string a1_5] 62 (0, 0)) B8x6_ hg (Kd.S_ne HO_9.out BK241.out (by decide))); replace BK242 := Aside0.mk (blk_grown (g := gb242) (o := .cells #[.int .i64 0, .int .i64 0, .int .i64 0, .int .i64 0, .bool false, .string (⟨#[]⟩ : ByteArray)] 62 (0, 0)) B8x5_ hg (Kd.S_ne HO_9.out BK242.out (by decide))); replace HO_9 := Aside0.mk (hp_); replace HL273_2 := Aside0.mk (Kd.R_after (v := (.slice (some ⟨go94, 0, none⟩) x9_45.length co69)) (v1 := (.slice (some ⟨go94, 0, none⟩) x9_45.length co69)) (ok := (fun k_ => (w.heap.size ≤ k_))) (by (with_reducible repeat (first | apply Kd.R_alloc | apply Kd.R_drewN | apply Kd.R_drew)); exact HL273_2.out) hg (.inl rfl)); replace HL273_3 := Aside0.mk (Kd.R_after (v := (.slice (some ⟨go94, 0, none⟩) x9_45.length co69)) (v1 := (.slice (some ⟨go94, 0, none⟩) x9_45.length co69)) (ok := (fun k_ => (w.heap.size ≤ k_))) (by (with_reducible repeat (first | apply Kd.R_alloc | apply Kd.R_drewN | apply Kd.R_drew)); exact HL273_3.out) hg (.inl rfl)); replace HB := Aside0.mk ((by rw [hw]; exact below_set (HB.out) GB94.out : Below w.heap.size w w110)); clear hg hw hp_))
                   go_meet
                   case rel => exact ⟨_, (y274), H', ⟨B8x14_⟩, ⟨Kd.R_N ((Kd.S_R B8x17_))⟩, ⟨B8x6_⟩, ⟨B8x5_⟩, ⟨B8x0_⟩⟩
                  ·rw [if_neg c91] at H
                   have c91b0 := beq_eq_false_iff_ne.mpr c91
                   have c91b1 := bne_iff_ne.mpr c91
                   (first | rw [c91b0] | (simp only [i64_w, i32_w]; rw [c91b0]) | skip)
                   have H' := Aside0.mk H
                   clear H
                   try go_wp2
                   replace HO_9 := Aside0.mk (Kd.S_drew HO_9.out)
                   replace HL260_2 := Aside0.mk (Kd.R_drew HL260_2.out)
                   replace HL260_3 := Aside0.mk (Kd.R_drew HL260_3.out)
                   replace BK241 := Aside0.mk (blk_drew BK241.out)
                   replace BK242 := Aside0.mk (blk_drew BK242.out)
                   replace HR260_2 := Aside0.mk (Kd.C_drew HR260_2.out)
                   replace HR260_3 := Aside0.mk (Kd.C_drew HR260_3.out)
                   replace HB := Aside0.mk (below_drew1 HB.out)
                   have p263 : 0 ≤ (x10_45 : Int) := of_decide_eq_true B8x3_
                   have q263 : x10_45 < (x9_45.length : Int) := of_decide_eq_true B8x3_
                   obtain ⟨ad263, A263_2, c263_2, A263_3, c263_3, e263, hx263_0, hx263_1, hx263_2, hx263_3, hx263_4, hx263_5, hl263_2, hi263_2, hl263_3, hi263_3⟩ := at_T82 (Kd.S_reads' HO_9.out).2.2 x10_45 p263 q263
                   obtain rfl : ad260 = ad263 := (by injection e263)
                   obtain ⟨ce263, hce263, hMe263, hcc263⟩ := Kd.S_get HO_9.out z82 x10_45 p263 B8x35_
                   obtain ⟨ve263_2, ve263_3, rfl, ge263_2, ge263_3⟩ := k82_openM hMe263
                   have hv263_2 := hcc263 2 _ rfl
                   rw [add_field _ _ 2 (by omega)] at hv263_2
                   replace hv263_2 := Option.some.inj (hv263_2.symm.trans hx263_2)
                   rw [hv263_2] at ge263_2
                   have HL263_2 := Aside0.mk (show Kd.R Kd.string 9 _ _ _ _ ((rd_T82 x9_45 x10_45).f2) from ge263_2)
                   clear hv263_2 ge263_2
                   have HX263_2 := Aside0.mk hx263_2
                   have hv263_3 := hcc263 3 _ rfl
                   rw [add_field _ _ 3 (by omega)] at hv263_3
                   replace hv263_3 := Option.some.inj (hv263_3.symm.trans hx263_3)
                   rw [hv263_3] at ge263_3
                   have HL263_3 := Aside0.mk (show Kd.R (Kd.int .i64) 3 _ _ _ _ ((rd_T82 x9_45 x10_45).f3) from ge263_3)
                   clear hv263_3 ge263_3
                   have HX263_3 := Aside0.mk hx263_3
                   clear hcc263 hce263
                   have HR263_2 := Aside0.mk hi263_2
                   have HC263_2 := Aside0.mk hl263_2
                   clear hi263_2 hl263_2
                   have HR263_3 := Aside0.mk hi263_3
                   have HC263_3 := Aside0.mk hl263_3
                   clear hi263_3 hl263_3
                   replace p263 := eq_true p263
                   replace q263 := eq_true q263
                   obtain ⟨go112, co112, eo112, gb112, gl112, cl112, HG112⟩ := Kd.S_form HO_9.out (by have h_ : (x10_45 : Int) < ((x9_45.length : Int) : Int) := of_decide_eq_true B8x3_; have h2_ : 0 ≤ (x10_45 : Int) := (of_decide_eq_true B8x3_); omega)
                   (first | cases eo112 | (injection eo112 with ea_ en_ ec_; (first | subst ea_ | (injection ea_ with ea_; subst ea_)); subst ec_; clear en_))
                   have GB112 := Aside0.mk gb112
                   have GG112 := Aside0.mk HG112
                   clear gb112 gl112 HG112
                   (first | simp only [add_plain] at hx263_0 | skip)
                   (first | simp only [add_plain] at hx263_1 | skip)
                   (first | simp only [add_plain] at hx263_2 | skip)
                   (first | simp only [add_plain] at hx263_3 | skip)
                   (first | simp only [add_plain] at hx263_4 | skip)
                   (first | simp only [add_plain] at hx263_5 | skip)
                   obtain ⟨oki112, ce112, hcl112, hM112, hcc112, _, _, hH112⟩ := Kd.S_elem HO_9.out z82 (x10_45 : Int) (of_decide_eq_true B8x3_) (by have h_ : (x10_45 : Int) < ((x9_45.length : Int) : Int) := of_decide_eq_true B8x3_; first | exact h_ | (have e_ := (Kd.S_reads' HO_9.out).1; omega) | simpa using h_)
                   obtain ⟨ve112_2, ve112_3, rfl, ge112_2, ge112_3⟩ := k82_openM hM112
                   have hv112 := hcc112 3 _ rfl
                   have hX112 := HX263_3.out
                   (try simp only [add_plain] at hX112)
                   (try simp only [Nat.add_zero] at hv112)
                   replace hv112 := Option.some.inj (hv112.symm.trans hX112)
                   subst hv112
                   clear hX112 hcc112 hcl112
                   have UU112 := Aside0.mk (show Kd.R (Kd.int .i64) 3 _ w.heap.size oki112 (.slice A263_3 ((rd_T82 x9_45 x10_45).f3).length c263_3) ((rd_T82 x9_45 x10_45).f3) from ge112_3)
                   have HH112 := Aside0.mk hH112
                   have HN112 := Aside0.mk (Kd.S_reads' HO_9.out).1
                   have HE112_2 := Aside0.mk ge112_2
                   clear hH112 ge112_2 ge112_3
                   refine start_ (n := 14) (S := fun w' => w'.cell? ⟨gb241, 0, none⟩ = some (.int .i64 a1_0) ∧ w'.cell? ⟨gb241, 1, none⟩ = some (.int .i64 a1_1) ∧ w'.cell? ⟨gb241, 2, none⟩ = some (.int .i64 a1_2) ∧ w'.cell? ⟨gb241, 3, none⟩ = some (.int .i64 a1_3) ∧ w'.cell? ⟨gb241, 4, none⟩ = some (.bool false) ∧ w'.cell? ⟨gb241, 5, none⟩ = some (.string a1_5) ∧ w'.cell? ⟨go112, ((x10_45).toNat * 6), none⟩ = some (.int .i64 ((rd_T82 x9_45 x10_45).f0)) ∧ w'.cell? ⟨go112, ((x10_45).toNat * 6) + 1, none⟩ = some (.int .i64 ((rd_T82 x9_45 x10_45).f1)) ∧ w'.cell? ⟨go112, ((x10_45).toNat * 6) + 2, none⟩ = some (.slice A263_2 ((rd_T82 x9_45 x10_45).f2).length c263_2) ∧ w'.cell? ⟨go112, ((x10_45).toNat * 6) + 3, none⟩ = some (.slice A263_3 ((rd_T82 x9_45 x10_45).f3).length c263_3) ∧ w'.cell? ⟨go112, ((x10_45).toNat * 6) + 4, none⟩ = some (.int .i64 ((rd_T82 x9_45 x10_45).f4)) ∧ w'.cell? ⟨go112, ((x10_45).toNat * 6) + 5, none⟩ = some (.int .i64 ((rd_T82 x9_45 x10_45).f5))) (ds := [13]) #[false, false, false, false, false, false, false, false, false, false, false, false, false, false] B8x13_ rfl rfl ⟨(blk_cell BK241.out 0).trans rfl, (blk_cell BK241.out 1).trans rfl, (blk_cell BK241.out 2).trans rfl, (blk_cell BK241.out 3).trans rfl, (blk_cell BK241.out 4).trans rfl, (blk_cell BK241.out 5).trans rfl, hx263_0, hx263_1, hx263_2, hx263_3, hx263_4, hx263_5⟩ (fun hHeld => ?_); refine with_tabW spec_JoinBits.tab23 spec_JoinBits.bits23 (fun HT_ HW_ => ?_)
                   generalize wr.drew = w111 at HO_9 HL260_2 HL260_3 BK241 BK242 HR260_2 HR260_3 HB GG112 HE112_2 HH112 HL263_2 HL263_3 HR263_2 HR263_3 HX263_2 HX263_3 UU112 hx263_0 hx263_1 hx263_2 hx263_3 hx263_4 hx263_5 hHeld ⊢
                   refine pu_ 0 112 HT_ ?_
                   refine pu_ 1 113 HT_ ?_
                   refine pu_ 2 114 HT_ ?_
                   refine pu_ 3 115 HT_ ?_
                   refine pu_ 4 116 HT_ ?_
                   refine pu_ 5 117 HT_ ?_
                   refine pu_ 7 119 HT_ ?_
                   refine ta_ 6 118 HT_ HW_ hHeld ?_
                   refine ta_ 8 120 HT_ HW_ hHeld ?_
                   refine one_ (i := 9) (N := some 121) #[true, true, true, true, true, true, true, true, true, true, false, false, false, false] rfl rfl (one_of HT_.out B8x13_) (by decide) (fun K hK => ?_)
                   refine value_ (w1 := ?_) (v := ?_) (by rfl) rfl ?_ ?_
                   rotate_left 2
                   ·go_simp
                    constructor
                    ·rfl
                    ·rfl
                   refine hK.out _ _ ⟨(blk_cell (blk_alloc BK241.out _) 0).trans rfl, (blk_cell (blk_alloc BK241.out _) 1).trans rfl, (blk_cell (blk_alloc BK241.out _) 2).trans rfl, (blk_cell (blk_alloc BK241.out _) 3).trans rfl, (blk_cell (blk_alloc BK241.out _) 4).trans rfl, (blk_cell (blk_alloc BK241.out _) 5).trans rfl, (World.cell?_alloc_lt _ _ _ (World.block_lt_of_cell? _ _ (hHeld.2.2.2.2.2.2.1))).trans (hHeld.2.2.2.2.2.2.1), (World.cell?_alloc_lt _ _ _ (World.block_lt_of_cell? _ _ (hHeld.2.2.2.2.2.2.2.1))).trans (hHeld.2.2.2.2.2.2.2.1), (World.cell?_alloc_lt _ _ _ (World.block_lt_of_cell? _ _ (hHeld.2.2.2.2.2.2.2.2.1))).trans (hHeld.2.2.2.2.2.2.2.2.1), (World.cell?_alloc_lt _ _ _ (World.block_lt_of_cell? _ _ (hHeld.2.2.2.2.2.2.2.2.2.1))).trans (hHeld.2.2.2.2.2.2.2.2.2.1), (World.cell?_alloc_lt _ _ _ (World.block_lt_of_cell? _ _ (hHeld.2.2.2.2.2.2.2.2.2.2.1))).trans (hHeld.2.2.2.2.2.2.2.2.2.2.1), (World.cell?_alloc_lt _ _ _ (World.block_lt_of_cell? _ _ (hHeld.2.2.2.2.2.2.2.2.2.2.2))).trans (hHeld.2.2.2.2.2.2.2.2.2.2.2)⟩ (fun hHeld => ?_)
                   clear hK K
                   refine norm_ (a' := ?_) ?_ ?_
                   rotate_left
                   ·show Act.put _ (some 121) _ = _
                    simp only [Act.put, List.setIfInBounds_toArray, List.set_cons_zero, List.set_cons_succ, i64_w, i32_w]
                    rfl
                   refine one_ (i := 10) (N := some 122) #[true, true, true, true, true, true, true, true, true, true, true, false, false, false] rfl rfl (one_of HT_.out B8x13_) (by decide) (fun K hK => ?_)
                   refine Kd.R_append_step (Kd.int .i64) (w0 := w) w.heap.size (by rfl) (.tmp 118) (.tmp 121) 51 3 (.int .i64 0) 8 rfl Try.underlying51 info3 rfl (by decide) (by omega) (.slice A263_3 ((rd_T82 x9_45 x10_45).f3).length c263_3) ((rd_T82 x9_45 x10_45).f3) a1_3 [.int .i64 a1_3] (fun k_ => oki112 k_ ∨ ((fun k_ => (w.heap.size ≤ k_))) k_ ∧ w111.heap.size ≤ k_) (fun _ => False) rfl rfl ?aP (fun _ hk => hk.elim) ?aF ?aO ?aB ?aS ?aL ?_
                   (case aP => exact rfl)
                   (case aB => exact B8x0_)
                   (case aF => exact (fun k_ hk => .inr ⟨(by first | trivial | exact Nat.le_trans (below_size (by repeat (first | (with_reducible first | exact HB.out | apply below_alloc | apply pw_below_drewN | apply below_drew1) | exact HB.out))) hk), hk⟩))
                   (case aO => (with_reducible repeat (first | apply Kd.R_alloc | apply Kd.R_drewN | apply Kd.R_drew)); exact Kd.R_mono UU112.out (fun _ hk => .inl hk))
                   (case aS => exact B8x33_)
                   (case aL => have := LMc71.out; omega)
                   intro v265 w113 ho hb hg hat
                   (first | have HS6_ := cell_grown hg (hHeld.2.2.2.2.2.2.1) B8x1_ | have HS6_ := cell_grown hg (cell_unalloc (hHeld.2.2.2.2.2.2.1) B8x4_) B8x1_)
                   (first | have HS7_ := cell_grown hg (hHeld.2.2.2.2.2.2.2.1) B8x1_ | have HS7_ := cell_grown hg (cell_unalloc (hHeld.2.2.2.2.2.2.2.1) B8x4_) B8x1_)
                   (first | have HS8_ := cell_grown hg (hHeld.2.2.2.2.2.2.2.2.1) B8x1_ | have HS8_ := cell_grown hg (cell_unalloc (hHeld.2.2.2.2.2.2.2.2.1) B8x4_) B8x1_)
                   (first | have HS9_ := cell_grown hg (hHeld.2.2.2.2.2.2.2.2.2.1) B8x1_ | have HS9_ := cell_grown hg (cell_unalloc (hHeld.2.2.2.2.2.2.2.2.2.1) B8x4_) B8x1_)
                   (first | have HS10_ := cell_grown hg (hHeld.2.2.2.2.2.2.2.2.2.2.1) B8x1_ | have HS10_ := cell_grown hg (cell_unalloc (hHeld.2.2.2.2.2.2.2.2.2.2.1) B8x4_) B8x1_)
                   (first | have HS11_ := cell_grown hg (hHeld.2.2.2.2.2.2.2.2.2.2.2) B8x1_ | have HS11_ := cell_grown hg (cell_unalloc (hHeld.2.2.2.2.2.2.2.2.2.2.2) B8x4_) B8x1_)
                   rw [← Ny264.out] at ho
                   replace BK241 := Aside0.mk (blk_grown (g := gb241) (o := .cells #[.int .i64 a1_0, .int .i64 a1_1, .int .i64 a1_2, .int .i64 a1_3, .bool false, .string a1_5] 62 (0, 0)) B8x6_ hg (Kd.R_ne HL263_3.out BK241.out (by decide)))
                   replace BK242 := Aside0.mk (blk_grown (g := gb242) (o := .cells #[.int .i64 0, .int .i64 0, .int .i64 0, .int .i64 0, .bool false, .string (⟨#[]⟩ : ByteArray)] 62 (0, 0)) B8x5_ hg (Kd.R_ne HL263_3.out BK242.out (by decide)))
                   replace HB := Aside0.mk (hb)
                   replace HH112 := Aside0.mk (Kd.H_grown (Kd.H_widen (by repeat (first | exact HH112.out | refine Kd.H_alloc ?_ _ | refine Kd.H_drewN ?_ _ | refine Kd.H_drew ?_))) hg (fun k_ e_ => .inl (UU112.out.1 k_ e_)))
                   replace HE112_2 := Aside0.mk (Kd.R_over' (v := (.slice A263_3 ((rd_T82 x9_45 x10_45).f3).length c263_3)) (by (with_reducible repeat (first | apply Kd.R_alloc | apply Kd.R_drewN | apply Kd.R_drew)); exact HE112_2.out) (Kd.R_typed UU112.out) (by decide) hg)
                   have HO266 := Aside0.mk (ho)
                   clear HO_9
                   clear UU112
                   clear HL260_2
                   clear HL260_3
                   clear HL263_2
                   clear HL263_3
                   clear ho hb hg hat
                   have p72 : 0 ≤ (x10_45 : Int) := of_decide_eq_true B8x3_
                   have q72 : (x10_45 : Int) < ((x9_45.length : Int) : Int) := of_decide_eq_true B8x3_
                   replace p72 := eq_true p72
                   replace q72 := eq_true q72
                   obtain ⟨Ao116, co116, eo116⟩ := Kd.R_slice HO266.out
                   (first | subst eo116 | (injection eo116 with f1_ f2_ f3_; have f4_ := f1_.symm; have f5_ := f3_.symm; clear f1_ f2_ f3_; subst f4_; subst f5_))
                   obtain ⟨_, _, hraw114, _, _, hcc114, _⟩ := Kd.H_raw HH112.out (of_decide_eq_true B8x3_) (by have h_ : (x10_45 : Int) < ((x9_45.length : Int) : Int) := of_decide_eq_true B8x3_; first | exact h_ | (have e_ := (HN112.out); omega) | simpa using h_)
                   obtain ⟨_, hfr114⟩ := Kd.H_at HH112.out (of_decide_eq_true B8x3_) (by have h_ : (x10_45 : Int) < ((x9_45.length : Int) : Int) := of_decide_eq_true B8x3_; first | exact h_ | (have e_ := (HN112.out); omega) | simpa using h_)
                   have hx114_0 := hcc114 3 _ rfl
                   have hf114_0 := hfr114 3
                   (try rw [show (k82).sz = 6 from rfl] at hx114_0)
                   (try rw [show (k82).sz = 6 from rfl] at hf114_0)
                   have HP114 := Kd.S_seg0 HH112.out (of_decide_eq_true B8x3_) (by have h_ : (x10_45 : Int) < ((x9_45.length : Int) : Int) := of_decide_eq_true B8x3_; first | exact h_ | (have e_ := (HN112.out); omega) | simpa using h_) (seg := [.slice Ao116 y264.length co116]) (j := 3) (show 4 ≤ 6 from (by decide)) (x' := (⟨(rd_T82 x9_45 x10_45).f0, (rd_T82 x9_45 x10_45).f1, (rd_T82 x9_45 x10_45).f2, y264, (rd_T82 x9_45 x10_45).f4, (rd_T82 x9_45 x10_45).f5⟩ : S82)) (k82_mkM _ _ _ (⟨(rd_T82 x9_45 x10_45).f0, (rd_T82 x9_45 x10_45).f1, (rd_T82 x9_45 x10_45).f2, y264, (rd_T82 x9_45 x10_45).f4, (rd_T82 x9_45 x10_45).f5⟩ : S82) (Kd.R_mono HE112_2.out (fun _ h_ => .inl h_)) HO266.out) (fun _ hk => hk)
                   clear hcc114 hfr114
                   have HNB241_go112 := Aside0.mk (show gb241 ≠ go112 from (by have h_ := Kd.R_ne hraw114 BK241.out (by decide); intro e_; exact h_ B8x43_))
                   have HNB242_go112 := Aside0.mk (show gb242 ≠ go112 from (by have h_ := Kd.R_ne hraw114 BK242.out (by decide); intro e_; exact h_ B8x43_))
                   have HS114 := HP114.1
                   rw [← Ny267.out] at HS114
                   have HQ114 := Aside0.mk HS114
                   obtain ⟨_, hgg114⟩ := Kd.R_typed hraw114 go112 rfl
                   have GG114_ := Aside0.mk hgg114
                   clear HP114 HS114 hgg114
                   refine hK.out _ _ ⟨(blk_cell BK241.out 0).trans rfl, (blk_cell BK241.out 1).trans rfl, (blk_cell BK241.out 2).trans rfl, (blk_cell BK241.out 3).trans rfl, (blk_cell BK241.out 4).trans rfl, (blk_cell BK241.out 5).trans rfl, HS6_, HS7_, HS8_, HS9_, HS10_, HS11_⟩ (fun hHeld => ?_)
                   clear hK K
                   refine norm_ (a' := ?_) ?_ ?_
                   rotate_left
                   ·show Act.put _ (some 122) _ = _
                    simp only [Act.put, List.setIfInBounds_toArray, List.set_cons_zero, List.set_cons_succ, i64_w, i32_w]
                    rfl
                   refine pu_ 11 123 HT_ ?_
                   refine pu_ 12 124 HT_ ?_
                   refine last_ (i := 13) (N := none) #[true, true, true, true, true, true, true, true, true, true, true, true, true, true] rfl rfl (one_of HT_.out B8x13_) (by decide) (fun K hK => ?_)
                   refine skip_ (w1 := ?_) (by rfl) rfl ?_ ?_
                   rotate_left
                   ·go_simp
                    rfl
                   refine hK.out _ _ ?_
                   clear hK K
                   refine done_ (done_of HT_.out B8x13_) ?_
                   try go_wp2
                   have n0_ : Aside0 (Kd.S k82 82 (w113.setCell ⟨go112, (x10_45 : Int).toNat * 6 + 3, none⟩ (.slice Ao116 y264.length co116)) w.heap.size (fun k_ => (w.heap.size ≤ k_)) (.slice (some ⟨go112, 0, none⟩) x9_45.length co69) y267) := ⟨(by (with_reducible repeat (first | apply Kd.S_alloc | apply Kd.S_drewN | apply Kd.S_drew)); exact HQ114.out)⟩
                   have n1_ : Aside0 ((w113.setCell ⟨go112, (x10_45 : Int).toNat * 6 + 3, none⟩ (.slice Ao116 y264.length co116)).heap[gb241]? = some (.cells #[.int .i64 a1_0, .int .i64 a1_1, .int .i64 a1_2, .int .i64 a1_3, .bool false, .string a1_5] 62 (0, 0))) := ⟨B8x24_⟩
                   have n2_ : Aside0 ((w113.setCell ⟨go112, (x10_45 : Int).toNat * 6 + 3, none⟩ (.slice Ao116 y264.length co116)).heap[gb242]? = some (.cells #[.int .i64 0, .int .i64 0, .int .i64 0, .int .i64 0, .bool false, .string (⟨#[]⟩ : ByteArray)] 62 (0, 0))) := ⟨B8x25_⟩
                   have n3_ : Aside0 (Below w.heap.size w (w113.setCell ⟨go112, (x10_45 : Int).toNat * 6 + 3, none⟩ (.slice Ao116 y264.length co116))) := ⟨B8x29_⟩
                   (try clear HO_9)
                   (try clear BK241)
                   (try clear BK242)
                   (try clear HB)
                   generalize (w113.setCell ⟨go112, (x10_45 : Int).toNat * 6 + 3, none⟩ (.slice Ao116 y264.length co116)) = w117 at n0_ n1_ n2_ n3_ ⊢
                   have HO_9 := n0_
                   have BK241 := n1_
                   have BK242 := n2_
                   have HB := n3_
                   clear n0_ n1_ n2_ n3_
                   replace HO_9 := Aside0.mk (Kd.S_drew HO_9.out)
                   replace BK241 := Aside0.mk (blk_drew BK241.out)
                   replace BK242 := Aside0.mk (blk_drew BK242.out)
                   replace HB := Aside0.mk (below_drew1 HB.out)
                   have p268 : 0 ≤ (x10_45 : Int) := of_decide_eq_true B8x3_
                   have q268 : x10_45 < (y267.length : Int) := (by have h_ : (x10_45 : Int) < ((x9_45.length : Int) : Int) := of_decide_eq_true B8x3_; first | (have e_ := (Kd.S_reads' HO_9.out).1; omega) | simpa only [Ny267.out, List.length_set] using h_)
                   have ql268 : ((x10_45 : Int) < ((x9_45.length : Int) : Int)) = True := eq_true (of_decide_eq_true B8x3_)
                   obtain ⟨ad268, A268_2, c268_2, A268_3, c268_3, e268, hx268_0, hx268_1, hx268_2, hx268_3, hx268_4, hx268_5, hl268_2, hi268_2, hl268_3, hi268_3⟩ := at_T82 (Kd.S_reads' HO_9.out).2.2 x10_45 p268 q268
                   obtain rfl : (⟨go112, 0, none⟩ : Addr) = ad268 := (by injection e268)
                   obtain ⟨ce268, hce268, hMe268, hcc268⟩ := Kd.S_get HO_9.out z82 x10_45 p268 B8x36_
                   obtain ⟨ve268_2, ve268_3, rfl, ge268_2, ge268_3⟩ := k82_openM hMe268
                   have hv268_2 := hcc268 2 _ rfl
                   rw [add_field _ _ 2 (by omega)] at hv268_2
                   replace hv268_2 := Option.some.inj (hv268_2.symm.trans hx268_2)
                   rw [hv268_2] at ge268_2
                   have HL268_2 := Aside0.mk (show Kd.R Kd.string 9 _ _ _ _ ((rd_T82 y267 x10_45).f2) from ge268_2)
                   clear hv268_2 ge268_2
                   have HX268_2 := Aside0.mk hx268_2
                   have hv268_3 := hcc268 3 _ rfl
                   rw [add_field _ _ 3 (by omega)] at hv268_3
                   replace hv268_3 := Option.some.inj (hv268_3.symm.trans hx268_3)
                   rw [hv268_3] at ge268_3
                   have HL268_3 := Aside0.mk (show Kd.R (Kd.int .i64) 3 _ _ _ _ ((rd_T82 y267 x10_45).f3) from ge268_3)
                   clear hv268_3 ge268_3
                   have HX268_3 := Aside0.mk hx268_3
                   clear hcc268 hce268
                   (first | simp only [add_plain] at hx268_0 | simp only [add_at] at hx268_0 | simp only [Addr.add, Nat.zero_add] at hx268_0 | skip)
                   (first | simp only [add_plain] at hx268_1 | simp only [add_at] at hx268_1 | simp only [Addr.add, Nat.zero_add] at hx268_1 | skip)
                   (first | simp only [add_plain] at hx268_2 | simp only [add_at] at hx268_2 | simp only [Addr.add, Nat.zero_add] at hx268_2 | skip)
                   (first | simp only [add_plain] at hx268_3 | simp only [add_at] at hx268_3 | simp only [Addr.add, Nat.zero_add] at hx268_3 | skip)
                   (first | simp only [add_plain] at hx268_4 | simp only [add_at] at hx268_4 | simp only [Addr.add, Nat.zero_add] at hx268_4 | skip)
                   (first | simp only [add_plain] at hx268_5 | simp only [add_at] at hx268_5 | simp only [Addr.add, Nat.zero_add] at hx268_5 | skip)
                   have HR268_2 := Aside0.mk hi268_2
                   have HC268_2 := Aside0.mk hl268_2
                   clear hi268_2 hl268_2
                   have HR268_3 := Aside0.mk hi268_3
                   have HC268_3 := Aside0.mk hl268_3
                   clear hi268_3 hl268_3
                   replace p268 := eq_true p268
                   replace q268 := eq_true q268
                   obtain ⟨oki119, ce119, hcl119, hM119, hcc119, _, _, hH119⟩ := Kd.S_elem HO_9.out z82 (x10_45 : Int) (of_decide_eq_true B8x3_) (by have h_ : (x10_45 : Int) < ((x9_45.length : Int) : Int) := of_decide_eq_true B8x3_; first | exact h_ | (have e_ := (Kd.S_reads' HO_9.out).1; omega) | simpa using h_)
                   obtain ⟨ve119_2, ve119_3, rfl, ge119_2, ge119_3⟩ := k82_openM hM119
                   have hv119 := hcc119 2 _ rfl
                   have hX119 := HX268_2.out
                   (try simp only [add_plain] at hX119)
                   (try simp only [Nat.add_zero] at hv119)
                   replace hv119 := Option.some.inj (hv119.symm.trans hX119)
                   subst hv119
                   clear hX119 hcc119 hcl119
                   have UU119 := Aside0.mk (show Kd.R Kd.string 9 _ w.heap.size oki119 (.slice A268_2 ((rd_T82 y267 x10_45).f2).length c268_2) ((rd_T82 y267 x10_45).f2) from ge119_2)
                   have HH119 := Aside0.mk hH119
                   have HN119 := Aside0.mk (Kd.S_reads' HO_9.out).1
                   have HE119_3 := Aside0.mk ge119_3
                   clear hH119 ge119_2 ge119_3
                   refine start_ (n := 14) (S := fun w' => w'.cell? ⟨gb241, 0, none⟩ = some (.int .i64 a1_0) ∧ w'.cell? ⟨gb241, 1, none⟩ = some (.int .i64 a1_1) ∧ w'.cell? ⟨gb241, 2, none⟩ = some (.int .i64 a1_2) ∧ w'.cell? ⟨gb241, 3, none⟩ = some (.int .i64 a1_3) ∧ w'.cell? ⟨gb241, 4, none⟩ = some (.bool false) ∧ w'.cell? ⟨gb241, 5, none⟩ = some (.string a1_5) ∧ w'.cell? ⟨go112, (x10_45).toNat * 6, none⟩ = some (.int .i64 ((rd_T82 y267 x10_45).f0)) ∧ w'.cell? ⟨go112, (x10_45).toNat * 6 + 1, none⟩ = some (.int .i64 ((rd_T82 y267 x10_45).f1)) ∧ w'.cell? ⟨go112, (x10_45).toNat * 6 + 2, none⟩ = some (.slice A268_2 ((rd_T82 y267 x10_45).f2).length c268_2) ∧ w'.cell? ⟨go112, (x10_45).toNat * 6 + 3, none⟩ = some (.slice A268_3 ((rd_T82 y267 x10_45).f3).length c268_3) ∧ w'.cell? ⟨go112, (x10_45).toNat * 6 + 4, none⟩ = some (.int .i64 ((rd_T82 y267 x10_45).f4)) ∧ w'.cell? ⟨go112, (x10_45).toNat * 6 + 5, none⟩ = some (.int .i64 ((rd_T82 y267 x10_45).f5))) (ds := [13]) #[false, false, false, false, false, false, false, false, false, false, false, false, false, false] B8x13_ rfl rfl ⟨(blk_cell BK241.out 0).trans rfl, (blk_cell BK241.out 1).trans rfl, (blk_cell BK241.out 2).trans rfl, (blk_cell BK241.out 3).trans rfl, (blk_cell BK241.out 4).trans rfl, (blk_cell BK241.out 5).trans rfl, hx268_0, hx268_1, hx268_2, hx268_3, hx268_4, hx268_5⟩ (fun hHeld => ?_); refine with_tabW spec_JoinBits.tab24 spec_JoinBits.bits24 (fun HT_ HW_ => ?_)
                   generalize w117.drew = w118 at HO_9 BK241 BK242 HB HE119_3 HH119 HL268_2 HL268_3 HQ114 HR268_2 HR268_3 HX268_2 HX268_3 UU119 hx268_0 hx268_1 hx268_2 hx268_3 hx268_4 hx268_5 hHeld ⊢
                   refine pu_ 0 125 HT_ ?_
                   refine pu_ 1 126 HT_ ?_
                   refine pu_ 2 127 HT_ ?_
                   refine pu_ 3 128 HT_ ?_
                   refine pu_ 4 129 HT_ ?_
                   refine pu_ 5 130 HT_ ?_
                   refine pu_ 7 132 HT_ ?_
                   refine ta_ 6 131 HT_ HW_ hHeld ?_
                   refine ta_ 8 133 HT_ HW_ hHeld ?_
                   refine one_ (i := 9) (N := some 134) #[true, true, true, true, true, true, true, true, true, true, false, false, false, false] rfl rfl (one_of HT_.out B8x13_) (by decide) (fun K hK => ?_)
                   refine value_ (w1 := ?_) (v := ?_) (by rfl) rfl ?_ ?_
                   rotate_left 2
                   ·go_simp
                    constructor
                    ·rfl
                    ·rfl
                   refine hK.out _ _ ⟨(blk_cell (blk_alloc BK241.out _) 0).trans rfl, (blk_cell (blk_alloc BK241.out _) 1).trans rfl, (blk_cell (blk_alloc BK241.out _) 2).trans rfl, (blk_cell (blk_alloc BK241.out _) 3).trans rfl, (blk_cell (blk_alloc BK241.out _) 4).trans rfl, (blk_cell (blk_alloc BK241.out _) 5).trans rfl, (World.cell?_alloc_lt _ _ _ (World.block_lt_of_cell? _ _ (hHeld.2.2.2.2.2.2.1))).trans (hHeld.2.2.2.2.2.2.1), (World.cell?_alloc_lt _ _ _ (World.block_lt_of_cell? _ _ (hHeld.2.2.2.2.2.2.2.1))).trans (hHeld.2.2.2.2.2.2.2.1), (World.cell?_alloc_lt _ _ _ (World.block_lt_of_cell? _ _ (hHeld.2.2.2.2.2.2.2.2.1))).trans (hHeld.2.2.2.2.2.2.2.2.1), (World.cell?_alloc_lt _ _ _ (World.block_lt_of_cell? _ _ (hHeld.2.2.2.2.2.2.2.2.2.1))).trans (hHeld.2.2.2.2.2.2.2.2.2.1), (World.cell?_alloc_lt _ _ _ (World.block_lt_of_cell? _ _ (hHeld.2.2.2.2.2.2.2.2.2.2.1))).trans (hHeld.2.2.2.2.2.2.2.2.2.2.1), (World.cell?_alloc_lt _ _ _ (World.block_lt_of_cell? _ _ (hHeld.2.2.2.2.2.2.2.2.2.2.2))).trans (hHeld.2.2.2.2.2.2.2.2.2.2.2)⟩ (fun hHeld => ?_)
                   clear hK K
                   refine norm_ (a' := ?_) ?_ ?_
                   rotate_left
                   ·show Act.put _ (some 134) _ = _
                    simp only [Act.put, List.setIfInBounds_toArray, List.set_cons_zero, List.set_cons_succ, i64_w, i32_w]
                    rfl
                   refine one_ (i := 10) (N := some 135) #[true, true, true, true, true, true, true, true, true, true, true, false, false, false] rfl rfl (one_of HT_.out B8x13_) (by decide) (fun K hK => ?_)
                   refine Kd.R_append_step Kd.string (w0 := w) w.heap.size (by rfl) (.tmp 131) (.tmp 134) 25 9 (.string ⟨#[]⟩) 16 rfl Try.underlying25 info9 rfl (by decide) (by omega) (.slice A268_2 ((rd_T82 y267 x10_45).f2).length c268_2) ((rd_T82 y267 x10_45).f2) a1_5 [.string a1_5] (fun k_ => oki119 k_ ∨ ((fun k_ => (w.heap.size ≤ k_))) k_ ∧ w118.heap.size ≤ k_) (fun _ => False) rfl rfl ?aP (fun _ hk => hk.elim) ?aF ?aO ?aB ?aS ?aL ?_
                   (case aP => exact rfl)
                   (case aB => exact B8x0_)
                   (case aF => exact (fun k_ hk => .inr ⟨(by first | trivial | exact Nat.le_trans (below_size (by repeat (first | (with_reducible first | exact HB.out | apply below_alloc | apply pw_below_drewN | apply below_drew1) | exact HB.out))) hk), hk⟩))
                   (case aO => (with_reducible repeat (first | apply Kd.R_alloc | apply Kd.R_drewN | apply Kd.R_drew)); exact Kd.R_mono UU119.out (fun _ hk => .inl hk))
                   (case aS => exact B8x33_)
                   (case aL => have := LMc73.out; omega)
                   intro v270 w120 ho hb hg hat
                   (first | have HS6_ := cell_grown hg (hHeld.2.2.2.2.2.2.1) B8x2_ | have HS6_ := cell_grown hg (cell_unalloc (hHeld.2.2.2.2.2.2.1) B8x4_) B8x2_)
                   (first | have HS7_ := cell_grown hg (hHeld.2.2.2.2.2.2.2.1) B8x2_ | have HS7_ := cell_grown hg (cell_unalloc (hHeld.2.2.2.2.2.2.2.1) B8x4_) B8x2_)
                   (first | have HS8_ := cell_grown hg (hHeld.2.2.2.2.2.2.2.2.1) B8x2_ | have HS8_ := cell_grown hg (cell_unalloc (hHeld.2.2.2.2.2.2.2.2.1) B8x4_) B8x2_)
                   (first | have HS9_ := cell_grown hg (hHeld.2.2.2.2.2.2.2.2.2.1) B8x2_ | have HS9_ := cell_grown hg (cell_unalloc (hHeld.2.2.2.2.2.2.2.2.2.1) B8x4_) B8x2_)
                   (first | have HS10_ := cell_grown hg (hHeld.2.2.2.2.2.2.2.2.2.2.1) B8x2_ | have HS10_ := cell_grown hg (cell_unalloc (hHeld.2.2.2.2.2.2.2.2.2.2.1) B8x4_) B8x2_)
                   (first | have HS11_ := cell_grown hg (hHeld.2.2.2.2.2.2.2.2.2.2.2) B8x2_ | have HS11_ := cell_grown hg (cell_unalloc (hHeld.2.2.2.2.2.2.2.2.2.2.2) B8x4_) B8x2_)
                   rw [← Ny269.out] at ho
                   replace BK241 := Aside0.mk (blk_grown (g := gb241) (o := .cells #[.int .i64 a1_0, .int .i64 a1_1, .int .i64 a1_2, .int .i64 a1_3, .bool false, .string a1_5] 62 (0, 0)) B8x6_ hg (Kd.R_ne HL268_2.out BK241.out (by decide)))
                   replace BK242 := Aside0.mk (blk_grown (g := gb242) (o := .cells #[.int .i64 0, .int .i64 0, .int .i64 0, .int .i64 0, .bool false, .string (⟨#[]⟩ : ByteArray)] 62 (0, 0)) B8x5_ hg (Kd.R_ne HL268_2.out BK242.out (by decide)))
                   replace HB := Aside0.mk (hb)
                   replace HH119 := Aside0.mk (Kd.H_grown (Kd.H_widen (by repeat (first | exact HH119.out | refine Kd.H_alloc ?_ _ | refine Kd.H_drewN ?_ _ | refine Kd.H_drew ?_))) hg (fun k_ e_ => .inl (UU119.out.1 k_ e_)))
                   replace HE119_3 := Aside0.mk (Kd.R_over' (v := (.slice A268_2 ((rd_T82 y267 x10_45).f2).length c268_2)) (by (with_reducible repeat (first | apply Kd.R_alloc | apply Kd.R_drewN | apply Kd.R_drew)); exact HE119_3.out) (Kd.R_typed UU119.out) (by decide) hg)
                   have HO271 := Aside0.mk (ho)
                   clear HO_9
                   clear UU119
                   clear HL268_2
                   clear HL268_3
                   clear ho hb hg hat
                   have p74 : 0 ≤ (x10_45 : Int) := of_decide_eq_true B8x3_
                   have q74 : (x10_45 : Int) < ((x9_45.length : Int) : Int) := of_decide_eq_true B8x3_
                   replace p74 := eq_true p74
                   replace q74 := eq_true q74
                   obtain ⟨Ao123, co123, eo123⟩ := Kd.R_slice HO271.out
                   (first | subst eo123 | (injection eo123 with f1_ f2_ f3_; have f4_ := f1_.symm; have f5_ := f3_.symm; clear f1_ f2_ f3_; subst f4_; subst f5_))
                   obtain ⟨_, _, hraw121, _, _, hcc121, _⟩ := Kd.H_raw HH119.out (of_decide_eq_true B8x3_) (by have h_ : (x10_45 : Int) < ((x9_45.length : Int) : Int) := of_decide_eq_true B8x3_; first | exact h_ | (have e_ := (HN119.out); omega) | simpa using h_)
                   obtain ⟨_, hfr121⟩ := Kd.H_at HH119.out (of_decide_eq_true B8x3_) (by have h_ : (x10_45 : Int) < ((x9_45.length : Int) : Int) := of_decide_eq_true B8x3_; first | exact h_ | (have e_ := (HN119.out); omega) | simpa using h_)
                   have hx121_0 := hcc121 2 _ rfl
                   have hf121_0 := hfr121 2
                   (try rw [show (k82).sz = 6 from rfl] at hx121_0)
                   (try rw [show (k82).sz = 6 from rfl] at hf121_0)
                   have HP121 := Kd.S_seg0 HH119.out (of_decide_eq_true B8x3_) (by have h_ : (x10_45 : Int) < ((x9_45.length : Int) : Int) := of_decide_eq_true B8x3_; first | exact h_ | (have e_ := (HN119.out); omega) | simpa using h_) (seg := [.slice Ao123 y269.length co123]) (j := 2) (show 3 ≤ 6 from (by decide)) (x' := (⟨(rd_T82 y267 x10_45).f0, (rd_T82 y267 x10_45).f1, y269, (rd_T82 y267 x10_45).f3, (rd_T82 y267 x10_45).f4, (rd_T82 y267 x10_45).f5⟩ : S82)) (k82_mkM _ _ _ (⟨(rd_T82 y267 x10_45).f0, (rd_T82 y267 x10_45).f1, y269, (rd_T82 y267 x10_45).f3, (rd_T82 y267 x10_45).f4, (rd_T82 y267 x10_45).f5⟩ : S82) HO271.out (Kd.R_mono HE119_3.out (fun _ h_ => .inl h_))) (fun _ hk => hk)
                   clear hcc121 hfr121
                   have HNB241_go112 := Aside0.mk (show gb241 ≠ go112 from (by have h_ := Kd.R_ne hraw121 BK241.out (by decide); intro e_; exact h_ B8x43_))
                   have HNB242_go112 := Aside0.mk (show gb242 ≠ go112 from (by have h_ := Kd.R_ne hraw121 BK242.out (by decide); intro e_; exact h_ B8x43_))
                   have HS121 := HP121.1
                   rw [← Ny272.out] at HS121
                   have HQ121 := Aside0.mk HS121
                   obtain ⟨_, hgg121⟩ := Kd.R_typed hraw121 go112 rfl
                   have GG121_ := Aside0.mk hgg121
                   clear HP121 HS121 hgg121
                   refine hK.out _ _ ⟨(blk_cell BK241.out 0).trans rfl, (blk_cell BK241.out 1).trans rfl, (blk_cell BK241.out 2).trans rfl, (blk_cell BK241.out 3).trans rfl, (blk_cell BK241.out 4).trans rfl, (blk_cell BK241.out 5).trans rfl, HS6_, HS7_, HS8_, HS9_, HS10_, HS11_⟩ (fun hHeld => ?_)
                   clear hK K
                   refine norm_ (a' := ?_) ?_ ?_
                   rotate_left
                   ·show Act.put _ (some 135) _ = _
                    simp only [Act.put, List.setIfInBounds_toArray, List.set_cons_zero, List.set_cons_succ, i64_w, i32_w]
                    rfl
                   refine pu_ 11 136 HT_ ?_
                   refine pu_ 12 137 HT_ ?_
                   refine last_ (i := 13) (N := none) #[true, true, true, true, true, true, true, true, true, true, true, true, true, true] rfl rfl (one_of HT_.out B8x13_) (by decide) (fun K hK => ?_)
                   refine skip_ (w1 := ?_) (by rfl) rfl ?_ ?_
                   rotate_left
                   ·go_simp
                    rfl
                   refine hK.out _ _ ?_
                   clear hK K
                   refine done_ (done_of HT_.out B8x13_) ?_
                   have n0_ : Aside0 (Kd.S k82 82 (w120.setCell ⟨go112, (x10_45 : Int).toNat * 6 + 2, none⟩ (.slice Ao123 y269.length co123)) w.heap.size (fun k_ => (w.heap.size ≤ k_)) (.slice (some ⟨go112, 0, none⟩) x9_45.length co69) y272) := ⟨(by (with_reducible repeat (first | apply Kd.S_alloc | apply Kd.S_drewN | apply Kd.S_drew)); exact HQ121.out)⟩
                   have n1_ : Aside0 ((w120.setCell ⟨go112, (x10_45 : Int).toNat * 6 + 2, none⟩ (.slice Ao123 y269.length co123)).heap[gb241]? = some (.cells #[.int .i64 a1_0, .int .i64 a1_1, .int .i64 a1_2, .int .i64 a1_3, .bool false, .string a1_5] 62 (0, 0))) := ⟨B8x24_⟩
                   have n2_ : Aside0 ((w120.setCell ⟨go112, (x10_45 : Int).toNat * 6 + 2, none⟩ (.slice Ao123 y269.length co123)).heap[gb242]? = some (.cells #[.int .i64 0, .int .i64 0, .int .i64 0, .int .i64 0, .bool false, .string (⟨#[]⟩ : ByteArray)] 62 (0, 0))) := ⟨B8x25_⟩
                   have n3_ : Aside0 (Below w.heap.size w (w120.setCell ⟨go112, (x10_45 : Int).toNat * 6 + 2, none⟩ (.slice Ao123 y269.length co123))) := ⟨B8x29_⟩
                   (try clear HO_9)
                   (try clear BK241)
                   (try clear BK242)
                   (try clear HB)
                   generalize (w120.setCell ⟨go112, (x10_45 : Int).toNat * 6 + 2, none⟩ (.slice Ao123 y269.length co123)) = w124 at n0_ n1_ n2_ n3_ ⊢
                   have HO_9 := n0_
                   have BK241 := n1_
                   have BK242 := n2_
                   have HB := n3_
                   clear n0_ n1_ n2_ n3_
                   have hnb125 := NB241_242.out
                   have hnc125 := NB242_241.out
                   obtain ⟨hcz126_0, hcz126_1, hcz126_2, hcz126_3, hcz126_4, hcz126_5⟩ := cl6 BK241.out
                   obtain ⟨hfz126_0, hfz126_1, hfz126_2, hfz126_3, hfz126_4, hfz126_5⟩ := fr6 BK241.out
                   have p273 : 0 ≤ (x10_45 : Int) := of_decide_eq_true B8x3_
                   have q273 : x10_45 < (y272.length : Int) := (by have h_ : (x10_45 : Int) < ((x9_45.length : Int) : Int) := of_decide_eq_true B8x3_; first | (have e_ := (Kd.S_reads' HO_9.out).1; omega) | simpa only [Ny267.out, Ny272.out, List.length_set] using h_)
                   have ql273 : ((x10_45 : Int) < ((x9_45.length : Int) : Int)) = True := eq_true (of_decide_eq_true B8x3_)
                   obtain ⟨ad273, A273_2, c273_2, A273_3, c273_3, e273, hx273_0, hx273_1, hx273_2, hx273_3, hx273_4, hx273_5, hl273_2, hi273_2, hl273_3, hi273_3⟩ := at_T82 (Kd.S_reads' HO_9.out).2.2 x10_45 p273 q273
                   obtain rfl : (⟨go112, 0, none⟩ : Addr) = ad273 := (by injection e273)
                   obtain ⟨ce273, hce273, hMe273, hcc273⟩ := Kd.S_get HO_9.out z82 x10_45 p273 B8x49_
                   obtain ⟨ve273_2, ve273_3, rfl, ge273_2, ge273_3⟩ := k82_openM hMe273
                   have hv273_2 := hcc273 2 _ rfl
                   rw [add_field _ _ 2 (by omega)] at hv273_2
                   replace hv273_2 := Option.some.inj (hv273_2.symm.trans hx273_2)
                   rw [hv273_2] at ge273_2
                   have HL273_2 := Aside0.mk (show Kd.R Kd.string 9 _ _ _ _ ((rd_T82 y272 x10_45).f2) from ge273_2)
                   clear hv273_2 ge273_2
                   have HX273_2 := Aside0.mk hx273_2
                   have hv273_3 := hcc273 3 _ rfl
                   rw [add_field _ _ 3 (by omega)] at hv273_3
                   replace hv273_3 := Option.some.inj (hv273_3.symm.trans hx273_3)
                   rw [hv273_3] at ge273_3
                   have HL273_3 := Aside0.mk (show Kd.R (Kd.int .i64) 3 _ _ _ _ ((rd_T82 y272 x10_45).f3) from ge273_3)
                   clear hv273_3 ge273_3
                   have HX273_3 := Aside0.mk hx273_3
                   clear hcc273 hce273
                   (first | simp only [add_plain] at hx273_0 | simp only [add_at] at hx273_0 | simp only [Addr.add, Nat.zero_add] at hx273_0 | skip)
                   (first | simp only [add_plain] at hx273_1 | simp only [add_at] at hx273_1 | simp only [Addr.add, Nat.zero_add] at hx273_1 | skip)
                   (first | simp only [add_plain] at hx273_2 | simp only [add_at] at hx273_2 | simp only [Addr.add, Nat.zero_add] at hx273_2 | skip)
                   (first | simp only [add_plain] at hx273_3 | simp only [add_at] at hx273_3 | simp only [Addr.add, Nat.zero_add] at hx273_3 | skip)
                   (first | simp only [add_plain] at hx273_4 | simp only [add_at] at hx273_4 | simp only [Addr.add, Nat.zero_add] at hx273_4 | skip)
                   (first | simp only [add_plain] at hx273_5 | simp only [add_at] at hx273_5 | simp only [Addr.add, Nat.zero_add] at hx273_5 | skip)
                   have HR273_2 := Aside0.mk hi273_2
                   have HC273_2 := Aside0.mk hl273_2
                   clear hi273_2 hl273_2
                   have HR273_3 := Aside0.mk hi273_3
                   have HC273_3 := Aside0.mk hl273_3
                   clear hi273_3 hl273_3
                   replace p273 := eq_true p273
                   replace q273 := eq_true q273
                   try go_wp2
                   go_meet
                   case rel => exact ⟨_, (y272), H', ⟨B8x14_⟩, ⟨Kd.R_N ((Kd.S_R B8x17_))⟩, ⟨B8x6_⟩, ⟨B8x5_⟩, ⟨B8x0_⟩⟩
               case rest => as_aux_lemma =>
                clear HC68
                obtain ⟨kq, x9_67, HA, HJ67, HO_9, BK241, BK242, HB⟩ := hcut
                have hl9_67 := (Kd.N_reads' HO_9.out).1
                rw [hl9_67] at HO_9
                (try simp only [hl9_67])
                (try simp only [hl9_67] at BK241)
                (try simp only [hl9_67] at BK242)
                cases kq with
                | zero => exact absurd HA.out (by simp [spec_JoinBits.j8])
                | succ kj67 =>
                 have H := HA.out
                 clear HA
                 simp only [spec_JoinBits.j8] at H
                 by_cases c127 : 0 ≤ x10_45
                 rotate_left
                 ·rw [if_neg c127] at H
                  exact absurd H (by simp)
                 rw [if_pos c127] at H
                 have c127b0 : decide (0 ≤ x10_45) = true := decide_eq_true c127
                 clear c127
                 by_cases c128 : x10_45 < (x9_67.length : Int)
                 rotate_left
                 ·rw [if_neg c128] at H
                  exact absurd H (by simp)
                 rw [if_pos c128] at H
                 have c128b0 : decide (x10_45 < (x9_67.length : Int)) = true := decide_eq_true c128
                 clear c128
                 replace H := bsi H
                 obtain ⟨⟨t276, t277⟩, A129, H⟩ := H
                 (try dsimp only at H)
                 by_cases c130 : t277 = true
                 ·subst c130
                  rw [if_pos rfl] at H
                  obtain ⟨y278, hy278⟩ : ∃ y_ : List (S82), y_ = (([] : List (S82))) := ⟨_, rfl⟩
                  replace H : (if x10_45 ≤ (x9_67.length : Int) then ((some (x9_67.take (x10_45 : Int).toNat : List (S82))).bind fun y281 => (if y278.length + y281.length < 1759218604441 then ((some (y278 ++ y281 : List (S82))).bind fun y286 => (if 0 ≤ (wrap64 (x10_45 + 1)) then (if (wrap64 (x10_45 + 1)) ≤ (x9_67.length : Int) then ((some (x9_67.drop ((wrap64 (x10_45 + 1)) : Int).toNat : List (S82))).bind fun y289 => (if y286.length + y289.length < 1759218604441 then ((spec_l11CopyBits.f kj67 (y286 ++ y289)).bind fun t297 => (some (t297, a1_0, a1_1, a1_2, 0, false, t276, true))) else (none))) else (none)) else (none))) else (none))) else (none)) = some (r1, r2, r3, r4, r5, r6, r7, r8) := by first | (rw [hy278]; with_reducible exact H) | (have H2_ := (Option.bind_some _ _).symm.trans H; rw [hy278]; with_reducible exact H2_) | (have H2_ := (Option.bind_some _ _).symm.trans H; with_reducible exact H2_) | with_reducible exact H | (rw [hy278]; exact H) | exact H
                  have Ny278 := Aside0.mk hy278
                  clear hy278
                  have c131b0 := eq_true (of_decide_eq_true B8x3_ : 0 ≤ x10_45)
                  by_cases c132 : x10_45 ≤ (x9_67.length : Int)
                  rotate_left
                  ·rw [if_neg c132] at H
                   exact absurd H (by simp)
                  rw [if_pos c132] at H
                  have c132b0 := eq_true c132
                  have c132b1 : decide (x10_45 ≤ (x9_67.length : Int)) = true := decide_eq_true c132
                  clear c132
                  obtain ⟨y281, hy281⟩ : ∃ y_ : List (S82), y_ = (x9_67.take (x10_45 : Int).toNat) := ⟨_, rfl⟩
                  replace H : (if y278.length + y281.length < 1759218604441 then ((some (y278 ++ y281 : List (S82))).bind fun y286 => (if 0 ≤ (wrap64 (x10_45 + 1)) then (if (wrap64 (x10_45 + 1)) ≤ (x9_67.length : Int) then ((some (x9_67.drop ((wrap64 (x10_45 + 1)) : Int).toNat : List (S82))).bind fun y289 => (if y286.length + y289.length < 1759218604441 then ((spec_l11CopyBits.f kj67 (y286 ++ y289)).bind fun t297 => (some (t297, a1_0, a1_1, a1_2, 0, false, t276, true))) else (none))) else (none)) else (none))) else (none)) = some (r1, r2, r3, r4, r5, r6, r7, r8) := by first | (rw [hy281]; with_reducible exact H) | (have H2_ := (Option.bind_some _ _).symm.trans H; rw [hy281]; with_reducible exact H2_) | (have H2_ := (Option.bind_some _ _).symm.trans H; with_reducible exact H2_) | with_reducible exact H | (rw [hy281]; exact H) | exact H
                  have Ny281 := Aside0.mk hy281
                  clear hy281
                  by_cases c133 : y278.length + y281.length < 1759218604441
                  rotate_left
                  ·rw [if_neg c133] at H
                   exact absurd H (by simp)
                  rw [if_pos c133] at H
                  have LMc133 := Aside0.mk c133
                  clear c133
                  obtain ⟨y286, hy286⟩ : ∃ y_ : List (S82), y_ = (y278 ++ y281) := ⟨_, rfl⟩
                  replace H : (if 0 ≤ (wrap64 (x10_45 + 1)) then (if (wrap64 (x10_45 + 1)) ≤ (x9_67.length : Int) then ((some (x9_67.drop ((wrap64 (x10_45 + 1)) : Int).toNat : List (S82))).bind fun y289 => (if y286.length + y289.length < 1759218604441 then ((spec_l11CopyBits.f kj67 (y286 ++ y289)).bind fun t297 => (some (t297, a1_0, a1_1, a1_2, 0, false, t276, true))) else (none))) else (none)) else (none)) = some (r1, r2, r3, r4, r5, r6, r7, r8) := by first | (rw [hy286]; with_reducible exact H) | (have H2_ := (Option.bind_some _ _).symm.trans H; rw [hy286]; with_reducible exact H2_) | (have H2_ := (Option.bind_some _ _).symm.trans H; with_reducible exact H2_) | with_reducible exact H | (rw [hy286]; exact H) | exact H
                  have Ny286 := Aside0.mk hy286
                  clear hy286
                  obtain ⟨ji134, hji134⟩ : ∃ j_ : Int, (wrap64 (x10_45 + 1)) = j_ := ⟨_, rfl⟩
                  replace H : (if 0 ≤ (ji134) then (if (ji134) ≤ (x9_67.length : Int) then ((some (x9_67.drop ((ji134) : Int).toNat : List (S82))).bind fun y289 => (if y286.length + y289.length < 1759218604441 then ((spec_l11CopyBits.f kj67 (y286 ++ y289)).bind fun t297 => (some (t297, a1_0, a1_1, a1_2, 0, false, t276, true))) else (none))) else (none)) else (none)) = some (r1, r2, r3, r4, r5, r6, r7, r8) := by first | (rw [hji134] at H; exact H) | (simp only [hji134] at H ⊢; exact H)
                  (try rw [hji134] at A129)
                  have hji134w : (IntKind.i64.wrap (x10_45 + 1)) = ji134 := (i64_w _).trans hji134
                  by_cases c135 : 0 ≤ (ji134)
                  rotate_left
                  ·rw [if_neg c135] at H
                   exact absurd H (by simp)
                  rw [if_pos c135] at H
                  have c135b0 := eq_true c135
                  have c135b1 : decide (0 ≤ (ji134)) = true := decide_eq_true c135
                  clear c135
                  by_cases c136 : (ji134) ≤ (x9_67.length : Int)
                  rotate_left
                  ·rw [if_neg c136] at H
                   exact absurd H (by simp)
                  rw [if_pos c136] at H
                  have c136b0 := eq_true c136
                  have c136b1 : decide ((ji134) ≤ (x9_67.length : Int)) = true := decide_eq_true c136
                  clear c136
                  obtain ⟨y289, hy289⟩ : ∃ y_ : List (S82), y_ = (x9_67.drop ((ji134) : Int).toNat) := ⟨_, rfl⟩
                  replace H : (if y286.length + y289.length < 1759218604441 then ((spec_l11CopyBits.f kj67 (y286 ++ y289)).bind fun t297 => (some (t297, a1_0, a1_1, a1_2, 0, false, t276, true))) else (none)) = some (r1, r2, r3, r4, r5, r6, r7, r8) := by first | (rw [hy289]; with_reducible exact H) | (have H2_ := (Option.bind_some _ _).symm.trans H; rw [hy289]; with_reducible exact H2_) | (have H2_ := (Option.bind_some _ _).symm.trans H; with_reducible exact H2_) | with_reducible exact H | (rw [hy289]; exact H) | exact H
                  have Ny289 := Aside0.mk hy289
                  clear hy289
                  by_cases c137 : y286.length + y289.length < 1759218604441
                  rotate_left
                  ·rw [if_neg c137] at H
                   exact absurd H (by simp)
                  rw [if_pos c137] at H
                  have LMc137 := Aside0.mk c137
                  clear c137
                  obtain ⟨y294, hy294⟩ : ∃ y_ : List (S82), y_ = (y286 ++ y289) := ⟨_, rfl⟩
                  replace H : ((spec_l11CopyBits.f kj67 y294).bind fun t297 => (some (t297, a1_0, a1_1, a1_2, 0, false, t276, true))) = some (r1, r2, r3, r4, r5, r6, r7, r8) := by first | (rw [hy294]; with_reducible exact H) | (have H2_ := (Option.bind_some _ _).symm.trans H; rw [hy294]; with_reducible exact H2_) | (have H2_ := (Option.bind_some _ _).symm.trans H; with_reducible exact H2_) | with_reducible exact H | (rw [hy294]; exact H) | exact H
                  have Ny294 := Aside0.mk hy294
                  clear hy294
                  replace H := bsi H
                  obtain ⟨t297, A138, H⟩ := H
                  (try dsimp only at H)
                  simp only [Option.some.injEq, Prod.mk.injEq] at H
                  obtain ⟨rfl, rfl, rfl, rfl, rfl, rfl, rfl, rfl⟩ := H
                  have p275 : 0 ≤ (x10_45 : Int) := of_decide_eq_true B8x3_
                  have q275 : x10_45 < (x9_67.length : Int) := of_decide_eq_true B8x3_
                  obtain ⟨ad275, A275_2, c275_2, A275_3, c275_3, e275, hx275_0, hx275_1, hx275_2, hx275_3, hx275_4, hx275_5, hl275_2, hi275_2, hl275_3, hi275_3⟩ := at_T82 (Kd.N_reads' HO_9.out).2.2 x10_45 p275 q275
                  obtain rfl : ad260 = ad275 := (by injection e275)
                  obtain ⟨ce275, hce275, hMe275, hcc275⟩ := Kd.N_get HO_9.out z82 x10_45 p275 B8x50_
                  obtain ⟨ua275_2, uc275_2, ua275_3, uc275_3, rfl, ul275_2, ge275_2, ul275_3, ge275_3⟩ := k82_openF hMe275
                  have hv275_2 := hcc275 2 _ rfl
                  rw [add_field _ _ 2 (by omega)] at hv275_2
                  replace hv275_2 := Option.some.inj (hv275_2.symm.trans hx275_2)
                  injection hv275_2 with hva_ hvn_ hvc_
                  rw [hva_] at ge275_2
                  rw [hvc_] at ul275_2
                  have HL275_2 := Aside0.mk (show Kd.V Kd.string 9 _ w.heap.size _ _ ((rd_T82 x9_67 x10_45).f2) from Kd.V_mk ul275_2 ge275_2)
                  clear hva_ hvn_ hvc_ ge275_2 ul275_2
                  have hv275_3 := hcc275 3 _ rfl
                  rw [add_field _ _ 3 (by omega)] at hv275_3
                  replace hv275_3 := Option.some.inj (hv275_3.symm.trans hx275_3)
                  injection hv275_3 with hva_ hvn_ hvc_
                  rw [hva_] at ge275_3
                  rw [hvc_] at ul275_3
                  have HL275_3 := Aside0.mk (show Kd.V (Kd.int .i64) 3 _ w.heap.size _ _ ((rd_T82 x9_67 x10_45).f3) from Kd.V_mk ul275_3 ge275_3)
                  clear hva_ hvn_ hvc_ ge275_3 ul275_3
                  clear hcc275 hce275
                  have HR275_2 := Aside0.mk hi275_2
                  have HC275_2 := Aside0.mk hl275_2
                  clear hi275_2 hl275_2
                  have HR275_3 := Aside0.mk hi275_3
                  have HC275_3 := Aside0.mk hl275_3
                  clear hi275_3 hl275_3
                  replace p275 := eq_true p275
                  replace q275 := eq_true q275
                  try go_wp2_with (first | ((with_reducible refine gate_callee (f := 113) rfl ?_); refine goesL_ (some 164) rfl rfl Try.func113 B8x13_ rfl #[.agg #[.int .i64 ((rd_T82 x9_67 x10_45).f0), .int .i64 ((rd_T82 x9_67 x10_45).f1), .slice A275_2 ((rd_T82 x9_67 x10_45).f2).length c275_2, .slice A275_3 ((rd_T82 x9_67 x10_45).f3).length c275_3, .int .i64 ((rd_T82 x9_67 x10_45).f4), .int .i64 ((rd_T82 x9_67 x10_45).f5)]] rfl B8x8_ ?_; (with_reducible refine (spec_l11Whole.calls kj67 ((rd_T82 x9_67 x10_45).f0) ((rd_T82 x9_67 x10_45).f1) _ _ ((rd_T82 x9_67 x10_45).f2) _ _ ((rd_T82 x9_67 x10_45).f3) ((rd_T82 x9_67 x10_45).f4) ((rd_T82 x9_67 x10_45).f5) t276 true _ ?side1 ?side2 ?side3 ?side4 A129.out).mono ?_); (case side1 => exact B8x40_); (case side2 => exact HC275_2.out); (case side3 => exact B8x41_); (case side4 => exact HC275_3.out); rintro e w139 ⟨rfl, hb⟩; refine ⟨_, rfl, ?_⟩; replace HO_9 := Aside0.mk (Kd.N_below B8x12_ hb); replace HL275_2 := Aside0.mk (Kd.V_below B8x18_ hb); replace HL275_3 := Aside0.mk (Kd.V_below B8x19_ hb); replace BK241 := Aside0.mk (bb BK241.out hb); replace BK242 := Aside0.mk (bb BK242.out hb); replace HR275_2 := Aside0.mk (Kd.C_below B8x10_ hb); (try (replace HX275_2 := Aside0.mk (pw_cell_below hb HX275_2.out))); replace HR275_3 := Aside0.mk (Kd.C_below B8x11_ hb); (try (replace HX275_3 := Aside0.mk (pw_cell_below hb HX275_3.out))); replace HB := Aside0.mk (below_step B8x0_ hb); (try clear hb); (try clear hl)))
                  replace HO_9 := Aside0.mk (Kd.N_drew HO_9.out)
                  replace HL275_2 := Aside0.mk (Kd.V_drew HL275_2.out)
                  replace HL275_3 := Aside0.mk (Kd.V_drew HL275_3.out)
                  replace BK241 := Aside0.mk (blk_drew BK241.out)
                  replace BK242 := Aside0.mk (blk_drew BK242.out)
                  replace HR275_2 := Aside0.mk (Kd.C_drew HR275_2.out)
                  replace HR275_3 := Aside0.mk (Kd.C_drew HR275_3.out)
                  replace HB := Aside0.mk (below_drew1 HB.out)
                  have q141 : (x10_45 : Int) ≤ ((x9_67.length : Int) : Int) := of_decide_eq_true B8x3_
                  obtain ⟨i0141, hi0141, _, hsz141, _⟩ := info_parts info82
                  have hroom141 : x9_67.length ≤ co69 := (Kd.N_reads' HO_9.out).2.1
                  have hC141 : Kd.F k82 _ _ (some ad260) x9_67.length x9_67 := (Kd.V_at (base := w.heap.size) (Kd.N_V HO_9.out)).2.2
                  have hcut141 := cut_to (P := Try.prog) 68 82 .i64 Try.underlying68 hi0141 (some ad260) x9_67.length co69 x10_45 (of_decide_eq_true B8x3_) q141 hroom141
                  have hr141 := Kd.F_take (m := (x10_45 : Int).toNat) hC141 (by omega)
                  have hy141 : y281.length = (x10_45 : Int).toNat := (by rw [Ny281.out, List.length_take]; omega)
                  rw [← Ny281.out] at hr141
                  rw [← hy141] at hcut141
                  have HO285 := Aside0.mk (show Kd.V k82 82 _ w.heap.size _ (.slice (some ad260) y281.length co69) y281 from Kd.V_mk (by omega) hr141)
                  have HC285 := Aside0.mk (show y281.length ≤ co69 from (by omega))
                  clear hr141 hC141 hroom141 hi0141 hsz141
                  have KY141 := Aside0.mk hy141
                  clear hy141
                  replace q141 := eq_true q141
                  have q142 : ((ji134) : Int) ≤ ((x9_67.length : Int) : Int) := of_decide_eq_true B8x3_
                  obtain ⟨i0142, hi0142, _, hsz142, _⟩ := info_parts info82
                  have hroom142 : x9_67.length ≤ co69 := (Kd.N_reads' HO_9.out).2.1
                  have hC142 : Kd.F k82 _ _ (some ad260) x9_67.length x9_67 := (Kd.V_at (base := w.heap.size) (Kd.N_V HO_9.out)).2.2
                  have q0142 : (0 : Int) ≤ ((ji134) : Int) := of_decide_eq_true B8x3_
                  have hcut142 := cut_from (P := Try.prog) 68 82 .i64 Try.underlying68 hi0142 6 hsz142 (some ad260) x9_67.length co69 (ji134) q0142 q142
                  have hr142 := Kd.F_cut (m := ((ji134) : Int).toNat) (c := co69) hC142 (by omega) hroom142
                  obtain ⟨A142, hA142⟩ : ∃ A1, A1 = (if co69 = ((ji134) : Int).toNat then (some ad260) else ((some ad260) : Option Addr).map (·.add (((ji134) : Int).toNat * 6))) := ⟨_, rfl⟩
                  obtain ⟨c142, hc142⟩ : ∃ c1, c1 = co69 - ((ji134) : Int).toNat := ⟨_, rfl⟩
                  have hy142 : y289.length = x9_67.length - ((ji134) : Int).toNat := (by rw [Ny289.out, List.length_drop] <;> omega)
                  rw [show (x9_67).drop ((ji134) : Int).toNat = y289 from Ny289.out.symm] at hr142
                  replace hr142 : Kd.F k82 _ _ A142 y289.length y289 := (by rw [hA142]; exact hr142)
                  rw [← hy142, ← hA142, ← hc142] at hcut142
                  have HO293 := Aside0.mk (show Kd.V k82 82 _ w.heap.size _ (.slice A142 y289.length c142) y289 from Kd.V_mk B8x51_ hr142)
                  have HC293 := Aside0.mk (show y289.length ≤ c142 from B8x51_)
                  clear hr142 hC142 hroom142 hi0142 hsz142 hc142
                  have KY142 := Aside0.mk hy142
                  have KA142 := Aside0.mk hA142
                  clear hy142 hA142
                  replace q142 := eq_true q142
                  refine start_ (n := 12) (S := fun w' => True) (ds := []) #[false, false, false, false, false, false, false, false, false, false, false, false] B8x13_ rfl rfl trivial (fun hHeld => ?_); refine with_tabW spec_JoinBits.tab30 spec_JoinBits.bits30 (fun HT_ HW_ => ?_)
                  generalize w139.drew = w140 at HO_9 HL275_2 HL275_3 BK241 BK242 HR275_2 HR275_3 HB HO285 HO293 hHeld ⊢
                  refine pu_ 1 172 HT_ ?_
                  refine pu_ 2 173 HT_ ?_
                  refine pu_ 3 174 HT_ ?_
                  refine pu_ 5 176 HT_ ?_
                  refine pu_ 6 177 HT_ ?_
                  refine pu_ 7 178 HT_ ?_
                  refine pu_ 8 179 HT_ ?_
                  refine one_ (i := 0) (N := some 171) #[true, true, true, true, false, true, true, true, true, false, false, false] rfl rfl (one_of HT_.out B8x13_) (by decide) (fun K hK => ?_)
                  refine Kd.N_lit_step k82 _ 82 ?hg (N' := 171) ?hd (xs := ([] : List (S82))) (inner := []) (ok := (fun k_ => (w.heap.size ≤ k_) ∧ some k_ ≠ (.slice (some ad260) x9_67.length co69 : Value).ownBlock ∧ k_ ≠ gb241 ∧ k_ ≠ gb242)) (okp := (fun k_ => (w.heap.size ≤ k_) ∧ some k_ ≠ (.slice (some ad260) x9_67.length co69 : Value).ownBlock ∧ k_ ≠ gb241 ∧ k_ ≠ gb242)) ?hr ?hp (fun _ hk => hk) ((show ∀ k_, w140.heap.size ≤ k_ → (fun k_ => (w.heap.size ≤ k_) ∧ some k_ ≠ (.slice (some ad260) x9_67.length co69 : Value).ownBlock ∧ k_ ≠ gb241 ∧ k_ ≠ gb242) k_ from fun k_ hk => ⟨(Nat.le_trans (below_size B8x0_) hk), Kd.fresh' (Kd.N_lt B8x12_) k_ hk, Kd.freshB (g := gb241) (o := .cells #[.int .i64 a1_0, .int .i64 a1_1, .int .i64 a1_2, .int .i64 a1_3, .bool a1_4, .string a1_5] 62 (0, 0)) B8x6_ k_ hk, Kd.freshB (g := gb242) (o := .cells #[.int .i64 0, .int .i64 0, .int .i64 0, .int .i64 0, .bool false, .string (⟨#[]⟩ : ByteArray)] 62 (0, 0)) B8x5_ k_ hk⟩) _ (Nat.le_refl _)) (Below.refl _ _) (Nat.le_refl _) (by simp) ?_; (case hd => rfl); (case hg => rfl); (case hr => exact B8x32_); (case hp => exact (Reps.none _ _))
                  intro v279 w143 ho144 hb hg_ hnew_
                  clear hg_ hnew_
                  (first | rw [← Ny278.out] at ho144 | (simp only [Int.reduceToNat] at ho144; rw [← Ny278.out] at ho144))
                  replace HO_9 := Aside0.mk (Kd.N_elder' B8x12_ (Kd.N_base ho144) hb)
                  replace HL275_2 := Aside0.mk (Kd.V_elder' B8x18_ (Kd.N_base ho144) hb)
                  replace HL275_3 := Aside0.mk (Kd.V_elder' B8x19_ (Kd.N_base ho144) hb)
                  replace HO285 := Aside0.mk (Kd.V_elder' B8x21_ (Kd.N_base ho144) hb)
                  replace HO293 := Aside0.mk (Kd.V_elder' B8x22_ (Kd.N_base ho144) hb)
                  have HO280 := Aside0.mk (Kd.N_lower ho144 (below_size B8x0_))
                  replace BK241 := Aside0.mk (bb BK241.out hb)
                  replace BK242 := Aside0.mk (bb BK242.out hb)
                  replace HR275_2 := Aside0.mk (Kd.C_below B8x10_ hb)
                  replace HR275_3 := Aside0.mk (Kd.C_below B8x11_ hb)
                  replace HB := Aside0.mk (below_step B8x0_ hb)
                  clear hb ho144
                  refine hK.out _ _ trivial (fun hHeld => ?_)
                  clear hK K
                  refine norm_ (a' := ?_) ?_ ?_
                  rotate_left
                  ·show Act.put _ (some 171) _ = _
                   simp only [Act.put, List.setIfInBounds_toArray, List.set_cons_zero, List.set_cons_succ, i64_w, i32_w]
                   rfl
                  refine one_ (i := 4) (N := some 175) #[true, true, true, true, true, true, true, true, true, false, false, false] rfl rfl (one_of HT_.out B8x13_) (by decide) (fun K hK => ?_)
                  refine Kd.N_append_rows_step k82 (w0 := w) w.heap.size (by rfl) (.tmp 171) (.tmp 174) 68 82 (.agg #[(.int .i64 0), (.int .i64 0), (.slice none 0 0), (.slice none 0 0), (.int .i64 0), (.int .i64 0)]) 80 rfl Try.underlying68 info82 rfl (by decide) (by omega) v279 y278 y281 _ _ _ (fun k_ => (w.heap.size ≤ k_) ∧ k_ ≠ gb241 ∧ k_ ≠ gb242) (fun k_ => ((fun k_ => (w.heap.size ≤ k_) ∧ k_ ≠ gb241 ∧ k_ ≠ gb242)) k_ ∧ some k_ ≠ (v279 : Value).ownBlock) rfl rfl ?aO ?aR (fun _ hk => hk) ?aF ?aB ?aS ?aL ?_
                  (case aR => skip; exact Kd.V_F (Kd.V_mono (ok' := (fun k_ => ((fun k_ => (w.heap.size ≤ k_) ∧ k_ ≠ gb241 ∧ k_ ≠ gb242)) k_ ∧ some k_ ≠ (v279 : Value).ownBlock)) (HO285.out) (fun k_ hk => ⟨⟨hk.1.1, ⟨hk.1.2.1, hk.1.2.2⟩⟩, hk.2⟩)))
                  (case aB => exact B8x0_)
                  (case aF => exact B8x20_)
                  (case aO => (with_reducible repeat (first | apply Kd.N_alloc | apply Kd.N_drewN | apply Kd.N_drew)); exact Kd.N_mono HO280.out (fun _ hk => ⟨hk.1, ⟨hk.2.2.1, hk.2.2.2⟩⟩))
                  (case aS => exact B8x33_)
                  (case aL => have := LMc133.out; omega)
                  intro v287 w145 ho hb hg hat
                  rw [← Ny286.out] at ho
                  replace HO_9 := Aside0.mk (Kd.N_afterv (ok := (fun k_ => (w.heap.size ≤ k_) ∧ k_ ≠ gb241 ∧ k_ ≠ gb242)) B8x12_ hg hat)
                  replace BK241 := Aside0.mk (blk_grown (g := gb241) (o := .cells #[.int .i64 a1_0, .int .i64 a1_1, .int .i64 a1_2, .int .i64 a1_3, .bool a1_4, .string a1_5] 62 (0, 0)) B8x6_ hg (Kd.N_ne HO280.out BK241.out (by decide)))
                  replace BK242 := Aside0.mk (blk_grown (g := gb242) (o := .cells #[.int .i64 0, .int .i64 0, .int .i64 0, .int .i64 0, .bool false, .string (⟨#[]⟩ : ByteArray)] 62 (0, 0)) B8x5_ hg (Kd.N_ne HO280.out BK242.out (by decide)))
                  replace HL275_2 := Aside0.mk (Kd.V_afterv (ok := (fun k_ => (w.heap.size ≤ k_) ∧ some k_ ≠ (.slice (some ad260) x9_67.length co69 : Value).ownBlock ∧ k_ ≠ gb241 ∧ k_ ≠ gb242)) (by (with_reducible repeat (first | apply Kd.V_alloc | apply Kd.V_drewN | apply Kd.V_drew)); exact Kd.V_mono HL275_2.out (fun _ hk => ⟨⟨hk.1.1.1, ⟨hk.1.2, ⟨hk.1.1.2.1, hk.1.1.2.2⟩⟩⟩, hk.2⟩)) hg hat)
                  replace HL275_3 := Aside0.mk (Kd.V_afterv (ok := (fun k_ => (w.heap.size ≤ k_) ∧ some k_ ≠ (.slice (some ad260) x9_67.length co69 : Value).ownBlock ∧ k_ ≠ gb241 ∧ k_ ≠ gb242)) (by (with_reducible repeat (first | apply Kd.V_alloc | apply Kd.V_drewN | apply Kd.V_drew)); exact Kd.V_mono HL275_3.out (fun _ hk => ⟨⟨hk.1.1.1, ⟨hk.1.2, ⟨hk.1.1.2.1, hk.1.1.2.2⟩⟩⟩, hk.2⟩)) hg hat)
                  replace HO285 := Aside0.mk (Kd.V_afterv (ok := (fun k_ => (w.heap.size ≤ k_) ∧ k_ ≠ gb241 ∧ k_ ≠ gb242)) B8x21_ hg hat)
                  replace HO293 := Aside0.mk (Kd.V_afterv (ok := (fun k_ => (w.heap.size ≤ k_) ∧ k_ ≠ gb241 ∧ k_ ≠ gb242)) B8x22_ hg hat)
                  replace HB := Aside0.mk (hb)
                  have HO288 := Aside0.mk (ho)
                  clear HO280
                  clear ho hb hg hat
                  refine hK.out _ _ trivial (fun hHeld => ?_)
                  clear hK K
                  refine norm_ (a' := ?_) ?_ ?_
                  rotate_left
                  ·show Act.put _ (some 175) _ = _
                   simp only [Act.put, List.setIfInBounds_toArray, List.set_cons_zero, List.set_cons_succ, i64_w, i32_w]
                   rfl
                  refine one_ (i := 9) (N := some 180) #[true, true, true, true, true, true, true, true, true, true, false, false] rfl rfl (one_of HT_.out B8x13_) (by decide) (fun K hK => ?_)
                  refine Kd.N_append_rows_step k82 (w0 := w) w.heap.size (by rfl) (.tmp 175) (.tmp 179) 68 82 (.agg #[(.int .i64 0), (.int .i64 0), (.slice none 0 0), (.slice none 0 0), (.int .i64 0), (.int .i64 0)]) 80 rfl Try.underlying68 info82 rfl (by decide) (by omega) v287 y286 y289 _ _ _ (fun k_ => (w.heap.size ≤ k_) ∧ k_ ≠ gb241 ∧ k_ ≠ gb242) (fun k_ => ((fun k_ => (w.heap.size ≤ k_) ∧ k_ ≠ gb241 ∧ k_ ≠ gb242)) k_ ∧ some k_ ≠ (v287 : Value).ownBlock) rfl rfl ?aO ?aR (fun _ hk => hk) ?aF ?aB ?aS ?aL ?_
                  (case aR => skip; exact Kd.V_F (Kd.V_mono (ok' := (fun k_ => ((fun k_ => (w.heap.size ≤ k_) ∧ k_ ≠ gb241 ∧ k_ ≠ gb242)) k_ ∧ some k_ ≠ (v287 : Value).ownBlock)) (HO293.out) (fun k_ hk => ⟨⟨hk.1.1, ⟨hk.1.2.1, hk.1.2.2⟩⟩, hk.2⟩)))
                  (case aB => exact B8x0_)
                  (case aF => exact B8x20_)
                  (case aO => (with_reducible repeat (first | apply Kd.N_alloc | apply Kd.N_drewN | apply Kd.N_drew)); exact HO288.out)
                  (case aS => exact B8x33_)
                  (case aL => have := LMc137.out; omega)
                  intro v295 w146 ho hb hg hat
                  rw [← Ny294.out] at ho
                  replace HO_9 := Aside0.mk (Kd.N_afterv (ok := (fun k_ => (w.heap.size ≤ k_) ∧ k_ ≠ gb241 ∧ k_ ≠ gb242)) B8x12_ hg hat)
                  replace BK241 := Aside0.mk (blk_grown (g := gb241) (o := .cells #[.int .i64 a1_0, .int .i64 a1_1, .int .i64 a1_2, .int .i64 a1_3, .bool a1_4, .string a1_5] 62 (0, 0)) B8x6_ hg (Kd.N_ne HO288.out BK241.out (by decide)))
                  replace BK242 := Aside0.mk (blk_grown (g := gb242) (o := .cells #[.int .i64 0, .int .i64 0, .int .i64 0, .int .i64 0, .bool false, .string (⟨#[]⟩ : ByteArray)] 62 (0, 0)) B8x5_ hg (Kd.N_ne HO288.out BK242.out (by decide)))
                  replace HL275_2 := Aside0.mk (Kd.V_afterv (ok := (fun k_ => (w.heap.size ≤ k_) ∧ some k_ ≠ (.slice (some ad260) x9_67.length co69 : Value).ownBlock ∧ k_ ≠ gb241 ∧ k_ ≠ gb242)) B8x18_ hg hat)
                  replace HL275_3 := Aside0.mk (Kd.V_afterv (ok := (fun k_ => (w.heap.size ≤ k_) ∧ some k_ ≠ (.slice (some ad260) x9_67.length co69 : Value).ownBlock ∧ k_ ≠ gb241 ∧ k_ ≠ gb242)) B8x19_ hg hat)
                  replace HO285 := Aside0.mk (Kd.V_afterv (ok := (fun k_ => (w.heap.size ≤ k_) ∧ k_ ≠ gb241 ∧ k_ ≠ gb242)) B8x21_ hg hat)
                  replace HO293 := Aside0.mk (Kd.V_afterv (ok := (fun k_ => (w.heap.size ≤ k_) ∧ k_ ≠ gb241 ∧ k_ ≠ gb242)) B8x22_ hg hat)
                  replace HB := Aside0.mk (hb)
                  have HO296 := Aside0.mk (ho)
                  clear HO288
                  clear ho hb hg hat
                  obtain ⟨Ao147, co147, eo147⟩ := Kd.N_slice HO296.out
                  (first | subst eo147 | (injection eo147 with f1_ f2_ f3_; have f4_ := f1_.symm; have f5_ := f3_.symm; clear f1_ f2_ f3_; subst f4_; subst f5_))
                  refine hK.out _ _ trivial (fun hHeld => ?_)
                  clear hK K
                  refine norm_ (a' := ?_) ?_ ?_
                  rotate_left
                  ·show Act.put _ (some 180) _ = _
                   simp only [Act.put, List.setIfInBounds_toArray, List.set_cons_zero, List.set_cons_succ, i64_w, i32_w]
                   rfl
                  refine one_ (i := 10) (N := some 181) #[true, true, true, true, true, true, true, true, true, true, true, false] rfl rfl (one_of HT_.out B8x13_) (by decide) (fun K hK => ?_)
                  refine goes_ Try.func104 B8x13_ rfl #[.slice Ao147 y294.length co147] (by rfl) rfl rfl B8x8_ ?_
                  with_reducible refine (spec_l11CopyBits.calls kj67 _ _ y294 t297 _ ?side1 ?side2 A138.out).mono ?_
                  (case side1 => repeat (first | exact (Kd.N_reads' HO296.out).2.2 | (with_reducible refine Kd.C_alloc ?_ _) | (with_reducible refine Kd.C_drewN ?_ _) | (with_reducible refine Kd.C_drew ?_)))
                  (case side2 => exact (Kd.N_reads' HO296.out).2.1)
                  rintro e w148 ⟨v298, rfl, ho0, hb⟩
                  refine ⟨_, rfl, ?_⟩
                  replace HL275_2 := Aside0.mk (Kd.V_elder' B8x18_ (Kd.S_base ho0) hb)
                  replace HL275_3 := Aside0.mk (Kd.V_elder' B8x19_ (Kd.S_base ho0) hb)
                  replace HO285 := Aside0.mk (Kd.V_elder' B8x21_ (Kd.S_base ho0) hb)
                  replace HO293 := Aside0.mk (Kd.V_elder' B8x22_ (Kd.S_base ho0) hb)
                  have HO299 := Aside0.mk (Kd.N_lower (Kd.N_mono (ok' := fun k_ => (w.heap.size ≤ k_) ∧ some k_ ≠ (.slice (some ad260) x9_67.length co69 : Value).ownBlock ∧ some k_ ≠ (.slice Ao147 y294.length co147 : Value).ownBlock ∧ k_ ≠ gb241 ∧ k_ ≠ gb242) (Kd.S_N (Kd.S_bound ho0)) (fun k_ hk_ => ⟨(Nat.le_trans (below_size B8x0_) hk_.2.1), (Kd.fresh' (Kd.N_lt B8x12_) k_ hk_.2.1), (Kd.fresh' (Kd.N_lt B8x45_) k_ hk_.2.1), (Kd.freshB (g := gb241) (o := .cells #[.int .i64 a1_0, .int .i64 a1_1, .int .i64 a1_2, .int .i64 a1_3, .bool a1_4, .string a1_5] 62 (0, 0)) B8x6_ k_ hk_.2.1), (Kd.freshB (g := gb242) (o := .cells #[.int .i64 0, .int .i64 0, .int .i64 0, .int .i64 0, .bool false, .string (⟨#[]⟩ : ByteArray)] 62 (0, 0)) B8x5_ k_ hk_.2.1)⟩)) (below_size B8x0_))
                  replace HO_9 := Aside0.mk (Kd.N_elder' B8x12_ (Kd.S_base ho0) hb)
                  replace HO296 := Aside0.mk (Kd.N_elder' B8x45_ (Kd.S_base ho0) hb)
                  replace BK241 := Aside0.mk (bb BK241.out hb)
                  replace BK242 := Aside0.mk (bb BK242.out hb)
                  replace HB := Aside0.mk (below_step B8x0_ hb)
                  (try clear hb)
                  (try clear hb2)
                  (try clear hk)
                  (try clear hi)
                  (try clear hl)
                  (try clear ho0)
                  refine hK.out _ _ trivial (fun hHeld => ?_)
                  clear hK K
                  refine norm_ (a' := ?_) ?_ ?_
                  rotate_left
                  ·show Act.put _ (some 181) _ = _
                   simp only [Act.put, List.setIfInBounds_toArray, List.set_cons_zero, List.set_cons_succ, i64_w, i32_w]
                   rfl
                  refine pu_ 11 16 HT_ ?_
                  refine done_ (done_of HT_.out B8x13_) ?_
                  try go_wp2
                  replace HO_9 := Aside0.mk (Kd.N_drew HO_9.out)
                  replace HL275_2 := Aside0.mk (Kd.V_drew HL275_2.out)
                  replace HL275_3 := Aside0.mk (Kd.V_drew HL275_3.out)
                  replace HO285 := Aside0.mk (Kd.V_drew HO285.out)
                  replace HO293 := Aside0.mk (Kd.V_drew HO293.out)
                  replace HO296 := Aside0.mk (Kd.N_drew HO296.out)
                  replace HO299 := Aside0.mk (Kd.N_drew HO299.out)
                  replace BK241 := Aside0.mk (blk_drew BK241.out)
                  replace BK242 := Aside0.mk (blk_drew BK242.out)
                  replace HB := Aside0.mk (below_drew1 HB.out)
                  refine start_ (n := 12) (S := fun w' => w'.cell? ⟨gb241, 0, none⟩ = some (.int .i64 a1_0) ∧ w'.cell? ⟨gb241, 1, none⟩ = some (.int .i64 a1_1) ∧ w'.cell? ⟨gb241, 2, none⟩ = some (.int .i64 a1_2) ∧ w'.cell? ⟨gb241, 3, none⟩ = some (.int .i64 a1_3) ∧ w'.cell? ⟨gb241, 4, none⟩ = some (.bool a1_4) ∧ w'.cell? ⟨gb241, 5, none⟩ = some (.string a1_5)) (ds := []) #[false, false, false, false, false, false, false, false, false, false, false, false] B8x13_ rfl rfl ⟨(blk_cell BK241.out 0).trans rfl, (blk_cell BK241.out 1).trans rfl, (blk_cell BK241.out 2).trans rfl, (blk_cell BK241.out 3).trans rfl, (blk_cell BK241.out 4).trans rfl, (blk_cell BK241.out 5).trans rfl⟩ (fun hHeld => ?_); refine with_tabW spec_JoinBits.tab31 spec_JoinBits.bits31 (fun HT_ HW_ => ?_)
                  generalize w148.drew = w149 at HO_9 HL275_2 HL275_3 HO285 HO293 HO296 HO299 BK241 BK242 HB hHeld ⊢
                  refine pu_ 0 182 HT_ ?_
                  refine pu_ 1 183 HT_ ?_
                  refine pu_ 3 185 HT_ ?_
                  refine pu_ 5 187 HT_ ?_
                  refine pu_ 7 189 HT_ ?_
                  refine pu_ 9 6 HT_ ?_
                  refine ta_ 2 184 HT_ HW_ hHeld ?_
                  refine ta_ 4 186 HT_ HW_ hHeld ?_
                  refine ta_ 6 188 HT_ HW_ hHeld ?_
                  refine pu_ 8 190 HT_ ?_
                  refine one_ (i := 10) (N := none) #[true, true, true, true, true, true, true, true, true, true, true, false] rfl rfl (one_of HT_.out B8x13_) (by decide) (fun K hK => ?_)
                  have hs150 : w149.cell? ⟨gb242, 0, none⟩ = some (.int .i64 0) := (blk_cell BK242.out 0).trans rfl
                  have hfs150 := blk_frozen BK242.out 0
                  have hns150_0 := NB241_242.out
                  have hms150_0 := NB242_241.out
                  have hs151 : w149.cell? ⟨gb242, 1, none⟩ = some (.int .i64 0) := (blk_cell BK242.out 1).trans rfl
                  have hfs151 := blk_frozen BK242.out 1
                  have hns151_0 := NB241_242.out
                  have hms151_0 := NB242_241.out
                  have hs152 : w149.cell? ⟨gb242, 2, none⟩ = some (.int .i64 0) := (blk_cell BK242.out 2).trans rfl
                  have hfs152 := blk_frozen BK242.out 2
                  have hns152_0 := NB241_242.out
                  have hms152_0 := NB242_241.out
                  have hs153 : w149.cell? ⟨gb242, 3, none⟩ = some (.int .i64 0) := (blk_cell BK242.out 3).trans rfl
                  have hfs153 := blk_frozen BK242.out 3
                  have hns153_0 := NB241_242.out
                  have hms153_0 := NB242_241.out
                  have hs154 : w149.cell? ⟨gb242, 4, none⟩ = some (.bool false) := (blk_cell BK242.out 4).trans rfl
                  have hfs154 := blk_frozen BK242.out 4
                  have hns154_0 := NB241_242.out
                  have hms154_0 := NB242_241.out
                  have hs155 : w149.cell? ⟨gb242, 5, none⟩ = some (.string (⟨#[]⟩ : ByteArray)) := (blk_cell BK242.out 5).trans rfl
                  have hfs155 := blk_frozen BK242.out 5
                  have hns155_0 := NB241_242.out
                  have hms155_0 := NB242_241.out
                  refine skip_ (w1 := ?_) (by rfl) rfl ?_ ?_
                  rotate_left
                  ·go_simp
                   rfl
                  refine hK.out _ _ ⟨((cell_far (p := ⟨gb242, _, none⟩) NB241_242.out _).trans (((cell_far (p := ⟨gb242, _, none⟩) NB241_242.out _).trans (((cell_far (p := ⟨gb242, _, none⟩) NB241_242.out _).trans (((cell_far (p := ⟨gb242, _, none⟩) NB241_242.out _).trans (((cell_far (p := ⟨gb242, _, none⟩) NB241_242.out _).trans (((cell_far (p := ⟨gb242, _, none⟩) NB241_242.out _).trans (hHeld.1)))))))))))), ((cell_far (p := ⟨gb242, _, none⟩) NB241_242.out _).trans (((cell_far (p := ⟨gb242, _, none⟩) NB241_242.out _).trans (((cell_far (p := ⟨gb242, _, none⟩) NB241_242.out _).trans (((cell_far (p := ⟨gb242, _, none⟩) NB241_242.out _).trans (((cell_far (p := ⟨gb242, _, none⟩) NB241_242.out _).trans (((cell_far (p := ⟨gb242, _, none⟩) NB241_242.out _).trans (hHeld.2.1)))))))))))), ((cell_far (p := ⟨gb242, _, none⟩) NB241_242.out _).trans (((cell_far (p := ⟨gb242, _, none⟩) NB241_242.out _).trans (((cell_far (p := ⟨gb242, _, none⟩) NB241_242.out _).trans (((cell_far (p := ⟨gb242, _, none⟩) NB241_242.out _).trans (((cell_far (p := ⟨gb242, _, none⟩) NB241_242.out _).trans (((cell_far (p := ⟨gb242, _, none⟩) NB241_242.out _).trans (hHeld.2.2.1)))))))))))), ((cell_far (p := ⟨gb242, _, none⟩) NB241_242.out _).trans (((cell_far (p := ⟨gb242, _, none⟩) NB241_242.out _).trans (((cell_far (p := ⟨gb242, _, none⟩) NB241_242.out _).trans (((cell_far (p := ⟨gb242, _, none⟩) NB241_242.out _).trans (((cell_far (p := ⟨gb242, _, none⟩) NB241_242.out _).trans (((cell_far (p := ⟨gb242, _, none⟩) NB241_242.out _).trans (hHeld.2.2.2.1)))))))))))), ((cell_far (p := ⟨gb242, _, none⟩) NB241_242.out _).trans (((cell_far (p := ⟨gb242, _, none⟩) NB241_242.out _).trans (((cell_far (p := ⟨gb242, _, none⟩) NB241_242.out _).trans (((cell_far (p := ⟨gb242, _, none⟩) NB241_242.out _).trans (((cell_far (p := ⟨gb242, _, none⟩) NB241_242.out _).trans (((cell_far (p := ⟨gb242, _, none⟩) NB241_242.out _).trans (hHeld.2.2.2.2.1)))))))))))), ((cell_far (p := ⟨gb242, _, none⟩) NB241_242.out _).trans (((cell_far (p := ⟨gb242, _, none⟩) NB241_242.out _).trans (((cell_far (p := ⟨gb242, _, none⟩) NB241_242.out _).trans (((cell_far (p := ⟨gb242, _, none⟩) NB241_242.out _).trans (((cell_far (p := ⟨gb242, _, none⟩) NB241_242.out _).trans (((cell_far (p := ⟨gb242, _, none⟩) NB241_242.out _).trans (hHeld.2.2.2.2.2))))))))))))⟩ (fun hHeld => ?_)
                  clear hK K
                  refine pu_ 11 8 HT_ ?_
                  refine done_ (done_of HT_.out B8x13_) ?_
                  try go_wp2
                  refine bodyPost_ret (results_list (rs := [.tmp 6, .cell 7 62, .tmp 8]) rfl (by simp) (.tmp (.cell gb242 62 #[.int .i64 a1_0, .int .i64 a1_1, .int .i64 a1_2, .int .i64 0, .bool false, .string t276] (0, 0) _ rfl B8x9_ Try.underlying62 rfl B8x13_ (.tmp .nil)))) rfl ?_
                  exact ⟨_, by first | rfl | (simp [errW_none, errW_some] <;> rfl) | (simp only [← hji134]; first | rfl | (simp [errW_none, errW_some] <;> rfl)) | (simp [*, errW_none, errW_some] <;> rfl), by (with_reducible repeat (first | apply Kd.N_alloc | apply Kd.N_drewN | apply Kd.N_drew)); exact Kd.N_mono (Kd.N_far (p := ⟨gb242, 5, none⟩) (Kd.N_far (p := ⟨gb242, 4, none⟩) (Kd.N_far (p := ⟨gb242, 3, none⟩) (Kd.N_far (p := ⟨gb242, 2, none⟩) (Kd.N_far (p := ⟨gb242, 1, none⟩) (Kd.N_far (p := ⟨gb242, 0, none⟩) (Kd.N_mono HO299.out (fun k_ hk => (⟨hk, hk.2.2.2.2⟩ : _ ∧ k_ ≠ gb242))) (fun _ hk => hk.2) (.int .i64 a1_0)) (fun _ hk => hk.2) (.int .i64 a1_1)) (fun _ hk => hk.2) (.int .i64 a1_2)) (fun _ hk => hk.2) (.int .i64 0)) (fun _ hk => hk.2) (.bool false)) (fun _ hk => hk.2) (.string t276)) (fun _ hk => hk.1.1), by repeat (first | (with_reducible first | exact HB.out | apply below_alloc | apply pw_below_drewN | apply below_drew1 | refine below_set ?_ GE241.out | refine below_set ?_ GE242.out) | exact HB.out)⟩
                 ·replace c130 := Bool.eq_false_iff.mpr c130
                  subst c130
                  rw [if_neg (show ¬ (false = true) by decide)] at H
                  simp only [Option.some.injEq, Prod.mk.injEq] at H
                  obtain ⟨rfl, rfl, rfl, rfl, rfl, rfl, rfl, rfl⟩ := H
                  have p275 : 0 ≤ (x10_45 : Int) := of_decide_eq_true B8x3_
                  have q275 : x10_45 < (x9_67.length : Int) := of_decide_eq_true B8x3_
                  obtain ⟨ad275, A275_2, c275_2, A275_3, c275_3, e275, hx275_0, hx275_1, hx275_2, hx275_3, hx275_4, hx275_5, hl275_2, hi275_2, hl275_3, hi275_3⟩ := at_T82 (Kd.N_reads' HO_9.out).2.2 x10_45 p275 q275
                  obtain rfl : ad260 = ad275 := (by injection e275)
                  obtain ⟨ce275, hce275, hMe275, hcc275⟩ := Kd.N_get HO_9.out z82 x10_45 p275 B8x50_
                  obtain ⟨ua275_2, uc275_2, ua275_3, uc275_3, rfl, ul275_2, ge275_2, ul275_3, ge275_3⟩ := k82_openF hMe275
                  have hv275_2 := hcc275 2 _ rfl
                  rw [add_field _ _ 2 (by omega)] at hv275_2
                  replace hv275_2 := Option.some.inj (hv275_2.symm.trans hx275_2)
                  injection hv275_2 with hva_ hvn_ hvc_
                  rw [hva_] at ge275_2
                  rw [hvc_] at ul275_2
                  have HL275_2 := Aside0.mk (show Kd.V Kd.string 9 _ w.heap.size _ _ ((rd_T82 x9_67 x10_45).f2) from Kd.V_mk ul275_2 ge275_2)
                  clear hva_ hvn_ hvc_ ge275_2 ul275_2
                  have hv275_3 := hcc275 3 _ rfl
                  rw [add_field _ _ 3 (by omega)] at hv275_3
                  replace hv275_3 := Option.some.inj (hv275_3.symm.trans hx275_3)
                  injection hv275_3 with hva_ hvn_ hvc_
                  rw [hva_] at ge275_3
                  rw [hvc_] at ul275_3
                  have HL275_3 := Aside0.mk (show Kd.V (Kd.int .i64) 3 _ w.heap.size _ _ ((rd_T82 x9_67 x10_45).f3) from Kd.V_mk ul275_3 ge275_3)
                  clear hva_ hvn_ hvc_ ge275_3 ul275_3
                  clear hcc275 hce275
                  have HR275_2 := Aside0.mk hi275_2
                  have HC275_2 := Aside0.mk hl275_2
                  clear hi275_2 hl275_2
                  have HR275_3 := Aside0.mk hi275_3
                  have HC275_3 := Aside0.mk hl275_3
                  clear hi275_3 hl275_3
                  replace p275 := eq_true p275
                  replace q275 := eq_true q275
                  go_wp2_with (first | ((with_reducible refine gate_callee (f := 113) rfl ?_); refine goesL_ (some 164) rfl rfl Try.func113 B8x13_ rfl #[.agg #[.int .i64 ((rd_T82 x9_67 x10_45).f0), .int .i64 ((rd_T82 x9_67 x10_45).f1), .slice A275_2 ((rd_T82 x9_67 x10_45).f2).length c275_2, .slice A275_3 ((rd_T82 x9_67 x10_45).f3).length c275_3, .int .i64 ((rd_T82 x9_67 x10_45).f4), .int .i64 ((rd_T82 x9_67 x10_45).f5)]] rfl B8x8_ ?_; (with_reducible refine (spec_l11Whole.calls kj67 ((rd_T82 x9_67 x10_45).f0) ((rd_T82 x9_67 x10_45).f1) _ _ ((rd_T82 x9_67 x10_45).f2) _ _ ((rd_T82 x9_67 x10_45).f3) ((rd_T82 x9_67 x10_45).f4) ((rd_T82 x9_67 x10_45).f5) t276 false _ ?side1 ?side2 ?side3 ?side4 A129.out).mono ?_); (case side1 => exact B8x40_); (case side2 => exact HC275_2.out); (case side3 => exact B8x41_); (case side4 => exact HC275_3.out); rintro e w156 ⟨rfl, hb⟩; refine ⟨_, rfl, ?_⟩; replace HO_9 := Aside0.mk (Kd.N_below B8x12_ hb); replace HL275_2 := Aside0.mk (Kd.V_below B8x18_ hb); replace HL275_3 := Aside0.mk (Kd.V_below B8x19_ hb); replace BK241 := Aside0.mk (bb BK241.out hb); replace BK242 := Aside0.mk (bb BK242.out hb); replace HR275_2 := Aside0.mk (Kd.C_below B8x10_ hb); (try (replace HX275_2 := Aside0.mk (pw_cell_below hb HX275_2.out))); replace HR275_3 := Aside0.mk (Kd.C_below B8x11_ hb); (try (replace HX275_3 := Aside0.mk (pw_cell_below hb HX275_3.out))); replace HB := Aside0.mk (below_step B8x0_ hb); (try clear hb); (try clear hl); have hnb157 := NB242_241.out; have hnc157 := NB241_242.out; obtain ⟨hcz158_0, hcz158_1, hcz158_2, hcz158_3, hcz158_4, hcz158_5⟩ := cl6 BK242.out; obtain ⟨hfz158_0, hfz158_1, hfz158_2, hfz158_3, hfz158_4, hfz158_5⟩ := fr6 BK242.out) | ((with_reducible refine gate_store (t := 62) (p := 7) rfl ?_); refine store_event (t := 62) (p := 7) (v := ?vo_w159) (w1 := ((((((w156.setCell ⟨gb242, 0, none⟩ (.int .i64 0)).setCell ⟨gb242, 1, none⟩ (.int .i64 0)).setCell ⟨gb242, 2, none⟩ (.int .i64 0)).setCell ⟨gb242, 3, none⟩ (.int .i64 0)).setCell ⟨gb242, 4, none⟩ (.bool false)).setCell ⟨gb242, 5, none⟩ (.string (⟨#[]⟩ : ByteArray)))) ?hg ?ho ?hn ?hr ?_; (case ho => rfl); (case hg => rfl); (case hn => rfl); (case hr => exact B8x32_); intro w159 hw; replace HO_9 : Aside0 (Kd.N k82 82 w159 w.heap.size (fun k_ => (w.heap.size ≤ k_) ∧ k_ ≠ gb241 ∧ k_ ≠ gb242) (.slice (some ad260) x9_67.length co69) x9_67) := ⟨(by rw [hw]; exact (by (with_reducible repeat (first | apply Kd.N_alloc | apply Kd.N_drewN | apply Kd.N_drew)); exact Kd.N_mono (Kd.N_far (p := ⟨gb242, 5, none⟩) (Kd.N_far (p := ⟨gb242, 4, none⟩) (Kd.N_far (p := ⟨gb242, 3, none⟩) (Kd.N_far (p := ⟨gb242, 2, none⟩) (Kd.N_far (p := ⟨gb242, 1, none⟩) (Kd.N_far (p := ⟨gb242, 0, none⟩) (Kd.N_mono HO_9.out (fun k_ hk => (⟨hk, hk.2.2⟩ : _ ∧ k_ ≠ gb242))) (fun _ hk => hk.2) (.int .i64 0)) (fun _ hk => hk.2) (.int .i64 0)) (fun _ hk => hk.2) (.int .i64 0)) (fun _ hk => hk.2) (.int .i64 0)) (fun _ hk => hk.2) (.bool false)) (fun _ hk => hk.2) (.string (⟨#[]⟩ : ByteArray))) (fun _ hk => ⟨hk.1.1, ⟨hk.1.2.1, hk.1.2.2⟩⟩)))⟩; replace HL275_2 : Aside0 (Kd.V Kd.string 9 w159 w.heap.size (fun k_ => (w.heap.size ≤ k_) ∧ some k_ ≠ (.slice (some ad260) x9_67.length co69 : Value).ownBlock ∧ k_ ≠ gb241 ∧ k_ ≠ gb242) (.slice A275_2 ((rd_T82 x9_67 x10_45).f2).length c275_2) ((rd_T82 x9_67 x10_45).f2)) := ⟨(by rw [hw]; exact (by (with_reducible repeat (first | apply Kd.V_alloc | apply Kd.V_drewN | apply Kd.V_drew)); exact Kd.V_mono (Kd.V_far (p := ⟨gb242, 5, none⟩) (Kd.V_far (p := ⟨gb242, 4, none⟩) (Kd.V_far (p := ⟨gb242, 3, none⟩) (Kd.V_far (p := ⟨gb242, 2, none⟩) (Kd.V_far (p := ⟨gb242, 1, none⟩) (Kd.V_far (p := ⟨gb242, 0, none⟩) (Kd.V_mono HL275_2.out (fun k_ hk => (⟨hk, hk.1.2.2⟩ : _ ∧ k_ ≠ gb242))) (fun _ hk => hk.2) (.int .i64 0)) (fun _ hk => hk.2) (.int .i64 0)) (fun _ hk => hk.2) (.int .i64 0)) (fun _ hk => hk.2) (.int .i64 0)) (fun _ hk => hk.2) (.bool false)) (fun _ hk => hk.2) (.string (⟨#[]⟩ : ByteArray))) (fun _ hk => ⟨hk.1.1.1, ⟨hk.1.2, ⟨hk.1.1.2.1, hk.1.1.2.2⟩⟩⟩)))⟩; replace HL275_3 : Aside0 (Kd.V (Kd.int .i64) 3 w159 w.heap.size (fun k_ => (w.heap.size ≤ k_) ∧ some k_ ≠ (.slice (some ad260) x9_67.length co69 : Value).ownBlock ∧ k_ ≠ gb241 ∧ k_ ≠ gb242) (.slice A275_3 ((rd_T82 x9_67 x10_45).f3).length c275_3) ((rd_T82 x9_67 x10_45).f3)) := ⟨(by rw [hw]; exact (by (with_reducible repeat (first | apply Kd.V_alloc | apply Kd.V_drewN | apply Kd.V_drew)); exact Kd.V_mono (Kd.V_far (p := ⟨gb242, 5, none⟩) (Kd.V_far (p := ⟨gb242, 4, none⟩) (Kd.V_far (p := ⟨gb242, 3, none⟩) (Kd.V_far (p := ⟨gb242, 2, none⟩) (Kd.V_far (p := ⟨gb242, 1, none⟩) (Kd.V_far (p := ⟨gb242, 0, none⟩) (Kd.V_mono HL275_3.out (fun k_ hk => (⟨hk, hk.1.2.2⟩ : _ ∧ k_ ≠ gb242))) (fun _ hk => hk.2) (.int .i64 0)) (fun _ hk => hk.2) (.int .i64 0)) (fun _ hk => hk.2) (.int .i64 0)) (fun _ hk => hk.2) (.int .i64 0)) (fun _ hk => hk.2) (.bool false)) (fun _ hk => hk.2) (.string (⟨#[]⟩ : ByteArray))) (fun _ hk => ⟨hk.1.1.1, ⟨hk.1.2, ⟨hk.1.1.2.1, hk.1.1.2.2⟩⟩⟩)))⟩; replace BK241 : Aside0 (w159.heap[gb241]? = some (.cells #[.int .i64 a1_0, .int .i64 a1_1, .int .i64 a1_2, .int .i64 a1_3, .bool a1_4, .string a1_5] 62 (0, 0))) := ⟨B8x23_⟩; replace BK242 : Aside0 (w159.heap[gb242]? = some (.cells #[.int .i64 0, .int .i64 0, .int .i64 0, .int .i64 0, .bool false, .string (⟨#[]⟩ : ByteArray)] 62 (0, 0))) := ⟨(by rw [hw]; exact B8x9_)⟩; replace HB : Aside0 (Below w.heap.size w w159) := ⟨(by rw [hw]; exact B8x0_)⟩; clear hw))
                  refine bodyPost_ret (results_list (rs := [.tmp 6, .cell 7 62, .tmp 8]) rfl (by simp) (.tmp (.cell gb242 62 #[.int .i64 0, .int .i64 0, .int .i64 0, .int .i64 0, .bool false, .string (⟨#[]⟩ : ByteArray)] (0, 0) _ rfl B8x5_ Try.underlying62 rfl B8x13_ (.tmp .nil)))) rfl ?_
                  exact ⟨_, by first | rfl | (simp [errW_none, errW_some] <;> rfl) | (simp [*, errW_none, errW_some] <;> rfl), by (with_reducible repeat (first | apply Kd.N_alloc | apply Kd.N_drewN | apply Kd.N_drew)); exact Kd.N_mono HO_9.out (fun _ hk => hk.1), by repeat (first | (with_reducible first | exact HB.out | apply below_alloc | apply pw_below_drewN | apply below_drew1 | refine below_set ?_ GE241.out | refine below_set ?_ GE242.out) | exact HB.out)⟩

end Go.Proofs.Ytmknnoeggkgkgaa.QFnExactJoinBits
