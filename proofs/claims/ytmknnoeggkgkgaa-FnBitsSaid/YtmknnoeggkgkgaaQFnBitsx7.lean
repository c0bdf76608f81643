/- Functions that a law reaches, as functions of Lean, and the walks that show that the calls come to their answers: written by a program of this project out of the translation. No condition. -/
import Derived.Test.YtmknnoeggkgkgaaQFnBitsx0
import Derived.Test.YtmknnoeggkgkgaaQFnBitsx3
import Derived.Test.YtmknnoeggkgkgaaQFnBitsx5
import Derived.Test.YtmknnoeggkgkgaaQFnBitsx6
import Derived.Test.YtmknnoeggkgkgaaVFnBitshort4
import Derived.Test.YtmknnoeggkgkgaaVFnBitshort3
import Derived.Test.YtmknnoeggkgkgaaVFnBitsShort2
import Derived.Test.YtmknnoeggkgkgaaVFnBitsShort
namespace Go.Proofs.Ytmknnoeggkgkgaa.QFnBits
open Go.RowKit Go.Proofs.YtmknnoeggkgkgaaW.PrintWords Go.Proofs.YtmknnoeggkgkgaaW.PrintLast Go.Proofs.YtmknnoeggkgkgaaW.PrintMore Go.Proofs.Ytmknnoeggkgkgaa.Short
attribute [local go_sem] max2_int min2_int max_two min_two max_three min_three max_four min_four   -- for this text's walks alone
set_option linter.unusedVariables false
set_option linter.unusedSimpArgs false

theorem B7x0_ {p : Prop} (h : p := by repeat (first | (with_reducible first | exact HB.out | apply below_alloc | apply pw_below_drewN | apply below_drew1 | refine below_set ?_ GE258.out | refine below_set ?_ GE259.out) | exact HB.out)) : p := h
theorem B7x1_ {p : Prop} (h : p := by first | (rw [add_block]; exact (fun e_ => ((HL280_3.out.1 _ e_.symm).2) rfl)) | (show some (Addr.add _ _).block ≠ _; rw [add_block]; exact (fun e_ => ((HL280_3.out.1 _ e_.symm).2) rfl)) | exact (fun e_ => ((HL280_3.out.1 _ e_.symm).2) rfl)) : p := h
theorem B7x2_ {p : Prop} (h : p := by first | (rw [add_block]; exact (fun e_ => ((HL285_2.out.1 _ e_.symm).2) rfl)) | (show some (Addr.add _ _).block ≠ _; rw [add_block]; exact (fun e_ => ((HL285_2.out.1 _ e_.symm).2) rfl)) | exact (fun e_ => ((HL285_2.out.1 _ e_.symm).2) rfl)) : p := h
theorem B7x3_ {p : Prop} (h : p := by first | (with_reducible assumption) | assumption) : p := h
theorem B7x4_ {p : Prop} (h : p := by first | (rw [add_block]; exact Kd.S_lt HO_9.out _ rfl) | (show (Addr.add _ _).block < _; rw [add_block]; exact Kd.S_lt HO_9.out _ rfl) | exact Kd.S_lt HO_9.out _ rfl) : p := h
theorem B7x5_ {p : Prop} (h : p := by (with_reducible repeat (first | refine blk_drewN ?_ _ | refine blk_drew ?_ | refine blk_alloc ?_ _)); exact BK259.out) : p := h
theorem B7x6_ {p : Prop} (h : p := by (with_reducible repeat (first | refine blk_drewN ?_ _ | refine blk_drew ?_ | refine blk_alloc ?_ _)); exact BK258.out) : p := h
theorem B7x7_ {p : Prop} (h : p := by (with_reducible repeat (first | apply Kd.S_alloc | apply Kd.S_drewN | apply Kd.S_drew)); exact HO_9.out) : p := h
theorem B7x8_ {p : Prop} (h : p := by (try simp only [List.map_toArray, List.map_cons, List.map_nil]); first | done | rfl | (simp only [List.length_drop, List.length_take]; rfl)) : p := h
theorem B7x9_ {p : Prop} (h : p := by (repeat (with_reducible (first | exact BK259.out | apply blk_drewN | apply blk_drew | apply blk_alloc | apply blk_put))); repeat (first | exact BK259.out | (simp only [List.setIfInBounds_toArray, List.set_cons_zero, List.set_cons_succ]; with_reducible rfl) | rfl)) : p := h
theorem B7x10_ {p : Prop} (h : p := by repeat (first | (with_reducible exact HR292_2.out) | (with_reducible refine Kd.C_alloc ?_ _) | (with_reducible refine Kd.C_drewN ?_ _) | (with_reducible refine Kd.C_drew ?_) | exact HR292_2.out)) : p := h
theorem B7x11_ {p : Prop} (h : p := by repeat (first | (with_reducible exact HR292_3.out) | (with_reducible refine Kd.C_alloc ?_ _) | (with_reducible refine Kd.C_drewN ?_ _) | (with_reducible refine Kd.C_drew ?_) | exact HR292_3.out)) : p := h
theorem B7x12_ {p : Prop} (h : p := by (with_reducible repeat (first | apply Kd.N_alloc | apply Kd.N_drewN | apply Kd.N_drew)); exact HO_9.out) : p := h
theorem B7x13_ {p : Prop} (h : p := by kernel_rfl) : p := h
theorem B7x14_ {p : Prop} (h : p := by have := HJ4.out; have := HJ21.out; have := HK3.out; have := HJ45.out; have := HK5.out; first | omega | exact Nat.le_refl _) : p := h
theorem B7x15_ {p : Prop} (h : p := by (repeat (with_reducible (first | exact BK258.out | apply blk_drewN | apply blk_drew | apply blk_alloc | apply blk_put | apply bf HNB258_go77.out))); repeat (first | exact BK258.out | (simp only [List.setIfInBounds_toArray, List.set_cons_zero, List.set_cons_succ]; with_reducible rfl) | rfl)) : p := h
theorem B7x16_ {p : Prop} (h : p := by (repeat (with_reducible (first | exact BK259.out | apply blk_drewN | apply blk_drew | apply blk_alloc | apply blk_put | apply bf HNB259_go77.out))); repeat (first | exact BK259.out | (simp only [List.setIfInBounds_toArray, List.set_cons_zero, List.set_cons_succ]; with_reducible rfl) | rfl)) : p := h
theorem B7x17_ {p : Prop} (h : p := by (with_reducible repeat (first | apply Kd.S_alloc | apply Kd.S_drewN | apply Kd.S_drew)); exact Kd.S_mono (Kd.S_types (Kd.S_types HO_9.out BK258.out (by decide)) BK259.out (by decide)) (fun _ hk => ⟨hk.1.1, ⟨hk.1.2, hk.2⟩⟩)) : p := h
theorem B7x18_ {p : Prop} (h : p := by (with_reducible repeat (first | apply Kd.V_alloc | apply Kd.V_drewN | apply Kd.V_drew)); exact HL292_2.out) : p := h
theorem B7x19_ {p : Prop} (h : p := by (with_reducible repeat (first | apply Kd.V_alloc | apply Kd.V_drewN | apply Kd.V_drew)); exact HL292_3.out) : p := h
theorem B7x20_ {p : Prop} (h : p := by exact (fun k_ hk => ⟨(Nat.le_trans (below_size B7x0_) hk), Kd.freshB (g := gb258) (o := .cells #[.int .i64 a1_0, .int .i64 a1_1, .int .i64 a1_2, .int .i64 a1_3, .bool a1_4, .string a1_5] 62 (0, 0)) B7x6_ k_ hk, Kd.freshB (g := gb259) (o := .cells #[.int .i64 0, .int .i64 0, .int .i64 0, .int .i64 0, .bool false, .string (⟨#[]⟩ : ByteArray)] 62 (0, 0)) B7x5_ k_ hk⟩)) : p := h
theorem B7x21_ {p : Prop} (h : p := by (with_reducible repeat (first | apply Kd.V_alloc | apply Kd.V_drewN | apply Kd.V_drew)); exact HO302.out) : p := h
theorem B7x22_ {p : Prop} (h : p := by (with_reducible repeat (first | apply Kd.V_alloc | apply Kd.V_drewN | apply Kd.V_drew)); exact HO310.out) : p := h
theorem B7x23_ {p : Prop} (h : p := by rw [hw]; exact (by (repeat (with_reducible (first | exact BK258.out | apply blk_drewN | apply blk_drew | apply blk_alloc | apply blk_put | apply bf NB258_259.out))); repeat (first | exact BK258.out | (simp only [List.setIfInBounds_toArray, List.set_cons_zero, List.set_cons_succ]; with_reducible rfl) | rfl))) : p := h
theorem B7x24_ {p : Prop} (h : p := by (repeat (with_reducible (first | exact BK258.out | apply blk_drewN | apply blk_drew | apply blk_alloc | apply blk_put | apply bf HNB258_go112.out))); repeat (first | exact BK258.out | (simp only [List.setIfInBounds_toArray, List.set_cons_zero, List.set_cons_succ]; with_reducible rfl) | rfl)) : p := h
theorem B7x25_ {p : Prop} (h : p := by (repeat (with_reducible (first | exact BK259.out | apply blk_drewN | apply blk_drew | apply blk_alloc | apply blk_put | apply bf HNB259_go112.out))); repeat (first | exact BK259.out | (simp only [List.setIfInBounds_toArray, List.set_cons_zero, List.set_cons_succ]; with_reducible rfl) | rfl)) : p := h
theorem B7x26_ {p : Prop} (h : p := by (repeat (with_reducible (first | exact BK258.out | apply blk_drewN | apply blk_drew | apply blk_alloc | apply blk_put | apply bf HNB258_go94.out))); repeat (first | exact BK258.out | (simp only [List.setIfInBounds_toArray, List.set_cons_zero, List.set_cons_succ]; with_reducible rfl) | rfl)) : p := h
theorem B7x27_ {p : Prop} (h : p := by (repeat (with_reducible (first | exact BK259.out | apply blk_drewN | apply blk_drew | apply blk_alloc | apply blk_put | apply bf HNB259_go94.out))); repeat (first | exact BK259.out | (simp only [List.setIfInBounds_toArray, List.set_cons_zero, List.set_cons_succ]; with_reducible rfl) | rfl)) : p := h
theorem B7x28_ {p : Prop} (h : p := by have := HJ4.out; have := HJ21.out; have := HK3.out; first | omega | exact Nat.le_refl _) : p := h
theorem B7x29_ {p : Prop} (h : p := by repeat (first | (with_reducible first | exact HB.out | apply below_alloc | apply pw_below_drewN | apply below_drew1 | refine below_set ?_ GB112.out | refine below_set ?_ GE258.out | refine below_set ?_ GE259.out) | exact HB.out)) : p := h
theorem B7x30_ {p : Prop} (h : p := by repeat (first | (with_reducible first | exact HB.out | apply below_alloc | apply pw_below_drewN | apply below_drew1 | refine below_set ?_ GB77.out | refine below_set ?_ GE258.out | refine below_set ?_ GE259.out) | exact HB.out)) : p := h
theorem B7x31_ {p : Prop} (h : p := by repeat (first | (with_reducible first | exact HB.out | apply below_alloc | apply pw_below_drewN | apply below_drew1 | refine below_set ?_ GB94.out | refine below_set ?_ GE258.out | refine below_set ?_ GE259.out) | exact HB.out)) : p := h
theorem B7x32_ {p : Prop} (h : p := by first | (go_simp; done) | (go_simp; rfl)) : p := h
theorem B7x33_ {p : Prop} (h : p := by exact (below_size B7x0_)) : p := h
theorem B7x34_ {p : Prop} (h : p := by first | exact q265 | exact of_decide_eq_true B7x3_ | (have e_ := (Kd.S_reads' HO_9.out).1; omega)) : p := h
theorem B7x35_ {p : Prop} (h : p := by first | exact q280 | exact of_decide_eq_true B7x3_ | (have e_ := (Kd.S_reads' HO_9.out).1; omega)) : p := h
theorem B7x36_ {p : Prop} (h : p := by first | exact q285 | exact of_decide_eq_true B7x3_ | (have e_ := (Kd.S_reads' HO_9.out).1; omega)) : p := h
theorem B7x37_ {p : Prop} (h : p := by repeat (first | (with_reducible exact HR277_2.out) | (with_reducible refine Kd.C_alloc ?_ _) | (with_reducible refine Kd.C_drewN ?_ _) | (with_reducible refine Kd.C_drew ?_) | exact HR277_2.out)) : p := h
theorem B7x38_ {p : Prop} (h : p := by repeat (first | (with_reducible exact HR277_3.out) | (with_reducible refine Kd.C_alloc ?_ _) | (with_reducible refine Kd.C_drewN ?_ _) | (with_reducible refine Kd.C_drew ?_) | exact HR277_3.out)) : p := h
theorem B7x39_ {p : Prop} (h : p := by repeat (first | (with_reducible exact HR273.out) | (with_reducible refine Kd.C_alloc ?_ _) | (with_reducible refine Kd.C_drewN ?_ _) | (with_reducible refine Kd.C_drew ?_) | exact HR273.out)) : p := h
theorem B7x40_ {p : Prop} (h : p := by repeat (first | exact B7x10_ | (with_reducible refine Kd.C_alloc ?_ _) | (with_reducible refine Kd.C_drewN ?_ _) | (with_reducible refine Kd.C_drew ?_))) : p := h
theorem B7x41_ {p : Prop} (h : p := by repeat (first | exact B7x11_ | (with_reducible refine Kd.C_alloc ?_ _) | (with_reducible refine Kd.C_drewN ?_ _) | (with_reducible refine Kd.C_drew ?_))) : p := h
theorem B7x42_ {p : Prop} (h : p := by (with_reducible repeat (first | apply Kd.S_alloc | apply Kd.S_drewN | apply Kd.S_drew)); exact Kd.S_mono HO_9.out (fun k_ hk => ⟨hk, fun e_ => e_⟩)) : p := h
theorem B7x43_ {p : Prop} (h : p := by rw [e_]; rfl) : p := h
theorem B7x44_ {p : Prop} (h : p := by (with_reducible repeat (first | apply Kd.S_alloc | apply Kd.S_drewN | apply Kd.S_drew)); exact Kd.S_mono HO262.out (fun _ hk => hk.1)) : p := h
theorem B7x45_ {p : Prop} (h : p := by (with_reducible repeat (first | apply Kd.N_alloc | apply Kd.N_drewN | apply Kd.N_drew)); exact HO313.out) : p := h
theorem B7x46_ {p : Prop} (h : p := by (with_reducible repeat (first | apply Kd.S_alloc | apply Kd.S_drewN | apply Kd.S_drew)); exact HO262.out) : p := h
theorem B7x47_ {p : Prop} (h : p := by first | exact q266 | exact of_decide_eq_true B7x3_ | (have e_ := (Kd.S_reads' HO_9.out).1; omega)) : p := h
theorem B7x48_ {p : Prop} (h : p := by first | exact q277 | exact of_decide_eq_true B7x3_ | (have e_ := (Kd.S_reads' HO_9.out).1; omega)) : p := h
theorem B7x49_ {p : Prop} (h : p := by first | exact q290 | exact of_decide_eq_true B7x3_ | (have e_ := (Kd.S_reads' HO_9.out).1; omega)) : p := h
theorem B7x50_ {p : Prop} (h : p := by first | exact q292 | exact of_decide_eq_true B7x3_ | (have e_ := (Kd.N_reads' HO_9.out).1; omega)) : p := h
theorem B7x51_ {p : Prop} (h : p := by rw [hy142, hc142]; exact Nat.sub_le_sub_right hroom142 _) : p := h
theorem B7x52_ {p : Prop} (h : p := by have := HJ4.out; first | omega | exact Nat.le_refl _) : p := h
/-! ### spec_JoinBits: function 48 -/
mutual
def spec_JoinBits.j0 : Nat → Int → List (S82) → Bool → Int → Int → Int → Int → Bool → ByteArray → Option ((List (S82)) × Int × Int × Int × Int × Bool × ByteArray × Bool)
 | 0, _, _, _, _, _, _, _, _, _ => none
 | k + 1, x2, x9, x26, x259000, x259001, x259002, x259003, x259004, x259005 => if x26 = true then (some (x9, 0, 0, 0, 0, false, (⟨#[]⟩ : ByteArray), false)) else (if x259003 = 0 then (spec_JoinBits.j1 k x2 x9 (!x259004) x259000 x259001 x259002 x259003 x259004 x259005) else (spec_JoinBits.j1 k x2 x9 false x259000 x259001 x259002 x259003 x259004 x259005))
def spec_JoinBits.j1 : Nat → Int → List (S82) → Bool → Int → Int → Int → Int → Bool → ByteArray → Option ((List (S82)) × Int × Int × Int × Int × Bool × ByteArray × Bool)
 | 0, _, _, _, _, _, _, _, _, _ => none
 | k + 1, x2, x9, x36, x259000, x259001, x259002, x259003, x259004, x259005 => if x36 = true then (some (x9, x259000, x259001, x259002, x259003, x259004, x259005, true)) else (spec_JoinBits.l0 k x2 x9 (-1) (wrap64 ((x9.length : Int) - 1)) x259000 x259001 x259002 x259003 x259004 x259005)
def spec_JoinBits.l0 : Nat → Int → List (S82) → Int → Int → Int → Int → Int → Int → Bool → ByteArray → Option ((List (S82)) × Int × Int × Int × Int × Bool × ByteArray × Bool)
 | 0, _, _, _, _, _, _, _, _, _, _ => none
 | k + 1, x2, x9, x10, x11, x259000, x259001, x259002, x259003, x259004, x259005 => if x11 ≥ 0 then (if 0 ≤ x11 then (if x11 < (x9.length : Int) then (if ((rd_T82 x9 x11).f0) = x259000 then (if ((rd_T82 x9 x11).f1) = x259002 then (spec_JoinBits.j3 k x2 x9 x11 x11 x259000 x259001 x259002 x259003 x259004 x259005) else (spec_JoinBits.j3 k x2 x9 x10 x11 x259000 x259001 x259002 x259003 x259004 x259005)) else (spec_JoinBits.j3 k x2 x9 x10 x11 x259000 x259001 x259002 x259003 x259004 x259005)) else (none)) else (none)) else (if x10 < 0 then (if x9.length < 1759218604441 then (spec_JoinBits.l1 k (x9 ++ [(⟨x259000, x259002, ([] : List ByteArray), ([] : List Int), 0, wrap64 (x2 + 10)⟩ : S82)]) x259000 x259001 x259002 x259003 x259004 x259005) else (none)) else (spec_JoinBits.j5 k x9 x10 x259000 x259001 x259002 x259003 x259004 x259005))
def spec_JoinBits.j3 : Nat → Int → List (S82) → Int → Int → Int → Int → Int → Int → Bool → ByteArray → Option ((List (S82)) × Int × Int × Int × Int × Bool × ByteArray × Bool)
 | 0, _, _, _, _, _, _, _, _, _, _ => none
 | k + 1, x2, x9, x10, x11, x259000, x259001, x259002, x259003, x259004, x259005 => spec_JoinBits.l0 k x2 x9 x10 (wrap64 (x11 - 1)) x259000 x259001 x259002 x259003 x259004 x259005
def spec_JoinBits.j5 : Nat → List (S82) → Int → Int → Int → Int → Int → Bool → ByteArray → Option ((List (S82)) × Int × Int × Int × Int × Bool × ByteArray × Bool)
 | 0, _, _, _, _, _, _, _, _ => none
 | k + 1, x9, x10, x259000, x259001, x259002, x259003, x259004, x259005 => spec_JoinBits.l2 k x9 x10 false 0 x259000 x259001 x259002 x259003 x259004 x259005
def spec_JoinBits.l2 : Nat → List (S82) → Int → Bool → Int → Int → Int → Int → Int → Bool → ByteArray → Option ((List (S82)) × Int × Int × Int × Int × Bool × ByteArray × Bool)
 | 0, _, _, _, _, _, _, _, _, _, _ => none
 | k + 1, x9, x10, x12, x13, x259000, x259001, x259002, x259003, x259004, x259005 => if 0 ≤ x10 then (if x10 < (x9.length : Int) then (if x13 < (((rd_T82 x9 x10).f3).length : Int) then (if x12 = true then (spec_JoinBits.j7 k x9 x10 true x13 x259000 x259001 x259002 x259003 x259004 x259005) else (if 0 ≤ x13 then (spec_JoinBits.j7 k x9 x10 ((rd ((rd_T82 x9 x10).f3) x13) == x259003) x13 x259000 x259001 x259002 x259003 x259004 x259005) else (none))) else (if x12 = true then (spec_JoinBits.j8 k x9 x10 x259000 x259001 x259002 x259003 x259004 x259005) else (if ((rd_T82 x9 x10).f3).length < 17592186044416 then ((some (x9.set (x10 : Int).toNat (⟨(rd_T82 x9 x10).f0, (rd_T82 x9 x10).f1, (rd_T82 x9 x10).f2, (((rd_T82 x9 x10).f3) ++ [x259003]), (rd_T82 x9 x10).f4, (rd_T82 x9 x10).f5⟩ : S82) : List (S82))).bind fun y284 => (if ((rd_T82 y284 x10).f2).length < 8796093022208 then ((some (y284.set (x10 : Int).toNat (⟨(rd_T82 y284 x10).f0, (rd_T82 y284 x10).f1, (((rd_T82 y284 x10).f2) ++ [x259005]), (rd_T82 y284 x10).f3, (rd_T82 y284 x10).f4, (rd_T82 y284 x10).f5⟩ : S82) : List (S82))).bind fun y289 => (if x259004 = true then (spec_JoinBits.j8 k y289 x10 x259000 x259001 x259002 x259003 x259004 x259005) else (if ((rd_T82 y289 x10).f4) = 0 then (spec_JoinBits.j8 k (y289.set (x10 : Int).toNat (⟨(rd_T82 y289 x10).f0, (rd_T82 y289 x10).f1, (rd_T82 y289 x10).f2, (rd_T82 y289 x10).f3, wrap64 (x259003 + (x259005.size : Int)), (rd_T82 y289 x10).f5⟩ : S82)) x10 x259000 x259001 x259002 x259003 x259004 x259005) else (spec_JoinBits.j8 k y289 x10 x259000 x259001 x259002 x259003 x259004 x259005)))) else (none))) else (none)))) else (none)) else (none)
def spec_JoinBits.j7 : Nat → List (S82) → Int → Bool → Int → Int → Int → Int → Int → Bool → ByteArray → Option ((List (S82)) × Int × Int × Int × Int × Bool × ByteArray × Bool)
 | 0, _, _, _, _, _, _, _, _, _, _ => none
 | k + 1, x9, x10, x12, x13, x259000, x259001, x259002, x259003, x259004, x259005 => spec_JoinBits.l2 k x9 x10 x12 (wrap64 (x13 + 1)) x259000 x259001 x259002 x259003 x259004 x259005
def spec_JoinBits.j8 : Nat → List (S82) → Int → Int → Int → Int → Int → Bool → ByteArray → Option ((List (S82)) × Int × Int × Int × Int × Bool × ByteArray × Bool)
 | 0, _, _, _, _, _, _, _, _ => none
 | k + 1, x9, x10, x259000, x259001, x259002, x259003, x259004, x259005 => if 0 ≤ x10 then (if x10 < (x9.length : Int) then ((spec_l11Whole.f k ((rd_T82 x9 x10).f0) ((rd_T82 x9 x10).f1) ((rd_T82 x9 x10).f2) ((rd_T82 x9 x10).f3) ((rd_T82 x9 x10).f4) ((rd_T82 x9 x10).f5)).bind fun bt293 => (if bt293.2 = true then ((some (([] : List (S82)) : List (S82))).bind fun y295 => (if x10 ≤ (x9.length : Int) then ((some (x9.take (x10 : Int).toNat : List (S82))).bind fun y298 => (if y295.length + y298.length < 1759218604441 then ((some (y295 ++ y298 : List (S82))).bind fun y303 => (if 0 ≤ (wrap64 (x10 + 1)) then (if (wrap64 (x10 + 1)) ≤ (x9.length : Int) then ((some (x9.drop ((wrap64 (x10 + 1)) : Int).toNat : List (S82))).bind fun y306 => (if y303.length + y306.length < 1759218604441 then ((spec_l11CopyBits.f k (y303 ++ y306)).bind fun t314 => (some (t314, x259000, x259001, x259002, 0, false, bt293.1, true))) else (none))) else (none)) else (none))) else (none))) else (none))) else (some (x9, 0, 0, 0, 0, false, (⟨#[]⟩ : ByteArray), false)))) else (none)) else (none)
def spec_JoinBits.l1 : Nat → List (S82) → Int → Int → Int → Int → Bool → ByteArray → Option ((List (S82)) × Int × Int × Int × Int × Bool × ByteArray × Bool)
 | 0, _, _, _, _, _, _, _ => none
 | k + 1, x9, x259000, x259001, x259002, x259003, x259004, x259005 => if (x9.length : Int) > 3 then (if 1 ≤ (x9.length : Int) then ((spec_l11CopyBits.f k (x9.drop 1)).bind fun t274 => (spec_JoinBits.l1 k t274 x259000 x259001 x259002 x259003 x259004 x259005)) else (none)) else (spec_JoinBits.j5 k x9 (wrap64 ((x9.length : Int) - 1)) x259000 x259001 x259002 x259003 x259004 x259005)
end
def spec_JoinBits.f (k : Nat) (l0 : List (S82)) (a1_0 : Int) (a1_1 : Int) (a1_2 : Int) (a1_3 : Int) (a1_4 : Bool) (a1_5 : ByteArray) (a2 : Int) : Option ((List (S82)) × Int × Int × Int × Int × Bool × ByteArray × Bool) := (spec_l11CopyBits.f k l0).bind fun t260 => ((spec_DgramOk.f a1_0 a1_1 a1_2 a1_3 a1_4 a1_5).bind fun t263 => (if t263 = true then ((spec_l01In.f a2 0 999999990).bind fun t264 => (spec_JoinBits.j0 k a2 t260 (!t264) a1_0 a1_1 a1_2 a1_3 a1_4 a1_5)) else (spec_JoinBits.j0 k a2 t260 true a1_0 a1_1 a1_2 a1_3 a1_4 a1_5)))
def spec_JoinBits.T10 : Bool × List (List Nat × List Nat) := (true, [([], []), ([], []), ([0, 1], [0, 1]), ([2], [2]), ([3], [3]), ([], []), ([5], [5]), ([4, 6], [4, 6]), ([7], [7]), ([8], [8]), ([8], [8]), ([9, 10, 8], [8, 9, 10]), ([11, 8], [8, 11]), ([12, 8], [8, 12]), ([8], [8]), ([14, 8], [8, 14]), ([13, 15, 8], [8, 13, 15]), ([8, 16], [8, 16])])
def spec_JoinBits.B10 : List Nat := [0, 0, 3, 7, 15, 0, 32, 127, 255, 511, 511, 2047, 4095, 8191, 511, 16895, 65535, 131071]
theorem spec_JoinBits.tab10 : rtab .any (opsOf Try.f48 10) = spec_JoinBits.T10 := by kernel_rfl
theorem spec_JoinBits.bits10 : waitsOk spec_JoinBits.T10.2 spec_JoinBits.B10 = true := by kernel_rfl
def spec_JoinBits.T21 : Bool × List (List Nat × List Nat) := (true, [([], []), ([0], [0]), ([1], [1]), ([1], [1]), ([2, 3, 1], [1, 2, 3]), ([4, 1], [1, 4]), ([5, 1], [1, 5]), ([1], [1]), ([6, 7, 1], [1, 6, 7]), ([8, 1], [1, 8]), ([1], [1]), ([10, 1], [1, 10]), ([9, 11, 1], [1, 9, 11]), ([1, 12], [1, 12]), ([13, 1, 0, 1, 2, 3, 4, 5, 6, 7, 8, 9, 10, 11, 12, 13], [0, 13])])
def spec_JoinBits.B21 : List Nat := [0, 1, 3, 3, 15, 31, 63, 3, 255, 511, 3, 1027, 4095, 8191, 16383]
theorem spec_JoinBits.tab21 : rtab .any (opsOf Try.f48 21) = spec_JoinBits.T21 := by kernel_rfl
theorem spec_JoinBits.bits21 : waitsOk spec_JoinBits.T21.2 spec_JoinBits.B21 = true := by kernel_rfl
def spec_JoinBits.T23 : Bool × List (List Nat × List Nat) := (true, [([], []), ([], []), ([], []), ([], []), ([2, 3], [2, 3]), ([4], [4]), ([5], [5]), ([], []), ([7], [7]), ([8], [8]), ([6, 9], [6, 9]), ([0, 1, 0, 1, 2, 3, 4, 5, 6, 7, 8, 9, 10], [0, 1]), ([11, 0, 1, 2, 3, 4, 5, 6, 7, 8, 9, 10], [11]), ([12, 10, 10, 0, 1, 2, 3, 4, 5, 6, 7, 8, 9, 10], [10, 12])])
def spec_JoinBits.B23 : List Nat := [0, 0, 0, 0, 12, 28, 60, 0, 128, 384, 1020, 2047, 4095, 8191]
theorem spec_JoinBits.tab23 : rtab .any (opsOf Try.f48 23) = spec_JoinBits.T23 := by kernel_rfl
theorem spec_JoinBits.bits23 : waitsOk spec_JoinBits.T23.2 spec_JoinBits.B23 = true := by kernel_rfl
def spec_JoinBits.T24 : Bool × List (List Nat × List Nat) := (true, [([], []), ([], []), ([], []), ([], []), ([2, 3], [2, 3]), ([4], [4]), ([5], [5]), ([], []), ([7], [7]), ([8], [8]), ([6, 9], [6, 9]), ([0, 1, 0, 1, 2, 3, 4, 5, 6, 7, 8, 9, 10], [0, 1]), ([11, 0, 1, 2, 3, 4, 5, 6, 7, 8, 9, 10], [11]), ([12, 10, 10, 0, 1, 2, 3, 4, 5, 6, 7, 8, 9, 10], [10, 12])])
def spec_JoinBits.B24 : List Nat := [0, 0, 0, 0, 12, 28, 60, 0, 128, 384, 1020, 2047, 4095, 8191]
theorem spec_JoinBits.tab24 : rtab .any (opsOf Try.f48 24) = spec_JoinBits.T24 := by kernel_rfl
theorem spec_JoinBits.bits24 : waitsOk spec_JoinBits.T24.2 spec_JoinBits.B24 = true := by kernel_rfl
def spec_JoinBits.T30 : Bool × List (List Nat × List Nat) := (true, [([], []), ([], []), ([], []), ([1, 2], [1, 2]), ([0, 3], [0, 3]), ([], []), ([], []), ([6], [6]), ([5, 7], [5, 7]), ([4, 8, 4], [4, 8]), ([9, 9], [9]), ([10, 10, 0, 1, 2, 3, 4, 5, 6, 7, 8, 9, 10], [10])])
def spec_JoinBits.B30 : List Nat := [0, 0, 0, 6, 15, 0, 0, 64, 224, 511, 1023, 2047]
theorem spec_JoinBits.tab30 : rtab .any (opsOf Try.f48 30) = spec_JoinBits.T30 := by kernel_rfl
theorem spec_JoinBits.bits30 : waitsOk spec_JoinBits.T30.2 spec_JoinBits.B30 = true := by kernel_rfl
def spec_JoinBits.T31 : Bool × List (List Nat × List Nat) := (true, [([], []), ([], []), ([1], [1]), ([], []), ([3], [3]), ([], []), ([5], [5]), ([], []), ([2, 4, 6, 7], [2, 4, 6, 7]), ([0, 0], [0]), ([8, 9, 0, 1, 2, 3, 4, 5, 6, 7, 8, 9], [8]), ([10, 0, 1, 2, 3, 4, 5, 6, 7, 8, 9, 10], [])])
def spec_JoinBits.B31 : List Nat := [0, 0, 2, 0, 8, 0, 32, 0, 254, 1, 1023, 2047]
theorem spec_JoinBits.tab31 : rtab .any (opsOf Try.f48 31) = spec_JoinBits.T31 := by kernel_rfl
theorem spec_JoinBits.bits31 : waitsOk spec_JoinBits.T31.2 spec_JoinBits.B31 = true := by kernel_rfl
set_option maxHeartbeats 8000000 in
set_option maxRecDepth 100000 in
theorem spec_JoinBits.calls (k : Nat) (A0 : Option Addr) (c0 : Nat) (l0 : List (S82)) (a1_0 : Int) (a1_1 : Int) (a1_2 : Int) (a1_3 : Int) (a1_4 : Bool) (a1_5 : ByteArray) (a2 : Int) (r1 : List (S82)) (r2 : Int) (r3 : Int) (r4 : Int) (r5 : Int) (r6 : Bool) (r7 : ByteArray) (r8 : Bool) (w : World) (hr0 : Kd.C k82 w A0 l0.length l0) (hc0 : l0.length ≤ c0) (h : spec_JoinBits.f k l0 a1_0 a1_1 a1_2 a1_3 a1_4 a1_5 a2 = some (r1, r2, r3, r4, r5, r6, r7, r8)) :
  Calls Try.prog 48 #[.slice A0 l0.length c0, .agg #[.int .i64 a1_0, .int .i64 a1_1, .int .i64 a1_2, .int .i64 a1_3, .bool a1_4, .string a1_5], .int .i64 a2] w fun e w' => ∃ v0_ : Value, e = .returned (.tuple #[v0_, .agg #[.int .i64 r2, .int .i64 r3, .int .i64 r4, .int .i64 r5, .bool r6, .string r7], .bool r8]) ∧ Kd.N k82 82 w' w.heap.size (fun k_ => (w.heap.size ≤ k_)) v0_ r1 ∧ Below w.heap.size w w' := by
 have hu62 := Try.underlying62
 have hu82 := Try.underlying82
 have HR0 := Aside0.mk hr0
 have HC0 := Aside0.mk hc0
 clear hr0 hc0
 have HB := Aside0.mk (Below.refl w.heap.size w)
 have H : ((spec_l11CopyBits.f k l0).bind fun t260 => ((spec_DgramOk.f a1_0 a1_1 a1_2 a1_3 a1_4 a1_5).bind fun t263 => (if t263 = true then ((spec_l01In.f a2 0 999999990).bind fun t264 => (spec_JoinBits.j0 k a2 t260 (!t264) a1_0 a1_1 a1_2 a1_3 a1_4 a1_5)) else (spec_JoinBits.j0 k a2 t260 true a1_0 a1_1 a1_2 a1_3 a1_4 a1_5)))) = some (r1, r2, r3, r4, r5, r6, r7, r8) := h
 clear h
 replace H := bsi H
 obtain ⟨t260, A4, H⟩ := H
 (try dsimp only at H)
 have HC5 := Aside0.mk H
 clear H
 go_enter Try.func48, Try.ntmps48
 go_upto_region 2 with (first | ((with_reducible refine gate_dst (N := 4) rfl ?_); refine box_event ?hg (N := 4) ?hd (cs := #[.int .i64 a1_0, .int .i64 a1_1, .int .i64 a1_2, .int .i64 a1_3, .bool a1_4, .string a1_5]) (t := 62) ?hr ?_; (case hd => rfl); (case hg => rfl); (case hr => exact B7x32_); intro gb258 hg w6 hbox hb; have BK258 := Aside0.mk (hbox); have GW258 := Aside0.mk ((bs hg (below_size HB.out))); have GE258 := Aside0.mk ((bs hg (below_size HB.out))); replace HB := Aside0.mk (below_step (by repeat (first | (with_reducible first | exact HB.out | apply below_alloc | apply pw_below_drewN | apply below_drew1) | exact HB.out)) hb); clear hb hbox hg) | ((with_reducible refine gate_dst (N := 7) rfl ?_); refine box_event ?hg (N := 7) ?hd (cs := #[.int .i64 0, .int .i64 0, .int .i64 0, .int .i64 0, .bool false, .string (⟨#[]⟩ : ByteArray)]) (t := 62) ?hr ?_; (case hd => rfl); (case hg => rfl); (case hr => exact B7x32_); intro gb259 hg w7 hbox hb; have BK259 := Aside0.mk (hbox); have GW259 := Aside0.mk ((bs hg (below_size HB.out))); have GE259 := Aside0.mk ((bs hg (below_size HB.out))); replace HB := Aside0.mk (below_step (by repeat (first | (with_reducible first | exact HB.out | apply below_alloc | apply pw_below_drewN | apply below_drew1 | refine below_set ?_ GE258.out) | exact HB.out)) hb); have NB258_259 := Aside0.mk ((nl hg (blk_lt BK258.out))); have NB259_258 := Aside0.mk ((ng hg (blk_lt BK258.out))); replace BK258 := Aside0.mk (bb BK258.out hb); clear hb hbox hg) | ((with_reducible refine gate_callee (f := 104) rfl ?_); refine goesL_ (some 18) rfl rfl Try.func104 B7x13_ rfl #[.slice A0 l0.length c0] rfl B7x8_ ?_; (with_reducible refine (spec_l11CopyBits.calls k _ _ l0 t260 _ ?side1 ?side2 A4.out).mono ?_); (case side1 => repeat (first | exact (Kd.C_below HR0.out HB.out) | (with_reducible refine Kd.C_alloc ?_ _) | (with_reducible refine Kd.C_drewN ?_ _) | (with_reducible refine Kd.C_drew ?_))); (case side2 => exact HC0.out); rintro e w8 ⟨v261, rfl, ho0, hb⟩; refine ⟨_, rfl, ?_⟩; have HO262 := Aside0.mk (Kd.S_lower (Kd.S_newM (M := fun k_ => (w.heap.size ≤ k_)) ho0 (below_size B7x0_) (fun k_ h_ => h_)) (below_size B7x0_)); replace BK258 := Aside0.mk (bb BK258.out hb); replace BK259 := Aside0.mk (bb BK259.out hb); replace HB := Aside0.mk (below_step B7x0_ hb); (try clear hb); (try clear hl); (try clear ho0)))
 (try simp only [Act.put, List.setIfInBounds_toArray, List.set_cons_zero, List.set_cons_succ])
 go_cut [26] (fun v26 wc => ∃ (kq : Nat) (x26_4 : Bool), v26 = .bool x26_4 ∧ Aside0 (spec_JoinBits.j0 kq a2 t260 x26_4 a1_0 a1_1 a1_2 a1_3 a1_4 a1_5 = some (r1, r2, r3, r4, r5, r6, r7, r8)) ∧ Aside0 (kq ≤ k) ∧ Aside0 (Kd.S k82 82 wc w.heap.size (fun k_ => (w.heap.size ≤ k_)) v261 t260) ∧ Aside0 (wc.heap[gb258]? = some (.cells #[.int .i64 a1_0, .int .i64 a1_1, .int .i64 a1_2, .int .i64 a1_3, .bool a1_4, .string a1_5] 62 (0, 0))) ∧ Aside0 (wc.heap[gb259]? = some (.cells #[.int .i64 0, .int .i64 0, .int .i64 0, .int .i64 0, .bool false, .string (⟨#[]⟩ : ByteArray)] 62 (0, 0))) ∧ Aside0 (Below w.heap.size w wc))
 case first =>
  have H := HC5.out
  clear HC5
  replace H := bsi H
  obtain ⟨t263, A9, H⟩ := H
  (try dsimp only at H)
  by_cases c10 : t263 = true
  ·subst c10
   rw [if_pos rfl] at H
   replace H := bsi H
   obtain ⟨t264, A11, H⟩ := H
   (try dsimp only at H)
   have H' := Aside0.mk H
   clear H
   have hnb12 := NB258_259.out
   have hnc12 := NB259_258.out
   obtain ⟨hcz13_0, hcz13_1, hcz13_2, hcz13_3, hcz13_4, hcz13_5⟩ := cl6 BK258.out
   obtain ⟨hfz13_0, hfz13_1, hfz13_2, hfz13_3, hfz13_4, hfz13_5⟩ := fr6 BK258.out
   go_wp2_with (first | ((with_reducible refine gate_callee (f := 95) rfl ?_); refine goesL_ (some 20) rfl rfl Try.func95 B7x13_ rfl #[.agg #[.int .i64 a1_0, .int .i64 a1_1, .int .i64 a1_2, .int .i64 a1_3, .bool a1_4, .string a1_5]] rfl B7x8_ ?_; (with_reducible refine (spec_DgramOk.calls a1_0 a1_1 a1_2 a1_3 a1_4 a1_5 true _ A9.out).mono ?_); rintro e w14 ⟨rfl, hb⟩; refine ⟨_, rfl, ?_⟩; replace HO262 := Aside0.mk (Kd.S_below B7x46_ hb); replace BK258 := Aside0.mk (bb BK258.out hb); replace BK259 := Aside0.mk (bb BK259.out hb); replace HB := Aside0.mk (below_step B7x0_ hb); (try clear hb); (try clear hl)) | (go_at_call 69; (with_reducible refine (spec_l01In.calls a2 0 999999990 t264 _ A11.out).mono ?_); rintro e w' ⟨rfl, ⟨nd, rfl⟩⟩))
   go_meet
   case rel => exact ⟨_, (!t264), (be_), H', ⟨(by first | omega | exact Nat.le_refl _)⟩, ⟨B7x44_⟩, ⟨B7x6_⟩, ⟨B7x5_⟩, ⟨B7x0_⟩⟩
  ·replace c10 := Bool.eq_false_iff.mpr c10
   subst c10
   rw [if_neg (show ¬ (false = true) by decide)] at H
   have H' := Aside0.mk H
   clear H
   have hnb15 := NB258_259.out
   have hnc15 := NB259_258.out
   obtain ⟨hcz16_0, hcz16_1, hcz16_2, hcz16_3, hcz16_4, hcz16_5⟩ := cl6 BK258.out
   obtain ⟨hfz16_0, hfz16_1, hfz16_2, hfz16_3, hfz16_4, hfz16_5⟩ := fr6 BK258.out
   go_wp2_with (first | ((with_reducible refine gate_callee (f := 95) rfl ?_); refine goesL_ (some 20) rfl rfl Try.func95 B7x13_ rfl #[.agg #[.int .i64 a1_0, .int .i64 a1_1, .int .i64 a1_2, .int .i64 a1_3, .bool a1_4, .string a1_5]] rfl B7x8_ ?_; (with_reducible refine (spec_DgramOk.calls a1_0 a1_1 a1_2 a1_3 a1_4 a1_5 false _ A9.out).mono ?_); rintro e w17 ⟨rfl, hb⟩; refine ⟨_, rfl, ?_⟩; replace HO262 := Aside0.mk (Kd.S_below B7x46_ hb); replace BK258 := Aside0.mk (bb BK258.out hb); replace BK259 := Aside0.mk (bb BK259.out hb); replace HB := Aside0.mk (below_step B7x0_ hb); (try clear hb); (try clear hl)))
   go_meet
   case rel => exact ⟨_, (true), (be_), H', ⟨(by first | omega | exact Nat.le_refl _)⟩, ⟨B7x44_⟩, ⟨B7x6_⟩, ⟨B7x5_⟩, ⟨B7x0_⟩⟩
 case rest =>
  clear HC5
  obtain ⟨kq, x26_4, rfl, HA, HJ4, HO_9, BK258, BK259, HB⟩ := hcut
  cases kq with
  | zero => exact absurd HA.out (by simp [spec_JoinBits.j0])
  | succ kj4 =>
   have H := HA.out
   clear HA
   simp only [spec_JoinBits.j0] at H
   by_cases c18 : x26_4 = true
   ·subst c18
    rw [if_pos rfl] at H
    simp only [Option.some.injEq, Prod.mk.injEq] at H
    obtain ⟨rfl, rfl, rfl, rfl, rfl, rfl, rfl, rfl⟩ := H
    have hnb19 := NB259_258.out
    have hnc19 := NB258_259.out
    obtain ⟨hcz20_0, hcz20_1, hcz20_2, hcz20_3, hcz20_4, hcz20_5⟩ := cl6 BK259.out
    obtain ⟨hfz20_0, hfz20_1, hfz20_2, hfz20_3, hfz20_4, hfz20_5⟩ := fr6 BK259.out
    go_wp2_with (first | ((with_reducible refine gate_store (t := 62) (p := 7) rfl ?_); refine store_event (t := 62) (p := 7) (v := ?vo_w21) (w1 := ((((((wc.setCell ⟨gb259, 0, none⟩ (.int .i64 0)).setCell ⟨gb259, 1, none⟩ (.int .i64 0)).setCell ⟨gb259, 2, none⟩ (.int .i64 0)).setCell ⟨gb259, 3, none⟩ (.int .i64 0)).setCell ⟨gb259, 4, none⟩ (.bool false)).setCell ⟨gb259, 5, none⟩ (.string (⟨#[]⟩ : ByteArray)))) ?hg ?ho ?hn ?hr ?_; (case ho => rfl); (case hg => rfl); (case hn => rfl); (case hr => exact B7x32_); intro w21 hw; replace HO_9 : Aside0 (Kd.S k82 82 w21 w.heap.size (fun k_ => (w.heap.size ≤ k_)) v261 t260) := ⟨(by rw [hw]; exact (by (with_reducible repeat (first | apply Kd.S_alloc | apply Kd.S_drewN | apply Kd.S_drew)); exact Kd.S_mono (Kd.S_far (p := ⟨gb259, 5, none⟩) (Kd.S_far (p := ⟨gb259, 4, none⟩) (Kd.S_far (p := ⟨gb259, 3, none⟩) (Kd.S_far (p := ⟨gb259, 2, none⟩) (Kd.S_far (p := ⟨gb259, 1, none⟩) (Kd.S_far (p := ⟨gb259, 0, none⟩) (Kd.S_types HO_9.out BK259.out (by decide)) (fun _ hk => hk.2) (.int .i64 0)) (fun _ hk => hk.2) (.int .i64 0)) (fun _ hk => hk.2) (.int .i64 0)) (fun _ hk => hk.2) (.int .i64 0)) (fun _ hk => hk.2) (.bool false)) (fun _ hk => hk.2) (.string (⟨#[]⟩ : ByteArray))) (fun _ hk => hk.1)))⟩; replace BK258 : Aside0 (w21.heap[gb258]? = some (.cells #[.int .i64 a1_0, .int .i64 a1_1, .int .i64 a1_2, .int .i64 a1_3, .bool a1_4, .string a1_5] 62 (0, 0))) := ⟨B7x23_⟩; replace BK259 : Aside0 (w21.heap[gb259]? = some (.cells #[.int .i64 0, .int .i64 0, .int .i64 0, .int .i64 0, .bool false, .string (⟨#[]⟩ : ByteArray)] 62 (0, 0))) := ⟨(by rw [hw]; exact B7x9_)⟩; replace HB : Aside0 (Below w.heap.size w w21) := ⟨(by rw [hw]; exact B7x0_)⟩; clear hw))
    refine bodyPost_ret (results_list (rs := [.tmp 6, .cell 7 62, .tmp 8]) rfl (by simp) (.tmp (.cell gb259 62 #[.int .i64 0, .int .i64 0, .int .i64 0, .int .i64 0, .bool false, .string (⟨#[]⟩ : ByteArray)] (0, 0) _ rfl B7x5_ Try.underlying62 rfl B7x13_ (.tmp .nil)))) rfl ?_
    exact ⟨_, by first | rfl | (simp [errW_none, errW_some] <;> rfl) | (simp [*, errW_none, errW_some] <;> rfl), Kd.R_N ((Kd.S_R B7x7_)), by repeat (first | (with_reducible first | exact HB.out | apply below_alloc | apply pw_below_drewN | apply below_drew1 | refine below_set ?_ GE258.out | refine below_set ?_ GE259.out) | exact HB.out)⟩
   ·replace c18 := Bool.eq_false_iff.mpr c18
    subst c18
    rw [if_neg (show ¬ (false = true) by decide)] at H
    have HC22 := Aside0.mk H
    clear H
    go_upto_region 4 with (fail)
    go_cut [36] (fun v36 wc => ∃ (kq : Nat) (x36_21 : Bool), v36 = .bool x36_21 ∧ Aside0 (spec_JoinBits.j1 kq a2 t260 x36_21 a1_0 a1_1 a1_2 a1_3 a1_4 a1_5 = some (r1, r2, r3, r4, r5, r6, r7, r8)) ∧ Aside0 (kq ≤ kj4) ∧ Aside0 (Kd.S k82 82 wc w.heap.size (fun k_ => (w.heap.size ≤ k_)) v261 t260) ∧ Aside0 (wc.heap[gb258]? = some (.cells #[.int .i64 a1_0, .int .i64 a1_1, .int .i64 a1_2, .int .i64 a1_3, .bool a1_4, .string a1_5] 62 (0, 0))) ∧ Aside0 (wc.heap[gb259]? = some (.cells #[.int .i64 0, .int .i64 0, .int .i64 0, .int .i64 0, .bool false, .string (⟨#[]⟩ : ByteArray)] 62 (0, 0))) ∧ Aside0 (Below w.heap.size w wc))
    case first =>
     have H := HC22.out
     clear HC22
     by_cases c23 : a1_3 = 0
     ·rw [if_pos c23] at H
      have c23b0 := beq_iff_eq.mpr c23
      have c23b1 := bne_eq_false_iff_eq.mpr c23
      clear c23
      (first | rw [c23b0] | (simp only [i64_w, i32_w]; rw [c23b0]) | skip)
      have H' := Aside0.mk H
      clear H
      have hnb24 := NB258_259.out
      have hnc24 := NB259_258.out
      obtain ⟨hcz25_0, hcz25_1, hcz25_2, hcz25_3, hcz25_4, hcz25_5⟩ := cl6 BK258.out
      obtain ⟨hfz25_0, hfz25_1, hfz25_2, hfz25_3, hfz25_4, hfz25_5⟩ := fr6 BK258.out
      go_wp2
      go_meet
      case rel => exact ⟨_, (!a1_4), (be_), H', ⟨B7x52_⟩, ⟨B7x7_⟩, ⟨B7x6_⟩, ⟨B7x5_⟩, ⟨B7x0_⟩⟩
     ·rw [if_neg c23] at H
      have c23b0 := beq_eq_false_iff_ne.mpr c23
      have c23b1 := bne_iff_ne.mpr c23
      (first | rw [c23b0] | (simp only [i64_w, i32_w]; rw [c23b0]) | skip)
      have H' := Aside0.mk H
      clear H
      have hnb26 := NB258_259.out
      have hnc26 := NB259_258.out
      obtain ⟨hcz27_0, hcz27_1, hcz27_2, hcz27_3, hcz27_4, hcz27_5⟩ := cl6 BK258.out
      obtain ⟨hfz27_0, hfz27_1, hfz27_2, hfz27_3, hfz27_4, hfz27_5⟩ := fr6 BK258.out
      go_wp2
      go_meet
      case rel => exact ⟨_, (false), (be_), H', ⟨B7x52_⟩, ⟨B7x7_⟩, ⟨B7x6_⟩, ⟨B7x5_⟩, ⟨B7x0_⟩⟩
    case rest =>
     clear HC22
     try clear c18
     obtain ⟨kq, x36_21, rfl, HA, HJ21, HO_9, BK258, BK259, HB⟩ := hcut
     cases kq with
     | zero => exact absurd HA.out (by simp [spec_JoinBits.j1])
     | succ kj21 =>
      have H := HA.out
      clear HA
      simp only [spec_JoinBits.j1] at H
      by_cases c28 : x36_21 = true
      ·subst c28
       rw [if_pos rfl] at H
       simp only [Option.some.injEq, Prod.mk.injEq] at H
       obtain ⟨rfl, rfl, rfl, rfl, rfl, rfl, rfl, rfl⟩ := H
       try go_wp2
       replace HO_9 := Aside0.mk (Kd.S_drew HO_9.out)
       replace BK258 := Aside0.mk (blk_drew BK258.out)
       replace BK259 := Aside0.mk (blk_drew BK259.out)
       replace HB := Aside0.mk (below_drew1 HB.out)
       refine start_ (n := 5) (S := fun w' => w'.cell? ⟨gb258, 0, none⟩ = some (.int .i64 a1_0) ∧ w'.cell? ⟨gb258, 1, none⟩ = some (.int .i64 a1_1) ∧ w'.cell? ⟨gb258, 2, none⟩ = some (.int .i64 a1_2) ∧ w'.cell? ⟨gb258, 3, none⟩ = some (.int .i64 a1_3) ∧ w'.cell? ⟨gb258, 4, none⟩ = some (.bool a1_4) ∧ w'.cell? ⟨gb258, 5, none⟩ = some (.string a1_5)) (ds := []) #[false, false, false, false, false] B7x13_ rfl rfl ⟨(blk_cell BK258.out 0).trans rfl, (blk_cell BK258.out 1).trans rfl, (blk_cell BK258.out 2).trans rfl, (blk_cell BK258.out 3).trans rfl, (blk_cell BK258.out 4).trans rfl, (blk_cell BK258.out 5).trans rfl⟩ (fun hHeld => ?_)
       generalize wc.drew = w29 at HO_9 BK258 BK259 HB hHeld ⊢
       refine pure_ (i := 0) (N := some 37) (v := ?_) (a' := ?_) #[true, false, false, false, false] rfl rfl B7x13_ (fun _ _ _ h => h) (Or.inl ⟨by rfl, ?_⟩) ?_ ?_
       rotate_left
       ·intro w'
        go_simp
        with_reducible rfl
       rotate_left
       ·simp only [Act.put, List.setIfInBounds_toArray, List.set_cons_zero, List.set_cons_succ, i64_w, i32_w]
        rfl
       refine pure_ (i := 2) (N := some 6) (v := ?_) (a' := ?_) #[true, false, true, false, false] rfl rfl B7x13_ (fun _ _ _ h => h) (Or.inl ⟨by rfl, ?_⟩) ?_ ?_
       rotate_left
       ·intro w'
        go_simp
        with_reducible rfl
       rotate_left
       ·simp only [Act.put, List.setIfInBounds_toArray, List.set_cons_zero, List.set_cons_succ, i64_w, i32_w]
        rfl
       refine take_ (i := 1) (N := some 38) (v := ?_) (a' := ?_) #[true, true, true, false, false] rfl rfl B7x13_ (fun _ _ _ h => h) (Or.inl ⟨by rfl, ?_⟩) hHeld ?_ ?_
       rotate_left
       ·rintro w' ⟨s0, s1, s2, s3, s4, s5⟩
        go_simp
        with_reducible rfl
       rotate_left
       ·simp only [Act.put, List.setIfInBounds_toArray, List.set_cons_zero, List.set_cons_succ, i64_w, i32_w]
        rfl
       refine one_ (i := 3) (N := none) #[true, true, true, true, false] rfl rfl B7x13_ (by decide) (fun K hK => ?_)
       have hs30 : w29.cell? ⟨gb259, 0, none⟩ = some (.int .i64 0) := (blk_cell BK259.out 0).trans rfl
       have hfs30 := blk_frozen BK259.out 0
       have hns30_0 := NB258_259.out
       have hms30_0 := NB259_258.out
       have hs31 : w29.cell? ⟨gb259, 1, none⟩ = some (.int .i64 0) := (blk_cell BK259.out 1).trans rfl
       have hfs31 := blk_frozen BK259.out 1
       have hns31_0 := NB258_259.out
       have hms31_0 := NB259_258.out
       have hs32 : w29.cell? ⟨gb259, 2, none⟩ = some (.int .i64 0) := (blk_cell BK259.out 2).trans rfl
       have hfs32 := blk_frozen BK259.out 2
       have hns32_0 := NB258_259.out
       have hms32_0 := NB259_258.out
       have hs33 : w29.cell? ⟨gb259, 3, none⟩ = some (.int .i64 0) := (blk_cell BK259.out 3).trans rfl
       have hfs33 := blk_frozen BK259.out 3
       have hns33_0 := NB258_259.out
       have hms33_0 := NB259_258.out
       have hs34 : w29.cell? ⟨gb259, 4, none⟩ = some (.bool false) := (blk_cell BK259.out 4).trans rfl
       have hfs34 := blk_frozen BK259.out 4
       have hns34_0 := NB258_259.out
       have hms34_0 := NB259_258.out
       have hs35 : w29.cell? ⟨gb259, 5, none⟩ = some (.string (⟨#[]⟩ : ByteArray)) := (blk_cell BK259.out 5).trans rfl
       have hfs35 := blk_frozen BK259.out 5
       have hns35_0 := NB258_259.out
       have hms35_0 := NB259_258.out
       refine skip_ (w1 := ?_) (by rfl) rfl ?_ ?_
       rotate_left
       ·go_simp
        rfl
       refine hK.out _ _ ⟨((cell_far (p := ⟨gb259, _, none⟩) NB258_259.out _).trans (((cell_far (p := ⟨gb259, _, none⟩) NB258_259.out _).trans (((cell_far (p := ⟨gb259, _, none⟩) NB258_259.out _).trans (((cell_far (p := ⟨gb259, _, none⟩) NB258_259.out _).trans (((cell_far (p := ⟨gb259, _, none⟩) NB258_259.out _).trans (((cell_far (p := ⟨gb259, _, none⟩) NB258_259.out _).trans (hHeld.1)))))))))))), ((cell_far (p := ⟨gb259, _, none⟩) NB258_259.out _).trans (((cell_far (p := ⟨gb259, _, none⟩) NB258_259.out _).trans (((cell_far (p := ⟨gb259, _, none⟩) NB258_259.out _).trans (((cell_far (p := ⟨gb259, _, none⟩) NB258_259.out _).trans (((cell_far (p := ⟨gb259, _, none⟩) NB258_259.out _).trans (((cell_far (p := ⟨gb259, _, none⟩) NB258_259.out _).trans (hHeld.2.1)))))))))))), ((cell_far (p := ⟨gb259, _, none⟩) NB258_259.out _).trans (((cell_far (p := ⟨gb259, _, none⟩) NB258_259.out _).trans (((cell_far (p := ⟨gb259, _, none⟩) NB258_259.out _).trans (((cell_far (p := ⟨gb259, _, none⟩) NB258_259.out _).trans (((cell_far (p := ⟨gb259, _, none⟩) NB258_259.out _).trans (((cell_far (p := ⟨gb259, _, none⟩) NB258_259.out _).trans (hHeld.2.2.1)))))))))))), ((cell_far (p := ⟨gb259, _, none⟩) NB258_259.out _).trans (((cell_far (p := ⟨gb259, _, none⟩) NB258_259.out _).trans (((cell_far (p := ⟨gb259, _, none⟩) NB258_259.out _).trans (((cell_far (p := ⟨gb259, _, none⟩) NB258_259.out _).trans (((cell_far (p := ⟨gb259, _, none⟩) NB258_259.out _).trans (((cell_far (p := ⟨gb259, _, none⟩) NB258_259.out _).trans (hHeld.2.2.2.1)))))))))))), ((cell_far (p := ⟨gb259, _, none⟩) NB258_259.out _).trans (((cell_far (p := ⟨gb259, _, none⟩) NB258_259.out _).trans (((cell_far (p := ⟨gb259, _, none⟩) NB258_259.out _).trans (((cell_far (p := ⟨gb259, _, none⟩) NB258_259.out _).trans (((cell_far (p := ⟨gb259, _, none⟩) NB258_259.out _).trans (((cell_far (p := ⟨gb259, _, none⟩) NB258_259.out _).trans (hHeld.2.2.2.2.1)))))))))))), ((cell_far (p := ⟨gb259, _, none⟩) NB258_259.out _).trans (((cell_far (p := ⟨gb259, _, none⟩) NB258_259.out _).trans (((cell_far (p := ⟨gb259, _, none⟩) NB258_259.out _).trans (((cell_far (p := ⟨gb259, _, none⟩) NB258_259.out _).trans (((cell_far (p := ⟨gb259, _, none⟩) NB258_259.out _).trans (((cell_far (p := ⟨gb259, _, none⟩) NB258_259.out _).trans (hHeld.2.2.2.2.2))))))))))))⟩ (fun hHeld => ?_)
       clear hK K
       refine pure_ (i := 4) (N := some 8) (v := ?_) (a' := ?_) #[true, true, true, true, true] rfl rfl B7x13_ (fun _ _ _ h => h) (Or.inl ⟨by rfl, ?_⟩) ?_ ?_
       rotate_left
       ·intro w'
        go_simp
        with_reducible rfl
       rotate_left
       ·simp only [Act.put, List.setIfInBounds_toArray, List.set_cons_zero, List.set_cons_succ, i64_w, i32_w]
        rfl
       refine done_ B7x13_ ?_
       try go_wp2
       refine bodyPost_ret (results_list (rs := [.tmp 6, .cell 7 62, .tmp 8]) rfl (by simp) (.tmp (.cell gb259 62 #[.int .i64 a1_0, .int .i64 a1_1, .int .i64 a1_2, .int .i64 a1_3, .bool a1_4, .string a1_5] (0, 0) _ rfl B7x9_ Try.underlying62 rfl B7x13_ (.tmp .nil)))) rfl ?_
       exact ⟨_, by first | rfl | (simp [errW_none, errW_some] <;> rfl) | (simp [*, errW_none, errW_some] <;> rfl), Kd.R_N ((Kd.S_R (by (with_reducible repeat (first | apply Kd.S_alloc | apply Kd.S_drewN | apply Kd.S_drew)); exact Kd.S_mono (Kd.S_far (p := ⟨gb259, 5, none⟩) (Kd.S_far (p := ⟨gb259, 4, none⟩) (Kd.S_far (p := ⟨gb259, 3, none⟩) (Kd.S_far (p := ⟨gb259, 2, none⟩) (Kd.S_far (p := ⟨gb259, 1, none⟩) (Kd.S_far (p := ⟨gb259, 0, none⟩) (Kd.S_types HO_9.out BK259.out (by decide)) (fun _ hk => hk.2) (.int .i64 a1_0)) (fun _ hk => hk.2) (.int .i64 a1_1)) (fun _ hk => hk.2) (.int .i64 a1_2)) (fun _ hk => hk.2) (.int .i64 a1_3)) (fun _ hk => hk.2) (.bool a1_4)) (fun _ hk => hk.2) (.string a1_5)) (fun _ hk => hk.1)))), by repeat (first | (with_reducible first | exact HB.out | apply below_alloc | apply pw_below_drewN | apply below_drew1 | refine below_set ?_ GE258.out | refine below_set ?_ GE259.out) | exact HB.out)⟩
      ·replace c28 := Bool.eq_false_iff.mpr c28
       subst c28
       rw [if_neg (show ¬ (false = true) by decide)] at H
       have H' := Aside0.mk H
       clear H
       obtain ⟨Ao36, co36, eo36⟩ := Kd.S_slice HO_9.out
       subst eo36
       go_wp2
       go_loopg [10, 11] kj21 (fun kq v10 v11 w' => ∃ (x10_3 : Int) (x11_3 : Int), v10 = .int .i64 x10_3 ∧ v11 = .int .i64 x11_3 ∧ Aside0 (spec_JoinBits.l0 kq a2 t260 x10_3 x11_3 a1_0 a1_1 a1_2 a1_3 a1_4 a1_5 = some (r1, r2, r3, r4, r5, r6, r7, r8)) ∧ Aside0 (kq ≤ kj21) ∧ Aside0 (Kd.S k82 82 w' w.heap.size (fun k_ => (w.heap.size ≤ k_)) (.slice Ao36 t260.length co36) t260) ∧ Aside0 (w'.heap[gb258]? = some (.cells #[.int .i64 a1_0, .int .i64 a1_1, .int .i64 a1_2, .int .i64 a1_3, .bool a1_4, .string a1_5] 62 (0, 0))) ∧ Aside0 (w'.heap[gb259]? = some (.cells #[.int .i64 0, .int .i64 0, .int .i64 0, .int .i64 0, .bool false, .string (⟨#[]⟩ : ByteArray)] 62 (0, 0))) ∧ Aside0 (Below w.heap.size w w'))
       case atStart => exact ⟨((-1)), (wrap64 ((t260.length : Int) - 1)), (be_), (be_), H', ⟨Nat.le_refl _⟩, ⟨B7x7_⟩, ⟨B7x6_⟩, ⟨B7x5_⟩, ⟨B7x0_⟩⟩
       case round =>
        clear H'
        try clear c18
        try clear c28
        obtain ⟨x10_3, x11_3, rfl, rfl, HA, HK3, HO_9, BK258, BK259, HB⟩ := hrel
        cases gk with
        | zero => exact absurd HA.out (by simp [spec_JoinBits.l0])
        | succ k3 =>
         have H := HA.out
         clear HA
         simp only [spec_JoinBits.l0] at H
         by_cases c37 : x11_3 ≥ 0
         ·rw [if_pos c37] at H
          have c37b0 : decide (0 ≤ x11_3) = true := decide_eq_true c37
          clear c37
          have HC38 := Aside0.mk H
          clear H
          go_upto_block 1 with (fail)
          go_cut [10] (fun v10 wc => ∃ (kq : Nat) (x10_37 : Int), v10 = .int .i64 x10_37 ∧ Aside0 (spec_JoinBits.j3 kq a2 t260 x10_37 x11_3 a1_0 a1_1 a1_2 a1_3 a1_4 a1_5 = some (r1, r2, r3, r4, r5, r6, r7, r8)) ∧ Aside0 (kq ≤ k3) ∧ Aside0 (Kd.S k82 82 wc w.heap.size (fun k_ => (w.heap.size ≤ k_)) (.slice Ao36 t260.length co36) t260) ∧ Aside0 (wc.heap[gb258]? = some (.cells #[.int .i64 a1_0, .int .i64 a1_1, .int .i64 a1_2, .int .i64 a1_3, .bool a1_4, .string a1_5] 62 (0, 0))) ∧ Aside0 (wc.heap[gb259]? = some (.cells #[.int .i64 0, .int .i64 0, .int .i64 0, .int .i64 0, .bool false, .string (⟨#[]⟩ : ByteArray)] 62 (0, 0))) ∧ Aside0 (Below w.heap.size w wc))
          case first =>
           have H := HC38.out
           clear HC38
           by_cases c39 : 0 ≤ x11_3
           rotate_left
           ·rw [if_neg c39] at H
            exact absurd H (by simp)
           rw [if_pos c39] at H
           have c39b0 : decide (0 ≤ x11_3) = true := decide_eq_true c39
           clear c39
           (first | rw [c39b0] | (simp only [i64_w, i32_w]; rw [c39b0]) | skip)
           by_cases c40 : x11_3 < (t260.length : Int)
           rotate_left
           ·rw [if_neg c40] at H
            exact absurd H (by simp)
           rw [if_pos c40] at H
           have c40b0 : decide (x11_3 < (t260.length : Int)) = true := decide_eq_true c40
           clear c40
           by_cases c41 : ((rd_T82 t260 x11_3).f0) = a1_0
           ·rw [if_pos c41] at H
            have c41b0 := beq_iff_eq.mpr c41
            have c41b1 := bne_eq_false_iff_eq.mpr c41
            clear c41
            by_cases c42 : ((rd_T82 t260 x11_3).f1) = a1_2
            ·rw [if_pos c42] at H
             have c42b0 := beq_iff_eq.mpr c42
             have c42b1 := bne_eq_false_iff_eq.mpr c42
             clear c42
             have H' := Aside0.mk H
             clear H
             try go_wp2
             replace HO_9 := Aside0.mk (Kd.S_drew HO_9.out)
             replace BK258 := Aside0.mk (blk_drew BK258.out)
             replace BK259 := Aside0.mk (blk_drew BK259.out)
             replace HB := Aside0.mk (below_drew1 HB.out)
             have p265 : 0 ≤ (x11_3 : Int) := of_decide_eq_true B7x3_
             have q265 : x11_3 < (t260.length : Int) := of_decide_eq_true B7x3_
             obtain ⟨ad265, A265_2, c265_2, A265_3, c265_3, e265, hx265_0, hx265_1, hx265_2, hx265_3, hx265_4, hx265_5, hl265_2, hi265_2, hl265_3, hi265_3⟩ := at_T82 (Kd.S_reads' HO_9.out).2.2 x11_3 p265 q265
             cases e265
             obtain ⟨ce265, hce265, hMe265, hcc265⟩ := Kd.S_get HO_9.out z82 x11_3 p265 B7x34_
             obtain ⟨ve265_2, ve265_3, rfl, ge265_2, ge265_3⟩ := k82_openM hMe265
             have hv265_2 := hcc265 2 _ rfl
             rw [add_field _ _ 2 (by omega)] at hv265_2
             replace hv265_2 := Option.some.inj (hv265_2.symm.trans hx265_2)
             rw [hv265_2] at ge265_2
             have HL265_2 := Aside0.mk (show Kd.R Kd.string 9 _ _ _ _ ((rd_T82 t260 x11_3).f2) from ge265_2)
             clear hv265_2 ge265_2
             have HX265_2 := Aside0.mk hx265_2
             have hv265_3 := hcc265 3 _ rfl
             rw [add_field _ _ 3 (by omega)] at hv265_3
             replace hv265_3 := Option.some.inj (hv265_3.symm.trans hx265_3)
             rw [hv265_3] at ge265_3
             have HL265_3 := Aside0.mk (show Kd.R (Kd.int .i64) 3 _ _ _ _ ((rd_T82 t260 x11_3).f3) from ge265_3)
             clear hv265_3 ge265_3
             have HX265_3 := Aside0.mk hx265_3
             clear hcc265 hce265
             have HR265_2 := Aside0.mk hi265_2
             have HC265_2 := Aside0.mk hl265_2
             clear hi265_2 hl265_2
             have HR265_3 := Aside0.mk hi265_3
             have HC265_3 := Aside0.mk hl265_3
             clear hi265_3 hl265_3
             replace p265 := eq_true p265
             replace q265 := eq_true q265
             have p266 : 0 ≤ (x11_3 : Int) := of_decide_eq_true B7x3_
             have q266 : x11_3 < (t260.length : Int) := of_decide_eq_true B7x3_
             obtain ⟨ad266, A266_2, c266_2, A266_3, c266_3, e266, hx266_0, hx266_1, hx266_2, hx266_3, hx266_4, hx266_5, hl266_2, hi266_2, hl266_3, hi266_3⟩ := at_T82 (Kd.S_reads' HO_9.out).2.2 x11_3 p266 q266
             obtain rfl : ad265 = ad266 := (by injection e266)
             obtain ⟨ce266, hce266, hMe266, hcc266⟩ := Kd.S_get HO_9.out z82 x11_3 p266 B7x47_
             obtain ⟨ve266_2, ve266_3, rfl, ge266_2, ge266_3⟩ := k82_openM hMe266
             have hv266_2 := hcc266 2 _ rfl
             rw [add_field _ _ 2 (by omega)] at hv266_2
             replace hv266_2 := Option.some.inj (hv266_2.symm.trans hx266_2)
             rw [hv266_2] at ge266_2
             have HL266_2 := Aside0.mk (show Kd.R Kd.string 9 _ _ _ _ ((rd_T82 t260 x11_3).f2) from ge266_2)
             clear hv266_2 ge266_2
             have HX266_2 := Aside0.mk hx266_2
             have hv266_3 := hcc266 3 _ rfl
             rw [add_field _ _ 3 (by omega)] at hv266_3
             replace hv266_3 := Option.some.inj (hv266_3.symm.trans hx266_3)
             rw [hv266_3] at ge266_3
             have HL266_3 := Aside0.mk (show Kd.R (Kd.int .i64) 3 _ _ _ _ ((rd_T82 t260 x11_3).f3) from ge266_3)
             clear hv266_3 ge266_3
             have HX266_3 := Aside0.mk hx266_3
             clear hcc266 hce266
             have HR266_2 := Aside0.mk hi266_2
             have HC266_2 := Aside0.mk hl266_2
             clear hi266_2 hl266_2
             have HR266_3 := Aside0.mk hi266_3
             have HC266_3 := Aside0.mk hl266_3
             clear hi266_3 hl266_3
             replace p266 := eq_true p266
             replace q266 := eq_true q266
             have ea_ := Option.some.inj (hx265_2.symm.trans hx266_2)
             injection ea_ with ea_ en_ ec_
             subst ea_
             subst ec_
             clear en_
             have ea_ := Option.some.inj (hx265_3.symm.trans hx266_3)
             injection ea_ with ea_ en_ ec_
             subst ea_
             subst ec_
             clear en_
             refine start_ (n := 18) (S := fun w' => w'.cell? ⟨gb258, 0, none⟩ = some (.int .i64 a1_0) ∧ w'.cell? ⟨gb258, 1, none⟩ = some (.int .i64 a1_1) ∧ w'.cell? ⟨gb258, 2, none⟩ = some (.int .i64 a1_2) ∧ w'.cell? ⟨gb258, 3, none⟩ = some (.int .i64 a1_3) ∧ w'.cell? ⟨gb258, 4, none⟩ = some (.bool a1_4) ∧ w'.cell? ⟨gb258, 5, none⟩ = some (.string a1_5) ∧ w'.cell? (ad265.add ((x11_3).toNat * 6)) = some (.int .i64 ((rd_T82 t260 x11_3).f0)) ∧ w'.cell? ⟨(ad265.add ((x11_3).toNat * 6)).block, (ad265.add ((x11_3).toNat * 6)).off + 1, none⟩ = some (.int .i64 ((rd_T82 t260 x11_3).f1)) ∧ w'.cell? ⟨(ad265.add ((x11_3).toNat * 6)).block, (ad265.add ((x11_3).toNat * 6)).off + 2, none⟩ = some (.slice A265_2 ((rd_T82 t260 x11_3).f2).length c265_2) ∧ w'.cell? ⟨(ad265.add ((x11_3).toNat * 6)).block, (ad265.add ((x11_3).toNat * 6)).off + 3, none⟩ = some (.slice A265_3 ((rd_T82 t260 x11_3).f3).length c265_3) ∧ w'.cell? ⟨(ad265.add ((x11_3).toNat * 6)).block, (ad265.add ((x11_3).toNat * 6)).off + 4, none⟩ = some (.int .i64 ((rd_T82 t260 x11_3).f4)) ∧ w'.cell? ⟨(ad265.add ((x11_3).toNat * 6)).block, (ad265.add ((x11_3).toNat * 6)).off + 5, none⟩ = some (.int .i64 ((rd_T82 t260 x11_3).f5)) ∧ w'.cell? (ad265.add ((x11_3).toNat * 6)) = some (.int .i64 ((rd_T82 t260 x11_3).f0)) ∧ w'.cell? ⟨(ad265.add ((x11_3).toNat * 6)).block, (ad265.add ((x11_3).toNat * 6)).off + 1, none⟩ = some (.int .i64 ((rd_T82 t260 x11_3).f1)) ∧ w'.cell? ⟨(ad265.add ((x11_3).toNat * 6)).block, (ad265.add ((x11_3).toNat * 6)).off + 2, none⟩ = some (.slice A265_2 ((rd_T82 t260 x11_3).f2).length c265_2) ∧ w'.cell? ⟨(ad265.add ((x11_3).toNat * 6)).block, (ad265.add ((x11_3).toNat * 6)).off + 3, none⟩ = some (.slice A265_3 ((rd_T82 t260 x11_3).f3).length c265_3) ∧ w'.cell? ⟨(ad265.add ((x11_3).toNat * 6)).block, (ad265.add ((x11_3).toNat * 6)).off + 4, none⟩ = some (.int .i64 ((rd_T82 t260 x11_3).f4)) ∧ w'.cell? ⟨(ad265.add ((x11_3).toNat * 6)).block, (ad265.add ((x11_3).toNat * 6)).off + 5, none⟩ = some (.int .i64 ((rd_T82 t260 x11_3).f5))) (ds := []) #[false, false, false, false, false, false, false, false, false, false, false, false, false, false, false, false, false, false] B7x13_ rfl rfl ⟨(blk_cell BK258.out 0).trans rfl, (blk_cell BK258.out 1).trans rfl, (blk_cell BK258.out 2).trans rfl, (blk_cell BK258.out 3).trans rfl, (blk_cell BK258.out 4).trans rfl, (blk_cell BK258.out 5).trans rfl, hx265_0, hx265_1, hx265_2, hx265_3, hx265_4, hx265_5, hx266_0, hx266_1, hx266_2, hx266_3, hx266_4, hx266_5⟩ (fun hHeld => ?_); refine with_tabW spec_JoinBits.tab10 spec_JoinBits.bits10 (fun HT_ HW_ => ?_)
             generalize wr.drew = w43 at HO_9 BK258 BK259 HB HL265_2 HL265_3 HL266_2 HL266_3 HR265_2 HR265_3 HR266_2 HR266_3 HX265_2 HX265_3 HX266_2 HX266_3 hx265_0 hx265_1 hx265_2 hx265_3 hx265_4 hx265_5 hx266_0 hx266_1 hx266_2 hx266_3 hx266_4 hx266_5 hHeld ⊢
             refine pu_ 0 46 HT_ ?_
             refine pu_ 1 47 HT_ ?_
             refine pu_ 2 48 HT_ ?_
             refine pu_ 3 49 HT_ ?_
             refine pu_ 5 51 HT_ ?_
             refine ta_ 4 50 HT_ HW_ hHeld ?_
             refine ta_ 6 52 HT_ HW_ hHeld ?_
             refine pu_ 7 53 HT_ ?_
             refine pu_ 8 54 HT_ ?_
             refine pu_ 9 55 HT_ ?_
             refine pu_ 10 56 HT_ ?_
             refine pu_ 11 57 HT_ ?_
             refine pu_ 12 58 HT_ ?_
             refine pu_ 14 60 HT_ ?_
             refine ta_ 13 59 HT_ HW_ hHeld ?_
             refine ta_ 15 61 HT_ HW_ hHeld ?_
             refine pu_ 16 62 HT_ ?_
             refine pu_ 17 63 HT_ ?_
             refine done_ (done_of HT_.out B7x13_) ?_
             try go_wp2
             go_meet
             case rel => exact ⟨_, (x11_3), (be_), H', ⟨B7x28_⟩, ⟨B7x7_⟩, ⟨B7x6_⟩, ⟨B7x5_⟩, ⟨B7x0_⟩⟩
            ·rw [if_neg c42] at H
             have c42b0 := beq_eq_false_iff_ne.mpr c42
             have c42b1 := bne_iff_ne.mpr c42
             have H' := Aside0.mk H
             clear H
             try go_wp2
             replace HO_9 := Aside0.mk (Kd.S_drew HO_9.out)
             replace BK258 := Aside0.mk (blk_drew BK258.out)
             replace BK259 := Aside0.mk (blk_drew BK259.out)
             replace HB := Aside0.mk (below_drew1 HB.out)
             have p265 : 0 ≤ (x11_3 : Int) := of_decide_eq_true B7x3_
             have q265 : x11_3 < (t260.length : Int) := of_decide_eq_true B7x3_
             obtain ⟨ad265, A265_2, c265_2, A265_3, c265_3, e265, hx265_0, hx265_1, hx265_2, hx265_3, hx265_4, hx265_5, hl265_2, hi265_2, hl265_3, hi265_3⟩ := at_T82 (Kd.S_reads' HO_9.out).2.2 x11_3 p265 q265
             cases e265
             obtain ⟨ce265, hce265, hMe265, hcc265⟩ := Kd.S_get HO_9.out z82 x11_3 p265 B7x34_
             obtain ⟨ve265_2, ve265_3, rfl, ge265_2, ge265_3⟩ := k82_openM hMe265
             have hv265_2 := hcc265 2 _ rfl
             rw [add_field _ _ 2 (by omega)] at hv265_2
             replace hv265_2 := Option.some.inj (hv265_2.symm.trans hx265_2)
             rw [hv265_2] at ge265_2
             have HL265_2 := Aside0.mk (show Kd.R Kd.string 9 _ _ _ _ ((rd_T82 t260 x11_3).f2) from ge265_2)
             clear hv265_2 ge265_2
             have HX265_2 := Aside0.mk hx265_2
             have hv265_3 := hcc265 3 _ rfl
             rw [add_field _ _ 3 (by omega)] at hv265_3
             replace hv265_3 := Option.some.inj (hv265_3.symm.trans hx265_3)
             rw [hv265_3] at ge265_3
             have HL265_3 := Aside0.mk (show Kd.R (Kd.int .i64) 3 _ _ _ _ ((rd_T82 t260 x11_3).f3) from ge265_3)
             clear hv265_3 ge265_3
             have HX265_3 := Aside0.mk hx265_3
             clear hcc265 hce265
             have HR265_2 := Aside0.mk hi265_2
             have HC265_2 := Aside0.mk hl265_2
             clear hi265_2 hl265_2
             have HR265_3 := Aside0.mk hi265_3
             have HC265_3 := Aside0.mk hl265_3
             clear hi265_3 hl265_3
             replace p265 := eq_true p265
             replace q265 := eq_true q265
             have p266 : 0 ≤ (x11_3 : Int) := of_decide_eq_true B7x3_
             have q266 : x11_3 < (t260.length : Int) := of_decide_eq_true B7x3_
             obtain ⟨ad266, A266_2, c266_2, A266_3, c266_3, e266, hx266_0, hx266_1, hx266_2, hx266_3, hx266_4, hx266_5, hl266_2, hi266_2, hl266_3, hi266_3⟩ := at_T82 (Kd.S_reads' HO_9.out).2.2 x11_3 p266 q266
             obtain rfl : ad265 = ad266 := (by injection e266)
             obtain ⟨ce266, hce266, hMe266, hcc266⟩ := Kd.S_get HO_9.out z82 x11_3 p266 B7x47_
             obtain ⟨ve266_2, ve266_3, rfl, ge266_2, ge266_3⟩ := k82_openM hMe266
             have hv266_2 := hcc266 2 _ rfl
             rw [add_field _ _ 2 (by omega)] at hv266_2
             replace hv266_2 := Option.some.inj (hv266_2.symm.trans hx266_2)
             rw [hv266_2] at ge266_2
             have HL266_2 := Aside0.mk (show Kd.R Kd.string 9 _ _ _ _ ((rd_T82 t260 x11_3).f2) from ge266_2)
             clear hv266_2 ge266_2
             have HX266_2 := Aside0.mk hx266_2
             have hv266_3 := hcc266 3 _ rfl
             rw [add_field _ _ 3 (by omega)] at hv266_3
             replace hv266_3 := Option.some.inj (hv266_3.symm.trans hx266_3)
             rw [hv266_3] at ge266_3
             have HL266_3 := Aside0.mk (show Kd.R (Kd.int .i64) 3 _ _ _ _ ((rd_T82 t260 x11_3).f3) from ge266_3)
             clear hv266_3 ge266_3
             have HX266_3 := Aside0.mk hx266_3
             clear hcc266 hce266
             have HR266_2 := Aside0.mk hi266_2
             have HC266_2 := Aside0.mk hl266_2
             clear hi266_2 hl266_2
             have HR266_3 := Aside0.mk hi266_3
             have HC266_3 := Aside0.mk hl266_3
             clear hi266_3 hl266_3
             replace p266 := eq_true p266
             replace q266 := eq_true q266
             have ea_ := Option.some.inj (hx265_2.symm.trans hx266_2)
             injection ea_ with ea_ en_ ec_
             subst ea_
             subst ec_
             clear en_
             have ea_ := Option.some.inj (hx265_3.symm.trans hx266_3)
             injection ea_ with ea_ en_ ec_
             subst ea_
             subst ec_
             clear en_
             refine start_ (n := 18) (S := fun w' => w'.cell? ⟨gb258, 0, none⟩ = some (.int .i64 a1_0) ∧ w'.cell? ⟨gb258, 1, none⟩ = some (.int .i64 a1_1) ∧ w'.cell? ⟨gb258, 2, none⟩ = some (.int .i64 a1_2) ∧ w'.cell? ⟨gb258, 3, none⟩ = some (.int .i64 a1_3) ∧ w'.cell? ⟨gb258, 4, none⟩ = some (.bool a1_4) ∧ w'.cell? ⟨gb258, 5, none⟩ = some (.string a1_5) ∧ w'.cell? (ad265.add ((x11_3).toNat * 6)) = some (.int .i64 ((rd_T82 t260 x11_3).f0)) ∧ w'.cell? ⟨(ad265.add ((x11_3).toNat * 6)).block, (ad265.add ((x11_3).toNat * 6)).off + 1, none⟩ = some (.int .i64 ((rd_T82 t260 x11_3).f1)) ∧ w'.cell? ⟨(ad265.add ((x11_3).toNat * 6)).block, (ad265.add ((x11_3).toNat * 6)).off + 2, none⟩ = some (.slice A265_2 ((rd_T82 t260 x11_3).f2).length c265_2) ∧ w'.cell? ⟨(ad265.add ((x11_3).toNat * 6)).block, (ad265.add ((x11_3).toNat * 6)).off + 3, none⟩ = some (.slice A265_3 ((rd_T82 t260 x11_3).f3).length c265_3) ∧ w'.cell? ⟨(ad265.add ((x11_3).toNat * 6)).block, (ad265.add ((x11_3).toNat * 6)).off + 4, none⟩ = some (.int .i64 ((rd_T82 t260 x11_3).f4)) ∧ w'.cell? ⟨(ad265.add ((x11_3).toNat * 6)).block, (ad265.add ((x11_3).toNat * 6)).off + 5, none⟩ = some (.int .i64 ((rd_T82 t260 x11_3).f5)) ∧ w'.cell? (ad265.add ((x11_3).toNat * 6)) = some (.int .i64 ((rd_T82 t260 x11_3).f0)) ∧ w'.cell? ⟨(ad265.add ((x11_3).toNat * 6)).block, (ad265.add ((x11_3).toNat * 6)).off + 1, none⟩ = some (.int .i64 ((rd_T82 t260 x11_3).f1)) ∧ w'.cell? ⟨(ad265.add ((x11_3).toNat * 6)).block, (ad265.add ((x11_3).toNat * 6)).off + 2, none⟩ = some (.slice A265_2 ((rd_T82 t260 x11_3).f2).length c265_2) ∧ w'.cell? ⟨(ad265.add ((x11_3).toNat * 6)).block, (ad265.add ((x11_3).toNat * 6)).off + 3, none⟩ = some (.slice A265_3 ((rd_T82 t260 x11_3).f3).length c265_3) ∧ w'.cell? ⟨(ad265.add ((x11_3).toNat * 6)).block, (ad265.add ((x11_3).toNat * 6)).off + 4, none⟩ = some (.int .i64 ((rd_T82 t260 x11_3).f4)) ∧ w'.cell? ⟨(ad265.add ((x11_3).toNat * 6)).block, (ad265.add ((x11_3).toNat * 6)).off + 5, none⟩ = some (.int .i64 ((rd_T82 t260 x11_3).f5))) (ds := []) #[false, false, false, false, false, false, false, false, false, false, false, false, false, false, false, false, false, false] B7x13_ rfl rfl ⟨(blk_cell BK258.out 0).trans rfl, (blk_cell BK258.out 1).trans rfl, (blk_cell BK258.out 2).trans rfl, (blk_cell BK258.out 3).trans rfl, (blk_cell BK258.out 4).trans rfl, (blk_cell BK258.out 5).trans rfl, hx265_0, hx265_1, hx265_2, hx265_3, hx265_4, hx265_5, hx266_0, hx266_1, hx266_2, hx266_3, hx266_4, hx266_5⟩ (fun hHeld => ?_); refine with_tabW spec_JoinBits.tab10 spec_JoinBits.bits10 (fun HT_ HW_ => ?_)
             generalize wr.drew = w44 at HO_9 BK258 BK259 HB HL265_2 HL265_3 HL266_2 HL266_3 HR265_2 HR265_3 HR266_2 HR266_3 HX265_2 HX265_3 HX266_2 HX266_3 hx265_0 hx265_1 hx265_2 hx265_3 hx265_4 hx265_5 hx266_0 hx266_1 hx266_2 hx266_3 hx266_4 hx266_5 hHeld ⊢
             refine pu_ 0 46 HT_ ?_
             refine pu_ 1 47 HT_ ?_
             refine pu_ 2 48 HT_ ?_
             refine pu_ 3 49 HT_ ?_
             refine pu_ 5 51 HT_ ?_
             refine ta_ 4 50 HT_ HW_ hHeld ?_
             refine ta_ 6 52 HT_ HW_ hHeld ?_
             refine pu_ 7 53 HT_ ?_
             refine pu_ 8 54 HT_ ?_
             refine pu_ 9 55 HT_ ?_
             refine pu_ 10 56 HT_ ?_
             refine pu_ 11 57 HT_ ?_
             refine pu_ 12 58 HT_ ?_
             refine pu_ 14 60 HT_ ?_
             refine ta_ 13 59 HT_ HW_ hHeld ?_
             refine ta_ 15 61 HT_ HW_ hHeld ?_
             refine pu_ 16 62 HT_ ?_
             refine pu_ 17 63 HT_ ?_
             refine done_ (done_of HT_.out B7x13_) ?_
             try go_wp2
             go_meet
             case rel => exact ⟨_, (x10_3), (be_), H', ⟨B7x28_⟩, ⟨B7x7_⟩, ⟨B7x6_⟩, ⟨B7x5_⟩, ⟨B7x0_⟩⟩
           ·rw [if_neg c41] at H
            have c41b0 := beq_eq_false_iff_ne.mpr c41
            have c41b1 := bne_iff_ne.mpr c41
            have H' := Aside0.mk H
            clear H
            try go_wp2
            replace HO_9 := Aside0.mk (Kd.S_drew HO_9.out)
            replace BK258 := Aside0.mk (blk_drew BK258.out)
            replace BK259 := Aside0.mk (blk_drew BK259.out)
            replace HB := Aside0.mk (below_drew1 HB.out)
            have p265 : 0 ≤ (x11_3 : Int) := of_decide_eq_true B7x3_
            have q265 : x11_3 < (t260.length : Int) := of_decide_eq_true B7x3_
            obtain ⟨ad265, A265_2, c265_2, A265_3, c265_3, e265, hx265_0, hx265_1, hx265_2, hx265_3, hx265_4, hx265_5, hl265_2, hi265_2, hl265_3, hi265_3⟩ := at_T82 (Kd.S_reads' HO_9.out).2.2 x11_3 p265 q265
            cases e265
            obtain ⟨ce265, hce265, hMe265, hcc265⟩ := Kd.S_get HO_9.out z82 x11_3 p265 B7x34_
            obtain ⟨ve265_2, ve265_3, rfl, ge265_2, ge265_3⟩ := k82_openM hMe265
            have hv265_2 := hcc265 2 _ rfl
            rw [add_field _ _ 2 (by omega)] at hv265_2
            replace hv265_2 := Option.some.inj (hv265_2.symm.trans hx265_2)
            rw [hv265_2] at ge265_2
            have HL265_2 := Aside0.mk (show Kd.R Kd.string 9 _ _ _ _ ((rd_T82 t260 x11_3).f2) from ge265_2)
            clear hv265_2 ge265_2
            have HX265_2 := Aside0.mk hx265_2
            have hv265_3 := hcc265 3 _ rfl
            rw [add_field _ _ 3 (by omega)] at hv265_3
            replace hv265_3 := Option.some.inj (hv265_3.symm.trans hx265_3)
            rw [hv265_3] at ge265_3
            have HL265_3 := Aside0.mk (show Kd.R (Kd.int .i64) 3 _ _ _ _ ((rd_T82 t260 x11_3).f3) from ge265_3)
            clear hv265_3 ge265_3
            have HX265_3 := Aside0.mk hx265_3
            clear hcc265 hce265
            have HR265_2 := Aside0.mk hi265_2
            have HC265_2 := Aside0.mk hl265_2
            clear hi265_2 hl265_2
            have HR265_3 := Aside0.mk hi265_3
            have HC265_3 := Aside0.mk hl265_3
            clear hi265_3 hl265_3
            replace p265 := eq_true p265
            replace q265 := eq_true q265
            refine start_ (n := 18) (S := fun w' => w'.cell? ⟨gb258, 0, none⟩ = some (.int .i64 a1_0) ∧ w'.cell? ⟨gb258, 1, none⟩ = some (.int .i64 a1_1) ∧ w'.cell? ⟨gb258, 2, none⟩ = some (.int .i64 a1_2) ∧ w'.cell? ⟨gb258, 3, none⟩ = some (.int .i64 a1_3) ∧ w'.cell? ⟨gb258, 4, none⟩ = some (.bool a1_4) ∧ w'.cell? ⟨gb258, 5, none⟩ = some (.string a1_5) ∧ w'.cell? (ad265.add ((x11_3).toNat * 6)) = some (.int .i64 ((rd_T82 t260 x11_3).f0)) ∧ w'.cell? ⟨(ad265.add ((x11_3).toNat * 6)).block, (ad265.add ((x11_3).toNat * 6)).off + 1, none⟩ = some (.int .i64 ((rd_T82 t260 x11_3).f1)) ∧ w'.cell? ⟨(ad265.add ((x11_3).toNat * 6)).block, (ad265.add ((x11_3).toNat * 6)).off + 2, none⟩ = some (.slice A265_2 ((rd_T82 t260 x11_3).f2).length c265_2) ∧ w'.cell? ⟨(ad265.add ((x11_3).toNat * 6)).block, (ad265.add ((x11_3).toNat * 6)).off + 3, none⟩ = some (.slice A265_3 ((rd_T82 t260 x11_3).f3).length c265_3) ∧ w'.cell? ⟨(ad265.add ((x11_3).toNat * 6)).block, (ad265.add ((x11_3).toNat * 6)).off + 4, none⟩ = some (.int .i64 ((rd_T82 t260 x11_3).f4)) ∧ w'.cell? ⟨(ad265.add ((x11_3).toNat * 6)).block, (ad265.add ((x11_3).toNat * 6)).off + 5, none⟩ = some (.int .i64 ((rd_T82 t260 x11_3).f5))) (ds := []) #[false, false, false, false, false, false, false, false, false, false, false, false, false, false, false, false, false, false] B7x13_ rfl rfl ⟨(blk_cell BK258.out 0).trans rfl, (blk_cell BK258.out 1).trans rfl, (blk_cell BK258.out 2).trans rfl, (blk_cell BK258.out 3).trans rfl, (blk_cell BK258.out 4).trans rfl, (blk_cell BK258.out 5).trans rfl, hx265_0, hx265_1, hx265_2, hx265_3, hx265_4, hx265_5⟩ (fun hHeld => ?_); refine with_tabW spec_JoinBits.tab10 spec_JoinBits.bits10 (fun HT_ HW_ => ?_)
            generalize wr.drew = w45 at HO_9 BK258 BK259 HB HL265_2 HL265_3 HR265_2 HR265_3 HX265_2 HX265_3 hx265_0 hx265_1 hx265_2 hx265_3 hx265_4 hx265_5 hHeld ⊢
            refine pu_ 0 46 HT_ ?_
            refine pu_ 1 47 HT_ ?_
            refine pu_ 2 48 HT_ ?_
            refine pu_ 3 49 HT_ ?_
            refine pu_ 5 51 HT_ ?_
            refine ta_ 4 50 HT_ HW_ hHeld ?_
            refine ta_ 6 52 HT_ HW_ hHeld ?_
            refine pu_ 7 53 HT_ ?_
            refine pu_ 8 54 HT_ ?_
            refine of_ 9 55 HT_ ?_
            refine of_ 10 56 HT_ ?_
            refine of_ 11 57 HT_ ?_
            refine of_ 12 58 HT_ ?_
            refine of_ 13 59 HT_ ?_
            refine of_ 14 60 HT_ ?_
            refine of_ 15 61 HT_ ?_
            refine of_ 16 62 HT_ ?_
            refine pu_ 17 63 HT_ ?_
            refine done_ (done_of HT_.out B7x13_) ?_
            try go_wp2
            go_meet
            case rel => exact ⟨_, (x10_3), (be_), H', ⟨B7x28_⟩, ⟨B7x7_⟩, ⟨B7x6_⟩, ⟨B7x5_⟩, ⟨B7x0_⟩⟩
          case rest =>
           clear HC38
           obtain ⟨kq, x10_37, rfl, HA, HJ37, HO_9, BK258, BK259, HB⟩ := hcut
           cases kq with
           | zero => exact absurd HA.out (by simp [spec_JoinBits.j3])
           | succ kj37 =>
            have H := HA.out
            clear HA
            simp only [spec_JoinBits.j3] at H
            have H' := Aside0.mk H
            clear H
            go_wp2
            go_roundg kj37
            case measure => have := HJ4.out; have := HJ21.out; have := HK3.out; have := HJ37.out; omega
            case rel => exact ⟨(x10_37), (wrap64 (x11_3 - 1)), (be_), (be_), H', ⟨(by have := HJ4.out; have := HJ21.out; have := HK3.out; have := HJ37.out; omega)⟩, ⟨B7x7_⟩, ⟨B7x6_⟩, ⟨B7x5_⟩, ⟨B7x0_⟩⟩
         ·rw [if_neg c37] at H
          have c37b0 : decide (0 ≤ x11_3) = false := decide_eq_false c37
          clear c37
          have HC46 := Aside0.mk H
          clear H
          go_upto_if 66 with (fail)
          go_cut [9, 10] (fun v9 v10 wc => ∃ (kq : Nat) (x9_45 : List (S82)) (x10_45 : Int), v10 = .int .i64 x10_45 ∧ Aside0 (spec_JoinBits.j5 kq x9_45 x10_45 a1_0 a1_1 a1_2 a1_3 a1_4 a1_5 = some (r1, r2, r3, r4, r5, r6, r7, r8)) ∧ Aside0 (kq ≤ k3) ∧ Aside0 (Kd.S k82 82 wc w.heap.size (fun k_ => (w.heap.size ≤ k_)) v9 x9_45) ∧ Aside0 (wc.heap[gb258]? = some (.cells #[.int .i64 a1_0, .int .i64 a1_1, .int .i64 a1_2, .int .i64 a1_3, .bool a1_4, .string a1_5] 62 (0, 0))) ∧ Aside0 (wc.heap[gb259]? = some (.cells #[.int .i64 0, .int .i64 0, .int .i64 0, .int .i64 0, .bool false, .string (⟨#[]⟩ : ByteArray)] 62 (0, 0))) ∧ Aside0 (Below w.heap.size w wc))
          case first =>
           have H := HC46.out
           clear HC46
           by_cases c47 : x10_3 < 0
           ·rw [if_pos c47] at H
            have c47b0 : decide (x10_3 < 0) = true := decide_eq_true c47
            clear c47
            (first | rw [c47b0] | (simp only [i64_w, i32_w]; rw [c47b0]) | skip)
            by_cases c48 : t260.length < 1759218604441
            rotate_left
            ·rw [if_neg c48] at H
             exact absurd H (by simp)
            rw [if_pos c48] at H
            have LMc48 := Aside0.mk c48
            clear c48
            obtain ⟨y267, hy267⟩ : ∃ y_ : List (S82), y_ = (t260 ++ [(⟨a1_0, a1_2, ([] : List ByteArray), ([] : List Int), 0, wrap64 (a2 + 10)⟩ : S82)]) := ⟨_, rfl⟩
            replace H : (spec_JoinBits.l1 k3 y267 a1_0 a1_1 a1_2 a1_3 a1_4 a1_5) = some (r1, r2, r3, r4, r5, r6, r7, r8) := by first | (rw [hy267]; with_reducible exact H) | (have H2_ := (Option.bind_some _ _).symm.trans H; rw [hy267]; with_reducible exact H2_) | (have H2_ := (Option.bind_some _ _).symm.trans H; with_reducible exact H2_) | with_reducible exact H | (rw [hy267]; exact H) | exact H
            have Ny267 := Aside0.mk hy267
            clear hy267
            have H' := Aside0.mk H
            clear H
            have hnb49 := NB258_259.out
            have hnc49 := NB259_258.out
            obtain ⟨hcz50_0, hcz50_1, hcz50_2, hcz50_3, hcz50_4, hcz50_5⟩ := cl6 BK258.out
            obtain ⟨hfz50_0, hfz50_1, hfz50_2, hfz50_3, hfz50_4, hfz50_5⟩ := fr6 BK258.out
            go_wp2_with (first | ((with_reducible refine gate_builtin (b := .append) (xs := #[.tmp 67, .tmp 75]) rfl ?_); at_builtin; refine Kd.S_append k82 (w0 := w) w.heap.size rfl (.tmp 67) (.tmp 75) 68 82 (.agg #[(.int .i64 0), (.int .i64 0), (.slice none 0 0), (.slice none 0 0), (.int .i64 0), (.int .i64 0)]) 80 rfl Try.underlying68 info82 rfl (by decide) (by omega) (.slice Ao36 t260.length co36) t260 (⟨a1_0, a1_2, ([] : List ByteArray), ([] : List Int), 0, wrap64 (a2 + 10)⟩ : S82) [.int .i64 a1_0, .int .i64 a1_2, .slice none 0 0, .slice none 0 0, .int .i64 0, .int .i64 (wrap64 (a2 + 10))] (fun k_ => (w.heap.size ≤ k_)) (fun _ => False) rfl rfl ?aP (fun k_ hk_ => hk_.elim) ?aF ?aO ?aB ?aS ?aL ?_; (case aP => exact k82_mkM _ _ _ (⟨a1_0, a1_2, ([] : List ByteArray), ([] : List Int), 0, wrap64 (a2 + 10)⟩ : S82) (Kd.R_nil _ _ _ _ _) (Kd.R_nil _ _ _ _ _)); (case aB => exact B7x0_); (case aF => exact (fun k_ hk => (Nat.le_trans (below_size B7x0_) hk))); (case aO => exact B7x42_); (case aS => exact B7x33_); (case aL => have := LMc48.out; omega); intro v268 w51 ho hb hg hat; rw [← Ny267.out] at ho; replace BK258 := Aside0.mk (blk_grown (g := gb258) (o := .cells #[.int .i64 a1_0, .int .i64 a1_1, .int .i64 a1_2, .int .i64 a1_3, .bool a1_4, .string a1_5] 62 (0, 0)) B7x6_ hg (Kd.S_ne HO_9.out BK258.out (by decide))); replace BK259 := Aside0.mk (blk_grown (g := gb259) (o := .cells #[.int .i64 0, .int .i64 0, .int .i64 0, .int .i64 0, .bool false, .string (⟨#[]⟩ : ByteArray)] 62 (0, 0)) B7x5_ hg (Kd.S_ne HO_9.out BK259.out (by decide))); replace HB := Aside0.mk (hb); have HO269 := Aside0.mk (ho); clear HO_9; clear ho hb hg hat))
            go_loopg [9] k3 (fun kq v9 w' => ∃ (x9_4 : List (S82)), Aside0 (spec_JoinBits.l1 kq x9_4 a1_0 a1_1 a1_2 a1_3 a1_4 a1_5 = some (r1, r2, r3, r4, r5, r6, r7, r8)) ∧ Aside0 (kq ≤ k3) ∧ Aside0 (Kd.S k82 82 w' w.heap.size (fun k_ => (w.heap.size ≤ k_)) v9 x9_4) ∧ Aside0 (w'.heap[gb258]? = some (.cells #[.int .i64 a1_0, .int .i64 a1_1, .int .i64 a1_2, .int .i64 a1_3, .bool a1_4, .string a1_5] 62 (0, 0))) ∧ Aside0 (w'.heap[gb259]? = some (.cells #[.int .i64 0, .int .i64 0, .int .i64 0, .int .i64 0, .bool false, .string (⟨#[]⟩ : ByteArray)] 62 (0, 0))) ∧ Aside0 (Below w.heap.size w w'))
            case atStart => exact ⟨(y267), H', ⟨Nat.le_refl _⟩, ⟨(by (with_reducible repeat (first | apply Kd.S_alloc | apply Kd.S_drewN | apply Kd.S_drew)); exact HO269.out)⟩, ⟨B7x6_⟩, ⟨B7x5_⟩, ⟨B7x0_⟩⟩
            case round =>
             clear H'
             try clear c37
             try clear c37b0
             try clear c47
             try clear c47b0
             try clear c48
             try clear hcz50_0
             try clear hcz50_1
             try clear hcz50_2
             try clear hcz50_3
             try clear hcz50_4
             try clear hcz50_5
             try clear hfz50_0
             try clear hfz50_1
             try clear hfz50_2
             try clear hfz50_3
             try clear hfz50_4
             try clear hfz50_5
             obtain ⟨x9_4, HA, HK4, HO_9, BK258, BK259, HB⟩ := hrel
             cases gk with
             | zero => exact absurd HA.out (by simp [spec_JoinBits.l1])
             | succ k4 =>
              have H := HA.out
              clear HA
              simp only [spec_JoinBits.l1] at H
              by_cases c52 : (x9_4.length : Int) > 3
              ·rw [if_pos c52] at H
               have c52b0 : decide (3 < (x9_4.length : Int)) = true := decide_eq_true c52
               have c52b1 : decide (3 < x9_4.length) = true := decide_eq_true (by omega)
               clear c52
               by_cases c53 : 1 ≤ (x9_4.length : Int)
               rotate_left
               ·rw [if_neg c53] at H
                exact absurd H (by simp)
               rw [if_pos c53] at H
               have c53b0 := eq_true c53
               have c53b1 : decide (1 ≤ (x9_4.length : Int)) = true := decide_eq_true c53
               clear c53
               obtain ⟨y270, hy270⟩ : ∃ y_ : List (S82), y_ = (x9_4.drop 1) := ⟨_, rfl⟩
               replace H : ((spec_l11CopyBits.f k4 y270).bind fun t274 => (spec_JoinBits.l1 k4 t274 a1_0 a1_1 a1_2 a1_3 a1_4 a1_5)) = some (r1, r2, r3, r4, r5, r6, r7, r8) := by first | (rw [hy270]; with_reducible exact H) | (have H2_ := (Option.bind_some _ _).symm.trans H; rw [hy270]; with_reducible exact H2_) | (have H2_ := (Option.bind_some _ _).symm.trans H; with_reducible exact H2_) | with_reducible exact H | (rw [hy270]; exact H) | exact H
               have Ny270 := Aside0.mk hy270
               clear hy270
               replace H := bsi H
               obtain ⟨t274, A54, H⟩ := H
               (try dsimp only at H)
               have H' := Aside0.mk H
               clear H
               obtain ⟨Ao55, co55, eo55⟩ := Kd.S_slice HO_9.out
               subst eo55
               have q56 : (1 : Int) ≤ ((x9_4.length : Int) : Int) := of_decide_eq_true B7x3_
               obtain ⟨i056, hi056, _, hsz56, _⟩ := info_parts info82
               have hroom56 : x9_4.length ≤ co55 := (Kd.S_reads' HO_9.out).2.1
               have hC56 : Kd.C k82 _ Ao55 x9_4.length x9_4 := (Kd.S_reads' HO_9.out).2.2
               have hcut56 := cut_from (P := Try.prog) 68 82 .i64 Try.underlying68 hi056 6 hsz56 Ao55 x9_4.length co55 1 (by omega) q56
               have hr56 := Kd.C_drop (m := (1 : Int).toNat) (c := co55) hC56 (by omega) hroom56
               obtain ⟨A56, hA56⟩ : ∃ A1, A1 = (if co55 = (1 : Int).toNat then Ao55 else (Ao55 : Option Addr).map (·.add ((1 : Int).toNat * 6))) := ⟨_, rfl⟩
               obtain ⟨c56, hc56⟩ : ∃ c1, c1 = co55 - (1 : Int).toNat := ⟨_, rfl⟩
               have hy56 : y270.length = x9_4.length - (1 : Int).toNat := (by rw [Ny270.out, List.length_drop] <;> omega)
               rw [show (x9_4).drop (1 : Int).toNat = y270 from Ny270.out.symm] at hr56
               replace hr56 : Kd.C k82 _ A56 y270.length y270 := (by rw [hA56]; exact hr56)
               rw [← hy56, ← hA56, ← hc56] at hcut56
               have HR273 := Aside0.mk hr56
               have HC273 := Aside0.mk (show y270.length ≤ c56 from (by rw [hy56, hc56]; exact Nat.sub_le_sub_right hroom56 _))
               clear hr56 hC56 hroom56 hi056 hsz56 hc56
               have KY56 := Aside0.mk hy56
               have KA56 := Aside0.mk hA56
               clear hy56 hA56
               have KL56 := Aside0.mk (show 1 ≤ x9_4.length from (by omega))
               replace q56 := eq_true q56
               go_wp2_with (first | ((with_reducible refine gate_callee (f := 104) rfl ?_); refine goesL_ (some 82) rfl rfl Try.func104 B7x13_ rfl #[.slice A56 y270.length c56] rfl B7x8_ ?_; (with_reducible refine (spec_l11CopyBits.calls k4 _ _ y270 t274 _ ?side1 ?side2 A54.out).mono ?_); (case side1 => repeat (first | exact B7x39_ | (with_reducible refine Kd.C_alloc ?_ _) | (with_reducible refine Kd.C_drewN ?_ _) | (with_reducible refine Kd.C_drew ?_))); (case side2 => exact HC273.out); rintro e w57 ⟨v275, rfl, ho0, hb⟩; refine ⟨_, rfl, ?_⟩; have HO276 := Aside0.mk (Kd.S_lower (Kd.S_new' (Kd.S_newM (M := fun k_ => (w.heap.size ≤ k_)) ho0 (below_size B7x0_) (fun k_ h_ => h_)) (Kd.S_lt B7x7_)) (below_size B7x0_)); replace HO_9 := Aside0.mk (Kd.S_elder' B7x7_ (Kd.S_base ho0) hb); replace BK258 := Aside0.mk (bb BK258.out hb); replace BK259 := Aside0.mk (bb BK259.out hb); replace HR273 := Aside0.mk (Kd.C_below B7x39_ hb); replace HB := Aside0.mk (below_step B7x0_ hb); (try clear hb); (try clear hl); (try clear ho0)))
               go_roundg k4
               case measure => have := HJ4.out; have := HJ21.out; have := HK3.out; have := HK4.out; omega
               case rel => exact ⟨(t274), H', ⟨(by have := HJ4.out; have := HJ21.out; have := HK3.out; have := HK4.out; omega)⟩, ⟨(by (with_reducible repeat (first | apply Kd.S_alloc | apply Kd.S_drewN | apply Kd.S_drew)); exact Kd.S_mono HO276.out (fun _ hk => hk.1.1))⟩, ⟨B7x6_⟩, ⟨B7x5_⟩, ⟨B7x0_⟩⟩
              ·rw [if_neg c52] at H
               have c52b0 : decide (3 < (x9_4.length : Int)) = false := decide_eq_false c52
               have c52b1 : decide (3 < x9_4.length) = false := decide_eq_false (by omega)
               clear c52
               have H' := Aside0.mk H
               clear H
               obtain ⟨Ao58, co58, eo58⟩ := Kd.S_slice HO_9.out
               subst eo58
               go_wp2
               go_meet
               case rel => exact ⟨_, (x9_4), (wrap64 ((x9_4.length : Int) - 1)), (be_), H', ⟨(by have := HJ4.out; have := HJ21.out; have := HK3.out; have := HK4.out; first | omega | exact Nat.le_refl _)⟩, ⟨B7x7_⟩, ⟨B7x6_⟩, ⟨B7x5_⟩, ⟨B7x0_⟩⟩
           ·rw [if_neg c47] at H
            have c47b0 : decide (x10_3 < 0) = false := decide_eq_false c47
            clear c47
            (first | rw [c47b0] | (simp only [i64_w, i32_w]; rw [c47b0]) | skip)
            have H' := Aside0.mk H
            clear H
            go_wp2
            go_meet
            case rel => exact ⟨_, (t260), (x10_3), (be_), H', ⟨B7x28_⟩, ⟨B7x7_⟩, ⟨B7x6_⟩, ⟨B7x5_⟩, ⟨B7x0_⟩⟩
          case rest =>
           clear HC46
           try clear c37
           try clear c37b0
           obtain ⟨kq, x9_45, x10_45, rfl, HA, HJ45, HO_9, BK258, BK259, HB⟩ := hcut
           cases kq with
           | zero => exact absurd HA.out (by simp [spec_JoinBits.j5])
           | succ kj45 =>
            have H := HA.out
            clear HA
            simp only [spec_JoinBits.j5] at H
            have H' := Aside0.mk H
            clear H
            go_wp2
            go_loopg [12, 13] kj45 (fun kq v12 v13 w' => ∃ (x12_5 : Bool) (x13_5 : Int), v12 = .bool x12_5 ∧ v13 = .int .i64 x13_5 ∧ Aside0 (spec_JoinBits.l2 kq x9_45 x10_45 x12_5 x13_5 a1_0 a1_1 a1_2 a1_3 a1_4 a1_5 = some (r1, r2, r3, r4, r5, r6, r7, r8)) ∧ Aside0 (kq ≤ kj45) ∧ Aside0 (Kd.S k82 82 w' w.heap.size (fun k_ => (w.heap.size ≤ k_)) u9 x9_45) ∧ Aside0 (w'.heap[gb258]? = some (.cells #[.int .i64 a1_0, .int .i64 a1_1, .int .i64 a1_2, .int .i64 a1_3, .bool a1_4, .string a1_5] 62 (0, 0))) ∧ Aside0 (w'.heap[gb259]? = some (.cells #[.int .i64 0, .int .i64 0, .int .i64 0, .int .i64 0, .bool false, .string (⟨#[]⟩ : ByteArray)] 62 (0, 0))) ∧ Aside0 (Below w.heap.size w w'))
            case atStart => exact ⟨(false), (0), (be_), (be_), H', ⟨Nat.le_refl _⟩, ⟨B7x7_⟩, ⟨B7x6_⟩, ⟨B7x5_⟩, ⟨B7x0_⟩⟩
            case round =>
             clear H'
             try clear c37
             try clear c37b0
             obtain ⟨x12_5, x13_5, rfl, rfl, HA, HK5, HO_9, BK258, BK259, HB⟩ := hrel
             cases gk with
             | zero => exact absurd HA.out (by simp [spec_JoinBits.l2])
             | succ k5 =>
              have H := HA.out
              clear HA
              simp only [spec_JoinBits.l2] at H
              by_cases c59 : 0 ≤ x10_45
              rotate_left
              ·rw [if_neg c59] at H
               exact absurd H (by simp)
              rw [if_pos c59] at H
              have c59b0 : decide (0 ≤ x10_45) = true := decide_eq_true c59
              clear c59
              by_cases c60 : x10_45 < (x9_45.length : Int)
              rotate_left
              ·rw [if_neg c60] at H
               exact absurd H (by simp)
              rw [if_pos c60] at H
              have c60b0 : decide (x10_45 < (x9_45.length : Int)) = true := decide_eq_true c60
              clear c60
              by_cases c61 : x13_5 < (((rd_T82 x9_45 x10_45).f3).length : Int)
              ·rw [if_pos c61] at H
               have c61b0 : decide (x13_5 < (((rd_T82 x9_45 x10_45).f3).length : Int)) = true := decide_eq_true c61
               clear c61
               have HC62 := Aside0.mk H
               clear H
               obtain ⟨Ao63, co63, eo63⟩ := Kd.S_slice HO_9.out
               subst eo63
               have p277 : 0 ≤ (x10_45 : Int) := of_decide_eq_true B7x3_
               have q277 : x10_45 < (x9_45.length : Int) := of_decide_eq_true B7x3_
               obtain ⟨ad277, A277_2, c277_2, A277_3, c277_3, e277, hx277_0, hx277_1, hx277_2, hx277_3, hx277_4, hx277_5, hl277_2, hi277_2, hl277_3, hi277_3⟩ := at_T82 (Kd.S_reads' HO_9.out).2.2 x10_45 p277 q277
               cases e277
               obtain ⟨ce277, hce277, hMe277, hcc277⟩ := Kd.S_get HO_9.out z82 x10_45 p277 B7x48_
               obtain ⟨ve277_2, ve277_3, rfl, ge277_2, ge277_3⟩ := k82_openM hMe277
               have hv277_2 := hcc277 2 _ rfl
               rw [add_field _ _ 2 (by omega)] at hv277_2
               replace hv277_2 := Option.some.inj (hv277_2.symm.trans hx277_2)
               rw [hv277_2] at ge277_2
               have HL277_2 := Aside0.mk (show Kd.R Kd.string 9 _ _ _ _ ((rd_T82 x9_45 x10_45).f2) from ge277_2)
               clear hv277_2 ge277_2
               have HX277_2 := Aside0.mk hx277_2
               have hv277_3 := hcc277 3 _ rfl
               rw [add_field _ _ 3 (by omega)] at hv277_3
               replace hv277_3 := Option.some.inj (hv277_3.symm.trans hx277_3)
               rw [hv277_3] at ge277_3
               have HL277_3 := Aside0.mk (show Kd.R (Kd.int .i64) 3 _ _ _ _ ((rd_T82 x9_45 x10_45).f3) from ge277_3)
               clear hv277_3 ge277_3
               have HX277_3 := Aside0.mk hx277_3
               clear hcc277 hce277
               have HR277_2 := Aside0.mk hi277_2
               have HC277_2 := Aside0.mk hl277_2
               clear hi277_2 hl277_2
               have HR277_3 := Aside0.mk hi277_3
               have HC277_3 := Aside0.mk hl277_3
               clear hi277_3 hl277_3
               replace p277 := eq_true p277
               replace q277 := eq_true q277
               go_upto_block 5 with (fail)
               go_cut [12] (fun v12 wc => ∃ (kq : Nat) (x12_61 : Bool), v12 = .bool x12_61 ∧ Aside0 (spec_JoinBits.j7 kq x9_45 x10_45 x12_61 x13_5 a1_0 a1_1 a1_2 a1_3 a1_4 a1_5 = some (r1, r2, r3, r4, r5, r6, r7, r8)) ∧ Aside0 (kq ≤ k5) ∧ Aside0 (Kd.S k82 82 wc w.heap.size (fun k_ => (w.heap.size ≤ k_)) (.slice (some ad277) x9_45.length co63) x9_45) ∧ Aside0 (wc.heap[gb258]? = some (.cells #[.int .i64 a1_0, .int .i64 a1_1, .int .i64 a1_2, .int .i64 a1_3, .bool a1_4, .string a1_5] 62 (0, 0))) ∧ Aside0 (wc.heap[gb259]? = some (.cells #[.int .i64 0, .int .i64 0, .int .i64 0, .int .i64 0, .bool false, .string (⟨#[]⟩ : ByteArray)] 62 (0, 0))) ∧ Aside0 (Kd.C Kd.string wc A277_2 ((rd_T82 x9_45 x10_45).f2).length ((rd_T82 x9_45 x10_45).f2)) ∧ Aside0 (Kd.C (Kd.int .i64) wc A277_3 ((rd_T82 x9_45 x10_45).f3).length ((rd_T82 x9_45 x10_45).f3)) ∧ Aside0 (Below w.heap.size w wc))
               case first =>
                have H := HC62.out
                clear HC62
                by_cases c64 : x12_5 = true
                ·subst c64
                 rw [if_pos rfl] at H
                 have H' := Aside0.mk H
                 clear H
                 try go_wp2
                 replace HO_9 := Aside0.mk (Kd.S_drew HO_9.out)
                 replace HL277_2 := Aside0.mk (Kd.R_drew HL277_2.out)
                 replace HL277_3 := Aside0.mk (Kd.R_drew HL277_3.out)
                 replace BK258 := Aside0.mk (blk_drew BK258.out)
                 replace BK259 := Aside0.mk (blk_drew BK259.out)
                 replace HR277_2 := Aside0.mk (Kd.C_drew HR277_2.out)
                 replace HR277_3 := Aside0.mk (Kd.C_drew HR277_3.out)
                 replace HB := Aside0.mk (below_drew1 HB.out)
                 refine start_ (n := 15) (S := fun w' => True) (ds := []) #[false, false, false, false, false, false, false, false, false, false, false, false, false, false, false] B7x13_ rfl rfl trivial (fun hHeld => ?_); refine with_tabW spec_JoinBits.tab21 spec_JoinBits.bits21 (fun HT_ HW_ => ?_)
                 generalize wr.drew = w65 at HO_9 HL277_2 HL277_3 BK258 BK259 HR277_2 HR277_3 HB hHeld ⊢
                 refine pu_ 0 96 HT_ ?_
                 refine pu_ 1 97 HT_ ?_
                 refine of_ 2 98 HT_ ?_
                 refine of_ 3 99 HT_ ?_
                 refine of_ 4 100 HT_ ?_
                 refine of_ 5 101 HT_ ?_
                 refine of_ 6 102 HT_ ?_
                 refine of_ 7 103 HT_ ?_
                 refine of_ 8 104 HT_ ?_
                 refine of_ 9 105 HT_ ?_
                 refine of_ 10 106 HT_ ?_
                 refine of_ 11 107 HT_ ?_
                 refine of_ 12 108 HT_ ?_
                 refine pu_ 13 109 HT_ ?_
                 refine pu_ 14 12 HT_ ?_
                 refine done_ (done_of HT_.out B7x13_) ?_
                 try go_wp2
                 go_meet
                 case rel => exact ⟨_, (true), (be_), H', ⟨B7x14_⟩, ⟨B7x7_⟩, ⟨B7x6_⟩, ⟨B7x5_⟩, ⟨B7x37_⟩, ⟨B7x38_⟩, ⟨B7x0_⟩⟩
                ·replace c64 := Bool.eq_false_iff.mpr c64
                 subst c64
                 rw [if_neg (show ¬ (false = true) by decide)] at H
                 by_cases c66 : 0 ≤ x13_5
                 rotate_left
                 ·rw [if_neg c66] at H
                  exact absurd H (by simp)
                 rw [if_pos c66] at H
                 have c66b0 : decide (0 ≤ x13_5) = true := decide_eq_true c66
                 clear c66
                 (first | rw [c66b0] | (simp only [i64_w, i32_w]; rw [c66b0]) | skip)
                 have H' := Aside0.mk H
                 clear H
                 try go_wp2
                 replace HO_9 := Aside0.mk (Kd.S_drew HO_9.out)
                 replace HL277_2 := Aside0.mk (Kd.R_drew HL277_2.out)
                 replace HL277_3 := Aside0.mk (Kd.R_drew HL277_3.out)
                 replace BK258 := Aside0.mk (blk_drew BK258.out)
                 replace BK259 := Aside0.mk (blk_drew BK259.out)
                 replace HR277_2 := Aside0.mk (Kd.C_drew HR277_2.out)
                 replace HR277_3 := Aside0.mk (Kd.C_drew HR277_3.out)
                 replace HB := Aside0.mk (below_drew1 HB.out)
                 have p278 : 0 ≤ (x10_45 : Int) := of_decide_eq_true B7x3_
                 have q278 : x10_45 < (x9_45.length : Int) := of_decide_eq_true B7x3_
                 obtain ⟨ad278, A278_2, c278_2, A278_3, c278_3, e278, hx278_0, hx278_1, hx278_2, hx278_3, hx278_4, hx278_5, hl278_2, hi278_2, hl278_3, hi278_3⟩ := at_T82 (Kd.S_reads' HO_9.out).2.2 x10_45 p278 q278
                 obtain rfl : ad277 = ad278 := (by injection e278)
                 obtain ⟨ce278, hce278, hMe278, hcc278⟩ := Kd.S_get HO_9.out z82 x10_45 p278 (by first | exact q278 | exact of_decide_eq_true B7x3_ | (have e_ := (Kd.S_reads' HO_9.out).1; omega))
                 obtain ⟨ve278_2, ve278_3, rfl, ge278_2, ge278_3⟩ := k82_openM hMe278
                 have hv278_2 := hcc278 2 _ rfl
                 rw [add_field _ _ 2 (by omega)] at hv278_2
                 replace hv278_2 := Option.some.inj (hv278_2.symm.trans hx278_2)
                 rw [hv278_2] at ge278_2
                 have HL278_2 := Aside0.mk (show Kd.R Kd.string 9 _ _ _ _ ((rd_T82 x9_45 x10_45).f2) from ge278_2)
                 clear hv278_2 ge278_2
                 have HX278_2 := Aside0.mk hx278_2
                 have hv278_3 := hcc278 3 _ rfl
                 rw [add_field _ _ 3 (by omega)] at hv278_3
                 replace hv278_3 := Option.some.inj (hv278_3.symm.trans hx278_3)
                 rw [hv278_3] at ge278_3
                 have HL278_3 := Aside0.mk (show Kd.R (Kd.int .i64) 3 _ _ _ _ ((rd_T82 x9_45 x10_45).f3) from ge278_3)
                 clear hv278_3 ge278_3
                 have HX278_3 := Aside0.mk hx278_3
                 clear hcc278 hce278
                 have HR278_2 := Aside0.mk hi278_2
                 have HC278_2 := Aside0.mk hl278_2
                 clear hi278_2 hl278_2
                 have HR278_3 := Aside0.mk hi278_3
                 have HC278_3 := Aside0.mk hl278_3
                 clear hi278_3 hl278_3
                 replace p278 := eq_true p278
                 replace q278 := eq_true q278
                 have p279 : 0 ≤ (x13_5 : Int) := of_decide_eq_true B7x3_
                 have q279 : x13_5 < (((rd_T82 x9_45 x10_45).f3).length : Int) := of_decide_eq_true B7x3_
                 obtain ⟨ad279, e279, hx279_0⟩ := Kd.at_int (by repeat (first | (with_reducible exact HR278_3.out) | (with_reducible refine Kd.C_alloc ?_ _) | (with_reducible refine Kd.C_drewN ?_ _) | (with_reducible refine Kd.C_drew ?_) | exact HR278_3.out)) x13_5 p279 q279
                 cases e279
                 replace p279 := eq_true p279
                 replace q279 := eq_true q279
                 refine start_ (n := 15) (S := fun w' => w'.cell? ⟨gb258, 0, none⟩ = some (.int .i64 a1_0) ∧ w'.cell? ⟨gb258, 1, none⟩ = some (.int .i64 a1_1) ∧ w'.cell? ⟨gb258, 2, none⟩ = some (.int .i64 a1_2) ∧ w'.cell? ⟨gb258, 3, none⟩ = some (.int .i64 a1_3) ∧ w'.cell? ⟨gb258, 4, none⟩ = some (.bool a1_4) ∧ w'.cell? ⟨gb258, 5, none⟩ = some (.string a1_5) ∧ w'.cell? (ad277.add ((x10_45).toNat * 6)) = some (.int .i64 ((rd_T82 x9_45 x10_45).f0)) ∧ w'.cell? ⟨(ad277.add ((x10_45).toNat * 6)).block, (ad277.add ((x10_45).toNat * 6)).off + 1, none⟩ = some (.int .i64 ((rd_T82 x9_45 x10_45).f1)) ∧ w'.cell? ⟨(ad277.add ((x10_45).toNat * 6)).block, (ad277.add ((x10_45).toNat * 6)).off + 2, none⟩ = some (.slice A278_2 ((rd_T82 x9_45 x10_45).f2).length c278_2) ∧ w'.cell? ⟨(ad277.add ((x10_45).toNat * 6)).block, (ad277.add ((x10_45).toNat * 6)).off + 3, none⟩ = some (.slice (some ad279) ((rd_T82 x9_45 x10_45).f3).length c278_3) ∧ w'.cell? ⟨(ad277.add ((x10_45).toNat * 6)).block, (ad277.add ((x10_45).toNat * 6)).off + 4, none⟩ = some (.int .i64 ((rd_T82 x9_45 x10_45).f4)) ∧ w'.cell? ⟨(ad277.add ((x10_45).toNat * 6)).block, (ad277.add ((x10_45).toNat * 6)).off + 5, none⟩ = some (.int .i64 ((rd_T82 x9_45 x10_45).f5)) ∧ w'.cell? (ad279.add (x13_5).toNat) = some (.int .i64 (rd ((rd_T82 x9_45 x10_45).f3) x13_5))) (ds := []) #[false, false, false, false, false, false, false, false, false, false, false, false, false, false, false] B7x13_ rfl rfl ⟨(blk_cell BK258.out 0).trans rfl, (blk_cell BK258.out 1).trans rfl, (blk_cell BK258.out 2).trans rfl, (blk_cell BK258.out 3).trans rfl, (blk_cell BK258.out 4).trans rfl, (blk_cell BK258.out 5).trans rfl, hx278_0, hx278_1, hx278_2, hx278_3, hx278_4, hx278_5, hx279_0⟩ (fun hHeld => ?_); refine with_tabW spec_JoinBits.tab21 spec_JoinBits.bits21 (fun HT_ HW_ => ?_)
                 generalize wr.drew = w67 at HO_9 HL277_2 HL277_3 BK258 BK259 HR277_2 HR277_3 HB HL278_2 HL278_3 HR278_2 HR278_3 HX278_2 HX278_3 hx278_0 hx278_1 hx278_2 hx278_3 hx278_4 hx278_5 hx279_0 hHeld ⊢
                 refine pu_ 0 96 HT_ ?_
                 refine pu_ 1 97 HT_ ?_
                 refine pu_ 2 98 HT_ ?_
                 refine pu_ 3 99 HT_ ?_
                 refine pu_ 4 100 HT_ ?_
                 refine pu_ 5 101 HT_ ?_
                 refine pu_ 7 103 HT_ ?_
                 refine pu_ 10 106 HT_ ?_
                 refine ta_ 6 102 HT_ HW_ hHeld ?_
                 refine pu_ 8 104 HT_ ?_
                 refine ta_ 9 105 HT_ HW_ hHeld ?_
                 refine ta_ 11 107 HT_ HW_ hHeld ?_
                 refine pu_ 12 108 HT_ ?_
                 refine pu_ 13 109 HT_ ?_
                 refine pu_ 14 12 HT_ ?_
                 refine done_ (done_of HT_.out B7x13_) ?_
                 try go_wp2
                 go_meet
                 case rel => exact ⟨_, (((rd ((rd_T82 x9_45 x10_45).f3) x13_5) == a1_3)), (be_), H', ⟨B7x14_⟩, ⟨B7x7_⟩, ⟨B7x6_⟩, ⟨B7x5_⟩, ⟨B7x37_⟩, ⟨B7x38_⟩, ⟨B7x0_⟩⟩
               case rest =>
                clear HC62
                try clear c37
                try clear c37b0
                try clear c59
                try clear c59b0
                try clear c60
                try clear c60b0
                try clear c61
                try clear c61b0
                try clear hx277_0
                try clear hx277_1
                try clear hx277_2
                try clear hx277_3
                try clear hx277_4
                try clear hx277_5
                try clear p277
                try clear q277
                obtain ⟨kq, x12_61, rfl, HA, HJ61, HO_9, BK258, BK259, HR277_2, HR277_3, HB⟩ := hcut
                cases kq with
                | zero => exact absurd HA.out (by simp [spec_JoinBits.j7])
                | succ kj61 =>
                 have H := HA.out
                 clear HA
                 simp only [spec_JoinBits.j7] at H
                 have H' := Aside0.mk H
                 clear H
                 go_wp2
                 go_roundg kj61
                 case measure => have := HJ4.out; have := HJ21.out; have := HK3.out; have := HJ45.out; have := HK5.out; have := HJ61.out; omega
                 case rel => exact ⟨(x12_61), (wrap64 (x13_5 + 1)), (be_), (be_), H', ⟨(by have := HJ4.out; have := HJ21.out; have := HK3.out; have := HJ45.out; have := HK5.out; have := HJ61.out; omega)⟩, ⟨B7x7_⟩, ⟨B7x6_⟩, ⟨B7x5_⟩, ⟨B7x0_⟩⟩
              ·rw [if_neg c61] at H
               have c61b0 : decide (x13_5 < (((rd_T82 x9_45 x10_45).f3).length : Int)) = false := decide_eq_false c61
               clear c61
               have HC68 := Aside0.mk H
               clear H
               obtain ⟨Ao69, co69, eo69⟩ := Kd.S_slice HO_9.out
               subst eo69
               have p277 : 0 ≤ (x10_45 : Int) := of_decide_eq_true B7x3_
               have q277 : x10_45 < (x9_45.length : Int) := of_decide_eq_true B7x3_
               obtain ⟨ad277, A277_2, c277_2, A277_3, c277_3, e277, hx277_0, hx277_1, hx277_2, hx277_3, hx277_4, hx277_5, hl277_2, hi277_2, hl277_3, hi277_3⟩ := at_T82 (Kd.S_reads' HO_9.out).2.2 x10_45 p277 q277
               cases e277
               obtain ⟨ce277, hce277, hMe277, hcc277⟩ := Kd.S_get HO_9.out z82 x10_45 p277 B7x48_
               obtain ⟨ve277_2, ve277_3, rfl, ge277_2, ge277_3⟩ := k82_openM hMe277
               have hv277_2 := hcc277 2 _ rfl
               rw [add_field _ _ 2 (by omega)] at hv277_2
               replace hv277_2 := Option.some.inj (hv277_2.symm.trans hx277_2)
               rw [hv277_2] at ge277_2
               have HL277_2 := Aside0.mk (show Kd.R Kd.string 9 _ _ _ _ ((rd_T82 x9_45 x10_45).f2) from ge277_2)
               clear hv277_2 ge277_2
               have HX277_2 := Aside0.mk hx277_2
               have hv277_3 := hcc277 3 _ rfl
               rw [add_field _ _ 3 (by omega)] at hv277_3
               replace hv277_3 := Option.some.inj (hv277_3.symm.trans hx277_3)
               rw [hv277_3] at ge277_3
               have HL277_3 := Aside0.mk (show Kd.R (Kd.int .i64) 3 _ _ _ _ ((rd_T82 x9_45 x10_45).f3) from ge277_3)
               clear hv277_3 ge277_3
               have HX277_3 := Aside0.mk hx277_3
               clear hcc277 hce277
               have HR277_2 := Aside0.mk hi277_2
               have HC277_2 := Aside0.mk hl277_2
               clear hi277_2 hl277_2
               have HR277_3 := Aside0.mk hi277_3
               have HC277_3 := Aside0.mk hl277_3
               clear hi277_3 hl277_3
               replace p277 := eq_true p277
               replace q277 := eq_true q277
               go_upto_if 111 with (fail)
               go_cut [] (fun wc => ∃ (kq : Nat) (x9_67 : List (S82)), Aside0 (spec_JoinBits.j8 kq x9_67 x10_45 a1_0 a1_1 a1_2 a1_3 a1_4 a1_5 = some (r1, r2, r3, r4, r5, r6, r7, r8)) ∧ Aside0 (kq ≤ k5) ∧ Aside0 (Kd.N k82 82 wc w.heap.size (fun k_ => (w.heap.size ≤ k_) ∧ k_ ≠ gb258 ∧ k_ ≠ gb259) (.slice (some ad277) x9_45.length co69) x9_67) ∧ Aside0 (wc.heap[gb258]? = some (.cells #[.int .i64 a1_0, .int .i64 a1_1, .int .i64 a1_2, .int .i64 a1_3, .bool a1_4, .string a1_5] 62 (0, 0))) ∧ Aside0 (wc.heap[gb259]? = some (.cells #[.int .i64 0, .int .i64 0, .int .i64 0, .int .i64 0, .bool false, .string (⟨#[]⟩ : ByteArray)] 62 (0, 0))) ∧ Aside0 (Below w.heap.size w wc))
               case first => as_aux_lemma =>
                have H := HC68.out
                clear HC68
                by_cases c70 : x12_5 = true
                ·subst c70
                 rw [if_pos rfl] at H
                 have H' := Aside0.mk H
                 clear H
                 go_wp2
                 go_meet
                 case rel => exact ⟨_, (x9_45), H', ⟨B7x14_⟩, ⟨Kd.R_N ((Kd.S_R B7x17_))⟩, ⟨B7x6_⟩, ⟨B7x5_⟩, ⟨B7x0_⟩⟩
                ·replace c70 := Bool.eq_false_iff.mpr c70
                 subst c70
                 rw [if_neg (show ¬ (false = true) by decide)] at H
                 by_cases c71 : ((rd_T82 x9_45 x10_45).f3).length < 17592186044416
                 rotate_left
                 ·rw [if_neg c71] at H
                  exact absurd H (by simp)
                 rw [if_pos c71] at H
                 have LMc71 := Aside0.mk c71
                 clear c71
                 obtain ⟨y281, hy281⟩ : ∃ y_ : List Int, y_ = (((rd_T82 x9_45 x10_45).f3) ++ [a1_3]) := ⟨_, rfl⟩
                 replace H : ((some (x9_45.set (x10_45 : Int).toNat (⟨(rd_T82 x9_45 x10_45).f0, (rd_T82 x9_45 x10_45).f1, (rd_T82 x9_45 x10_45).f2, y281, (rd_T82 x9_45 x10_45).f4, (rd_T82 x9_45 x10_45).f5⟩ : S82) : List (S82))).bind fun y284 => (if ((rd_T82 y284 x10_45).f2).length < 8796093022208 then ((some (y284.set (x10_45 : Int).toNat (⟨(rd_T82 y284 x10_45).f0, (rd_T82 y284 x10_45).f1, (((rd_T82 y284 x10_45).f2) ++ [a1_5]), (rd_T82 y284 x10_45).f3, (rd_T82 y284 x10_45).f4, (rd_T82 y284 x10_45).f5⟩ : S82) : List (S82))).bind fun y289 => (if a1_4 = true then (spec_JoinBits.j8 k5 y289 x10_45 a1_0 a1_1 a1_2 a1_3 a1_4 a1_5) else (if ((rd_T82 y289 x10_45).f4) = 0 then (spec_JoinBits.j8 k5 (y289.set (x10_45 : Int).toNat (⟨(rd_T82 y289 x10_45).f0, (rd_T82 y289 x10_45).f1, (rd_T82 y289 x10_45).f2, (rd_T82 y289 x10_45).f3, wrap64 (a1_3 + (a1_5.size : Int)), (rd_T82 y289 x10_45).f5⟩ : S82)) x10_45 a1_0 a1_1 a1_2 a1_3 a1_4 a1_5) else (spec_JoinBits.j8 k5 y289 x10_45 a1_0 a1_1 a1_2 a1_3 a1_4 a1_5)))) else (none))) = some (r1, r2, r3, r4, r5, r6, r7, r8) := by first | (rw [hy281]; with_reducible exact H) | (have H2_ := (Option.bind_some _ _).symm.trans H; rw [hy281]; with_reducible exact H2_) | (have H2_ := (Option.bind_some _ _).symm.trans H; with_reducible exact H2_) | with_reducible exact H | (rw [hy281]; exact H) | exact H
                 have Ny281 := Aside0.mk hy281
                 clear hy281
                 obtain ⟨y284, hy284⟩ : ∃ y_ : List (S82), y_ = (x9_45.set (x10_45 : Int).toNat (⟨(rd_T82 x9_45 x10_45).f0, (rd_T82 x9_45 x10_45).f1, (rd_T82 x9_45 x10_45).f2, y281, (rd_T82 x9_45 x10_45).f4, (rd_T82 x9_45 x10_45).f5⟩ : S82)) := ⟨_, rfl⟩
                 replace H : (if ((rd_T82 y284 x10_45).f2).length < 8796093022208 then ((some (y284.set (x10_45 : Int).toNat (⟨(rd_T82 y284 x10_45).f0, (rd_T82 y284 x10_45).f1, (((rd_T82 y284 x10_45).f2) ++ [a1_5]), (rd_T82 y284 x10_45).f3, (rd_T82 y284 x10_45).f4, (rd_T82 y284 x10_45).f5⟩ : S82) : List (S82))).bind fun y289 => (if a1_4 = true then (spec_JoinBits.j8 k5 y289 x10_45 a1_0 a1_1 a1_2 a1_3 a1_4 a1_5) else (if ((rd_T82 y289 x10_45).f4) = 0 then (spec_JoinBits.j8 k5 (y289.set (x10_45 : Int).toNat (⟨(rd_T82 y289 x10_45).f0, (rd_T82 y289 x10_45).f1, (rd_T82 y289 x10_45).f2, (rd_T82 y289 x10_45).f3, wrap64 (a1_3 + (a1_5.size : Int)), (rd_T82 y289 x10_45).f5⟩ : S82)) x10_45 a1_0 a1_1 a1_2 a1_3 a1_4 a1_5) else (spec_JoinBits.j8 k5 y289 x10_45 a1_0 a1_1 a1_2 a1_3 a1_4 a1_5)))) else (none)) = some (r1, r2, r3, r4, r5, r6, r7, r8) := by first | (rw [hy284]; with_reducible exact H) | (have H2_ := (Option.bind_some _ _).symm.trans H; rw [hy284]; with_reducible exact H2_) | (have H2_ := (Option.bind_some _ _).symm.trans H; with_reducible exact H2_) | with_reducible exact H | (rw [hy284]; exact H) | exact H
                 have Ny284 := Aside0.mk hy284
                 clear hy284
                 by_cases c73 : ((rd_T82 y284 x10_45).f2).length < 8796093022208
                 rotate_left
                 ·rw [if_neg c73] at H
                  exact absurd H (by simp)
                 rw [if_pos c73] at H
                 have LMc73 := Aside0.mk c73
                 clear c73
                 obtain ⟨y286, hy286⟩ : ∃ y_ : List ByteArray, y_ = (((rd_T82 y284 x10_45).f2) ++ [a1_5]) := ⟨_, rfl⟩
                 replace H : ((some (y284.set (x10_45 : Int).toNat (⟨(rd_T82 y284 x10_45).f0, (rd_T82 y284 x10_45).f1, y286, (rd_T82 y284 x10_45).f3, (rd_T82 y284 x10_45).f4, (rd_T82 y284 x10_45).f5⟩ : S82) : List (S82))).bind fun y289 => (if a1_4 = true then (spec_JoinBits.j8 k5 y289 x10_45 a1_0 a1_1 a1_2 a1_3 a1_4 a1_5) else (if ((rd_T82 y289 x10_45).f4) = 0 then (spec_JoinBits.j8 k5 (y289.set (x10_45 : Int).toNat (⟨(rd_T82 y289 x10_45).f0, (rd_T82 y289 x10_45).f1, (rd_T82 y289 x10_45).f2, (rd_T82 y289 x10_45).f3, wrap64 (a1_3 + (a1_5.size : Int)), (rd_T82 y289 x10_45).f5⟩ : S82)) x10_45 a1_0 a1_1 a1_2 a1_3 a1_4 a1_5) else (spec_JoinBits.j8 k5 y289 x10_45 a1_0 a1_1 a1_2 a1_3 a1_4 a1_5)))) = some (r1, r2, r3, r4, r5, r6, r7, r8) := by first | (rw [hy286]; with_reducible exact H) | (have H2_ := (Option.bind_some _ _).symm.trans H; rw [hy286]; with_reducible exact H2_) | (have H2_ := (Option.bind_some _ _).symm.trans H; with_reducible exact H2_) | with_reducible exact H | (rw [hy286]; exact H) | exact H
                 have Ny286 := Aside0.mk hy286
                 clear hy286
                 obtain ⟨y289, hy289⟩ : ∃ y_ : List (S82), y_ = (y284.set (x10_45 : Int).toNat (⟨(rd_T82 y284 x10_45).f0, (rd_T82 y284 x10_45).f1, y286, (rd_T82 y284 x10_45).f3, (rd_T82 y284 x10_45).f4, (rd_T82 y284 x10_45).f5⟩ : S82)) := ⟨_, rfl⟩
                 replace H : (if a1_4 = true then (spec_JoinBits.j8 k5 y289 x10_45 a1_0 a1_1 a1_2 a1_3 a1_4 a1_5) else (if ((rd_T82 y289 x10_45).f4) = 0 then (spec_JoinBits.j8 k5 (y289.set (x10_45 : Int).toNat (⟨(rd_T82 y289 x10_45).f0, (rd_T82 y289 x10_45).f1, (rd_T82 y289 x10_45).f2, (rd_T82 y289 x10_45).f3, wrap64 (a1_3 + (a1_5.size : Int)), (rd_T82 y289 x10_45).f5⟩ : S82)) x10_45 a1_0 a1_1 a1_2 a1_3 a1_4 a1_5) else (spec_JoinBits.j8 k5 y289 x10_45 a1_0 a1_1 a1_2 a1_3 a1_4 a1_5))) = some (r1, r2, r3, r4, r5, r6, r7, r8) := by first | (rw [hy289]; with_reducible exact H) | (have H2_ := (Option.bind_some _ _).symm.trans H; rw [hy289]; with_reducible exact H2_) | (have H2_ := (Option.bind_some _ _).symm.trans H; with_reducible exact H2_) | with_reducible exact H | (rw [hy289]; exact H) | exact H
                 have Ny289 := Aside0.mk hy289
                 clear hy289
                 by_cases c75 : a1_4 = true
                 ·subst c75
                  rw [if_pos rfl] at H
                  have H' := Aside0.mk H
                  clear H
                  try go_wp2
                  replace HO_9 := Aside0.mk (Kd.S_drew HO_9.out)
                  replace HL277_2 := Aside0.mk (Kd.R_drew HL277_2.out)
                  replace HL277_3 := Aside0.mk (Kd.R_drew HL277_3.out)
                  replace BK258 := Aside0.mk (blk_drew BK258.out)
                  replace BK259 := Aside0.mk (blk_drew BK259.out)
                  replace HR277_2 := Aside0.mk (Kd.C_drew HR277_2.out)
                  replace HR277_3 := Aside0.mk (Kd.C_drew HR277_3.out)
                  replace HB := Aside0.mk (below_drew1 HB.out)
                  have p280 : 0 ≤ (x10_45 : Int) := of_decide_eq_true B7x3_
                  have q280 : x10_45 < (x9_45.length : Int) := of_decide_eq_true B7x3_
                  obtain ⟨ad280, A280_2, c280_2, A280_3, c280_3, e280, hx280_0, hx280_1, hx280_2, hx280_3, hx280_4, hx280_5, hl280_2, hi280_2, hl280_3, hi280_3⟩ := at_T82 (Kd.S_reads' HO_9.out).2.2 x10_45 p280 q280
                  obtain rfl : ad277 = ad280 := (by injection e280)
                  obtain ⟨ce280, hce280, hMe280, hcc280⟩ := Kd.S_get HO_9.out z82 x10_45 p280 B7x35_
                  obtain ⟨ve280_2, ve280_3, rfl, ge280_2, ge280_3⟩ := k82_openM hMe280
                  have hv280_2 := hcc280 2 _ rfl
                  rw [add_field _ _ 2 (by omega)] at hv280_2
                  replace hv280_2 := Option.some.inj (hv280_2.symm.trans hx280_2)
                  rw [hv280_2] at ge280_2
                  have HL280_2 := Aside0.mk (show Kd.R Kd.string 9 _ _ _ _ ((rd_T82 x9_45 x10_45).f2) from ge280_2)
                  clear hv280_2 ge280_2
                  have HX280_2 := Aside0.mk hx280_2
                  have hv280_3 := hcc280 3 _ rfl
                  rw [add_field _ _ 3 (by omega)] at hv280_3
                  replace hv280_3 := Option.some.inj (hv280_3.symm.trans hx280_3)
                  rw [hv280_3] at ge280_3
                  have HL280_3 := Aside0.mk (show Kd.R (Kd.int .i64) 3 _ _ _ _ ((rd_T82 x9_45 x10_45).f3) from ge280_3)
                  clear hv280_3 ge280_3
                  have HX280_3 := Aside0.mk hx280_3
                  clear hcc280 hce280
                  have HR280_2 := Aside0.mk hi280_2
                  have HC280_2 := Aside0.mk hl280_2
                  clear hi280_2 hl280_2
                  have HR280_3 := Aside0.mk hi280_3
                  have HC280_3 := Aside0.mk hl280_3
                  clear hi280_3 hl280_3
                  replace p280 := eq_true p280
                  replace q280 := eq_true q280
                  obtain ⟨go77, co77, eo77, gb77, gl77, cl77, HG77⟩ := Kd.S_form HO_9.out (by have h_ : (x10_45 : Int) < ((x9_45.length : Int) : Int) := of_decide_eq_true B7x3_; have h2_ : 0 ≤ (x10_45 : Int) := (of_decide_eq_true B7x3_); omega)
                  (first | cases eo77 | (injection eo77 with ea_ en_ ec_; (first | subst ea_ | (injection ea_ with ea_; subst ea_)); subst ec_; clear en_))
                  have GB77 := Aside0.mk gb77
                  have GG77 := Aside0.mk HG77
                  clear gb77 gl77 HG77
                  (first | simp only [add_plain] at hx277_0 | skip)
                  (first | simp only [add_plain] at hx277_1 | skip)
                  (first | simp only [add_plain] at hx277_2 | skip)
                  (first | simp only [add_plain] at hx277_3 | skip)
                  (first | simp only [add_plain] at hx277_4 | skip)
                  (first | simp only [add_plain] at hx277_5 | skip)
                  (first | simp only [add_plain] at hx278_0 | skip)
                  (first | simp only [add_plain] at hx278_1 | skip)
                  (first | simp only [add_plain] at hx278_2 | skip)
                  (first | simp only [add_plain] at hx278_3 | skip)
                  (first | simp only [add_plain] at hx278_4 | skip)
                  (first | simp only [add_plain] at hx278_5 | skip)
                  (first | simp only [add_plain] at hx280_0 | skip)
                  (first | simp only [add_plain] at hx280_1 | skip)
                  (first | simp only [add_plain] at hx280_2 | skip)
                  (first | simp only [add_plain] at hx280_3 | skip)
                  (first | simp only [add_plain] at hx280_4 | skip)
                  (first | simp only [add_plain] at hx280_5 | skip)
                  obtain ⟨oki77, ce77, hcl77, hM77, hcc77, _, _, hH77⟩ := Kd.S_elem HO_9.out z82 (x10_45 : Int) (of_decide_eq_true B7x3_) (by have h_ : (x10_45 : Int) < ((x9_45.length : Int) : Int) := of_decide_eq_true B7x3_; first | exact h_ | (have e_ := (Kd.S_reads' HO_9.out).1; omega) | simpa using h_)
                  obtain ⟨ve77_2, ve77_3, rfl, ge77_2, ge77_3⟩ := k82_openM hM77
                  have hv77 := hcc77 3 _ rfl
                  have hX77 := HX280_3.out
                  (try simp only [add_plain] at hX77)
                  (try simp only [Nat.add_zero] at hv77)
                  replace hv77 := Option.some.inj (hv77.symm.trans hX77)
                  subst hv77
                  clear hX77 hcc77 hcl77
                  have UU77 := Aside0.mk (show Kd.R (Kd.int .i64) 3 _ w.heap.size oki77 (.slice A280_3 ((rd_T82 x9_45 x10_45).f3).length c280_3) ((rd_T82 x9_45 x10_45).f3) from ge77_3)
                  have HH77 := Aside0.mk hH77
                  have HN77 := Aside0.mk (Kd.S_reads' HO_9.out).1
                  have HE77_2 := Aside0.mk ge77_2
                  clear hH77 ge77_2 ge77_3
                  refine start_ (n := 14) (S := fun w' => w'.cell? ⟨gb258, 0, none⟩ = some (.int .i64 a1_0) ∧ w'.cell? ⟨gb258, 1, none⟩ = some (.int .i64 a1_1) ∧ w'.cell? ⟨gb258, 2, none⟩ = some (.int .i64 a1_2) ∧ w'.cell? ⟨gb258, 3, none⟩ = some (.int .i64 a1_3) ∧ w'.cell? ⟨gb258, 4, none⟩ = some (.bool true) ∧ w'.cell? ⟨gb258, 5, none⟩ = some (.string a1_5) ∧ w'.cell? ⟨go77, ((x10_45).toNat * 6), none⟩ = some (.int .i64 ((rd_T82 x9_45 x10_45).f0)) ∧ w'.cell? ⟨go77, ((x10_45).toNat * 6) + 1, none⟩ = some (.int .i64 ((rd_T82 x9_45 x10_45).f1)) ∧ w'.cell? ⟨go77, ((x10_45).toNat * 6) + 2, none⟩ = some (.slice A280_2 ((rd_T82 x9_45 x10_45).f2).length c280_2) ∧ w'.cell? ⟨go77, ((x10_45).toNat * 6) + 3, none⟩ = some (.slice A280_3 ((rd_T82 x9_45 x10_45).f3).length c280_3) ∧ w'.cell? ⟨go77, ((x10_45).toNat * 6) + 4, none⟩ = some (.int .i64 ((rd_T82 x9_45 x10_45).f4)) ∧ w'.cell? ⟨go77, ((x10_45).toNat * 6) + 5, none⟩ = some (.int .i64 ((rd_T82 x9_45 x10_45).f5))) (ds := [13]) #[false, false, false, false, false, false, false, false, false, false, false, false, false, false] B7x13_ rfl rfl ⟨(blk_cell BK258.out 0).trans rfl, (blk_cell BK258.out 1).trans rfl, (blk_cell BK258.out 2).trans rfl, (blk_cell BK258.out 3).trans rfl, (blk_cell BK258.out 4).trans rfl, (blk_cell BK258.out 5).trans rfl, hx280_0, hx280_1, hx280_2, hx280_3, hx280_4, hx280_5⟩ (fun hHeld => ?_); refine with_tabW spec_JoinBits.tab23 spec_JoinBits.bits23 (fun HT_ HW_ => ?_)
                  generalize wr.drew = w76 at HO_9 HL277_2 HL277_3 BK258 BK259 HR277_2 HR277_3 HB GG77 HE77_2 HH77 HL280_2 HL280_3 HR280_2 HR280_3 HX280_2 HX280_3 UU77 hx277_0 hx277_1 hx277_2 hx277_3 hx277_4 hx277_5 hx280_0 hx280_1 hx280_2 hx280_3 hx280_4 hx280_5 hHeld ⊢
                  refine pu_ 0 112 HT_ ?_
                  refine pu_ 1 113 HT_ ?_
                  refine pu_ 2 114 HT_ ?_
                  refine pu_ 3 115 HT_ ?_
                  refine pu_ 4 116 HT_ ?_
                  refine pu_ 5 117 HT_ ?_
                  refine pu_ 7 119 HT_ ?_
                  refine ta_ 6 118 HT_ HW_ hHeld ?_
                  refine ta_ 8 120 HT_ HW_ hHeld ?_
                  refine one_ (i := 9) (N := some 121) #[true, true, true, true, true, true, true, true, true, true, false, false, false, false] rfl rfl (one_of HT_.out B7x13_) (by decide) (fun K hK => ?_)
                  refine value_ (w1 := ?_) (v := ?_) (by rfl) rfl ?_ ?_
                  rotate_left 2
                  ·go_simp
                   constructor
                   ·rfl
                   ·rfl
                  refine hK.out _ _ ⟨(blk_cell (blk_alloc BK258.out _) 0).trans rfl, (blk_cell (blk_alloc BK258.out _) 1).trans rfl, (blk_cell (blk_alloc BK258.out _) 2).trans rfl, (blk_cell (blk_alloc BK258.out _) 3).trans rfl, (blk_cell (blk_alloc BK258.out _) 4).trans rfl, (blk_cell (blk_alloc BK258.out _) 5).trans rfl, (World.cell?_alloc_lt _ _ _ (World.block_lt_of_cell? _ _ (hHeld.2.2.2.2.2.2.1))).trans (hHeld.2.2.2.2.2.2.1), (World.cell?_alloc_lt _ _ _ (World.block_lt_of_cell? _ _ (hHeld.2.2.2.2.2.2.2.1))).trans (hHeld.2.2.2.2.2.2.2.1), (World.cell?_alloc_lt _ _ _ (World.block_lt_of_cell? _ _ (hHeld.2.2.2.2.2.2.2.2.1))).trans (hHeld.2.2.2.2.2.2.2.2.1), (World.cell?_alloc_lt _ _ _ (World.block_lt_of_cell? _ _ (hHeld.2.2.2.2.2.2.2.2.2.1))).trans (hHeld.2.2.2.2.2.2.2.2.2.1), (World.cell?_alloc_lt _ _ _ (World.block_lt_of_cell? _ _ (hHeld.2.2.2.2.2.2.2.2.2.2.1))).trans (hHeld.2.2.2.2.2.2.2.2.2.2.1), (World.cell?_alloc_lt _ _ _ (World.block_lt_of_cell? _ _ (hHeld.2.2.2.2.2.2.2.2.2.2.2))).trans (hHeld.2.2.2.2.2.2.2.2.2.2.2)⟩ (fun hHeld => ?_)
                  clear hK K
                  refine norm_ (a' := ?_) ?_ ?_
                  rotate_left
                  ·show Act.put _ (some 121) _ = _
                   simp only [Act.put, List.setIfInBounds_toArray, List.set_cons_zero, List.set_cons_succ, i64_w, i32_w]
                   rfl
                  refine one_ (i := 10) (N := some 122) #[true, true, true, true, true, true, true, true, true, true, true, false, false, false] rfl rfl (one_of HT_.out B7x13_) (by decide) (fun K hK => ?_)
                  refine Kd.R_append_step (Kd.int .i64) (w0 := w) w.heap.size (by rfl) (.tmp 118) (.tmp 121) 51 3 (.int .i64 0) 8 rfl Try.underlying51 info3 rfl (by decide) (by omega) (.slice A280_3 ((rd_T82 x9_45 x10_45).f3).length c280_3) ((rd_T82 x9_45 x10_45).f3) a1_3 [.int .i64 a1_3] (fun k_ => oki77 k_ ∨ ((fun k_ => (w.heap.size ≤ k_))) k_ ∧ w76.heap.size ≤ k_) (fun _ => False) rfl rfl ?aP (fun _ hk => hk.elim) ?aF ?aO ?aB ?aS ?aL ?_
                  (case aP => exact rfl)
                  (case aB => exact B7x0_)
                  (case aF => exact (fun k_ hk => .inr ⟨(by first | trivial | exact Nat.le_trans (below_size (by repeat (first | (with_reducible first | exact HB.out | apply below_alloc | apply pw_below_drewN | apply below_drew1) | exact HB.out))) hk), hk⟩))
                  (case aO => (with_reducible repeat (first | apply Kd.R_alloc | apply Kd.R_drewN | apply Kd.R_drew)); exact Kd.R_mono UU77.out (fun _ hk => .inl hk))
                  (case aS => exact B7x33_)
                  (case aL => have := LMc71.out; omega)
                  intro v282 w78 ho hb hg hat
                  (first | have HS6_ := cell_grown hg (hHeld.2.2.2.2.2.2.1) B7x1_ | have HS6_ := cell_grown hg (cell_unalloc (hHeld.2.2.2.2.2.2.1) B7x4_) B7x1_)
                  (first | have HS7_ := cell_grown hg (hHeld.2.2.2.2.2.2.2.1) B7x1_ | have HS7_ := cell_grown hg (cell_unalloc (hHeld.2.2.2.2.2.2.2.1) B7x4_) B7x1_)
                  (first | have HS8_ := cell_grown hg (hHeld.2.2.2.2.2.2.2.2.1) B7x1_ | have HS8_ := cell_grown hg (cell_unalloc (hHeld.2.2.2.2.2.2.2.2.1) B7x4_) B7x1_)
                  (first | have HS9_ := cell_grown hg (hHeld.2.2.2.2.2.2.2.2.2.1) B7x1_ | have HS9_ := cell_grown hg (cell_unalloc (hHeld.2.2.2.2.2.2.2.2.2.1) B7x4_) B7x1_)
                  (first | have HS10_ := cell_grown hg (hHeld.2.2.2.2.2.2.2.2.2.2.1) B7x1_ | have HS10_ := cell_grown hg (cell_unalloc (hHeld.2.2.2.2.2.2.2.2.2.2.1) B7x4_) B7x1_)
                  (first | have HS11_ := cell_grown hg (hHeld.2.2.2.2.2.2.2.2.2.2.2) B7x1_ | have HS11_ := cell_grown hg (cell_unalloc (hHeld.2.2.2.2.2.2.2.2.2.2.2) B7x4_) B7x1_)
                  rw [← Ny281.out] at ho
                  replace BK258 := Aside0.mk (blk_grown (g := gb258) (o := .cells #[.int .i64 a1_0, .int .i64 a1_1, .int .i64 a1_2, .int .i64 a1_3, .bool true, .string a1_5] 62 (0, 0)) B7x6_ hg (Kd.R_ne HL280_3.out BK258.out (by decide)))
                  replace BK259 := Aside0.mk (blk_grown (g := gb259) (o := .cells #[.int .i64 0, .int .i64 0, .int .i64 0, .int .i64 0, .bool false, .string (⟨#[]⟩ : ByteArray)] 62 (0, 0)) B7x5_ hg (Kd.R_ne HL280_3.out BK259.out (by decide)))
                  replace HB := Aside0.mk (hb)
                  replace HH77 := Aside0.mk (Kd.H_grown (Kd.H_widen (by repeat (first | exact HH77.out | refine Kd.H_alloc ?_ _ | refine Kd.H_drewN ?_ _ | refine Kd.H_drew ?_))) hg (fun k_ e_ => .inl (UU77.out.1 k_ e_)))
                  replace HE77_2 := Aside0.mk (Kd.R_over' (v := (.slice A280_3 ((rd_T82 x9_45 x10_45).f3).length c280_3)) (by (with_reducible repeat (first | apply Kd.R_alloc | apply Kd.R_drewN | apply Kd.R_drew)); exact HE77_2.out) (Kd.R_typed UU77.out) (by decide) hg)
                  have HO283 := Aside0.mk (ho)
                  clear HO_9
                  clear UU77
                  clear HL277_2
                  clear HL277_3
                  clear HL280_2
                  clear HL280_3
                  clear ho hb hg hat
                  have p72 : 0 ≤ (x10_45 : Int) := of_decide_eq_true B7x3_
                  have q72 : (x10_45 : Int) < ((x9_45.length : Int) : Int) := of_decide_eq_true B7x3_
                  replace p72 := eq_true p72
                  replace q72 := eq_true q72
                  obtain ⟨Ao81, co81, eo81⟩ := Kd.R_slice HO283.out
                  (first | subst eo81 | (injection eo81 with f1_ f2_ f3_; have f4_ := f1_.symm; have f5_ := f3_.symm; clear f1_ f2_ f3_; subst f4_; subst f5_))
                  obtain ⟨_, _, hraw79, _, _, hcc79, _⟩ := Kd.H_raw HH77.out (of_decide_eq_true B7x3_) (by have h_ : (x10_45 : Int) < ((x9_45.length : Int) : Int) := of_decide_eq_true B7x3_; first | exact h_ | (have e_ := (HN77.out); omega) | simpa using h_)
                  obtain ⟨_, hfr79⟩ := Kd.H_at HH77.out (of_decide_eq_true B7x3_) (by have h_ : (x10_45 : Int) < ((x9_45.length : Int) : Int) := of_decide_eq_true B7x3_; first | exact h_ | (have e_ := (HN77.out); omega) | simpa using h_)
                  have hx79_0 := hcc79 3 _ rfl
                  have hf79_0 := hfr79 3
                  (try rw [show (k82).sz = 6 from rfl] at hx79_0)
                  (try rw [show (k82).sz = 6 from rfl] at hf79_0)
                  have HP79 := Kd.S_seg0 HH77.out (of_decide_eq_true B7x3_) (by have h_ : (x10_45 : Int) < ((x9_45.length : Int) : Int) := of_decide_eq_true B7x3_; first | exact h_ | (have e_ := (HN77.out); omega) | simpa using h_) (seg := [.slice Ao81 y281.length co81]) (j := 3) (show 4 ≤ 6 from (by decide)) (x' := (⟨(rd_T82 x9_45 x10_45).f0, (rd_T82 x9_45 x10_45).f1, (rd_T82 x9_45 x10_45).f2, y281, (rd_T82 x9_45 x10_45).f4, (rd_T82 x9_45 x10_45).f5⟩ : S82)) (k82_mkM _ _ _ (⟨(rd_T82 x9_45 x10_45).f0, (rd_T82 x9_45 x10_45).f1, (rd_T82 x9_45 x10_45).f2, y281, (rd_T82 x9_45 x10_45).f4, (rd_T82 x9_45 x10_45).f5⟩ : S82) (Kd.R_mono HE77_2.out (fun _ h_ => .inl h_)) HO283.out) (fun _ hk => hk)
                  clear hcc79 hfr79
                  have HNB258_go77 := Aside0.mk (show gb258 ≠ go77 from (by have h_ := Kd.R_ne hraw79 BK258.out (by decide); intro e_; exact h_ B7x43_))
                  have HNB259_go77 := Aside0.mk (show gb259 ≠ go77 from (by have h_ := Kd.R_ne hraw79 BK259.out (by decide); intro e_; exact h_ B7x43_))
                  have HS79 := HP79.1
                  rw [← Ny284.out] at HS79
                  have HQ79 := Aside0.mk HS79
                  obtain ⟨_, hgg79⟩ := Kd.R_typed hraw79 go77 rfl
                  have GG79_ := Aside0.mk hgg79
                  clear HP79 HS79 hgg79
                  refine hK.out _ _ ⟨(blk_cell BK258.out 0).trans rfl, (blk_cell BK258.out 1).trans rfl, (blk_cell BK258.out 2).trans rfl, (blk_cell BK258.out 3).trans rfl, (blk_cell BK258.out 4).trans rfl, (blk_cell BK258.out 5).trans rfl, HS6_, HS7_, HS8_, HS9_, HS10_, HS11_⟩ (fun hHeld => ?_)
                  clear hK K
                  refine norm_ (a' := ?_) ?_ ?_
                  rotate_left
                  ·show Act.put _ (some 122) _ = _
                   simp only [Act.put, List.setIfInBounds_toArray, List.set_cons_zero, List.set_cons_succ, i64_w, i32_w]
                   rfl
                  refine pu_ 11 123 HT_ ?_
                  refine pu_ 12 124 HT_ ?_
                  refine last_ (i := 13) (N := none) #[true, true, true, true, true, true, true, true, true, true, true, true, true, true] rfl rfl (one_of HT_.out B7x13_) (by decide) (fun K hK => ?_)
                  refine skip_ (w1 := ?_) (by rfl) rfl ?_ ?_
                  rotate_left
                  ·go_simp
                   rfl
                  refine hK.out _ _ ?_
                  clear hK K
                  refine done_ (done_of HT_.out B7x13_) ?_
                  try go_wp2
                  have n0_ : Aside0 (Kd.S k82 82 (w78.setCell ⟨go77, (x10_45 : Int).toNat * 6 + 3, none⟩ (.slice Ao81 y281.length co81)) w.heap.size (fun k_ => (w.heap.size ≤ k_)) (.slice (some ⟨go77, 0, none⟩) x9_45.length co69) y284) := ⟨(by (with_reducible repeat (first | apply Kd.S_alloc | apply Kd.S_drewN | apply Kd.S_drew)); exact HQ79.out)⟩
                  have n1_ : Aside0 ((w78.setCell ⟨go77, (x10_45 : Int).toNat * 6 + 3, none⟩ (.slice Ao81 y281.length co81)).heap[gb258]? = some (.cells #[.int .i64 a1_0, .int .i64 a1_1, .int .i64 a1_2, .int .i64 a1_3, .bool true, .string a1_5] 62 (0, 0))) := ⟨B7x15_⟩
                  have n2_ : Aside0 ((w78.setCell ⟨go77, (x10_45 : Int).toNat * 6 + 3, none⟩ (.slice Ao81 y281.length co81)).heap[gb259]? = some (.cells #[.int .i64 0, .int .i64 0, .int .i64 0, .int .i64 0, .bool false, .string (⟨#[]⟩ : ByteArray)] 62 (0, 0))) := ⟨B7x16_⟩
                  have n3_ : Aside0 (Below w.heap.size w (w78.setCell ⟨go77, (x10_45 : Int).toNat * 6 + 3, none⟩ (.slice Ao81 y281.length co81))) := ⟨B7x30_⟩
                  (try clear HO_9)
                  (try clear BK258)
                  (try clear BK259)
                  (try clear HB)
                  generalize (w78.setCell ⟨go77, (x10_45 : Int).toNat * 6 + 3, none⟩ (.slice Ao81 y281.length co81)) = w82 at n0_ n1_ n2_ n3_ ⊢
                  have HO_9 := n0_
                  have BK258 := n1_
                  have BK259 := n2_
                  have HB := n3_
                  clear n0_ n1_ n2_ n3_
                  replace HO_9 := Aside0.mk (Kd.S_drew HO_9.out)
                  replace BK258 := Aside0.mk (blk_drew BK258.out)
                  replace BK259 := Aside0.mk (blk_drew BK259.out)
                  replace HB := Aside0.mk (below_drew1 HB.out)
                  have p285 : 0 ≤ (x10_45 : Int) := of_decide_eq_true B7x3_
                  have q285 : x10_45 < (y284.length : Int) := (by have h_ : (x10_45 : Int) < ((x9_45.length : Int) : Int) := of_decide_eq_true B7x3_; first | (have e_ := (Kd.S_reads' HO_9.out).1; omega) | simpa only [Ny284.out, List.length_set] using h_)
                  have ql285 : ((x10_45 : Int) < ((x9_45.length : Int) : Int)) = True := eq_true (of_decide_eq_true B7x3_)
                  obtain ⟨ad285, A285_2, c285_2, A285_3, c285_3, e285, hx285_0, hx285_1, hx285_2, hx285_3, hx285_4, hx285_5, hl285_2, hi285_2, hl285_3, hi285_3⟩ := at_T82 (Kd.S_reads' HO_9.out).2.2 x10_45 p285 q285
                  obtain rfl : (⟨go77, 0, none⟩ : Addr) = ad285 := (by injection e285)
                  obtain ⟨ce285, hce285, hMe285, hcc285⟩ := Kd.S_get HO_9.out z82 x10_45 p285 B7x36_
                  obtain ⟨ve285_2, ve285_3, rfl, ge285_2, ge285_3⟩ := k82_openM hMe285
                  have hv285_2 := hcc285 2 _ rfl
                  rw [add_field _ _ 2 (by omega)] at hv285_2
                  replace hv285_2 := Option.some.inj (hv285_2.symm.trans hx285_2)
                  rw [hv285_2] at ge285_2
                  have HL285_2 := Aside0.mk (show Kd.R Kd.string 9 _ _ _ _ ((rd_T82 y284 x10_45).f2) from ge285_2)
                  clear hv285_2 ge285_2
                  have HX285_2 := Aside0.mk hx285_2
                  have hv285_3 := hcc285 3 _ rfl
                  rw [add_field _ _ 3 (by omega)] at hv285_3
                  replace hv285_3 := Option.some.inj (hv285_3.symm.trans hx285_3)
                  rw [hv285_3] at ge285_3
                  have HL285_3 := Aside0.mk (show Kd.R (Kd.int .i64) 3 _ _ _ _ ((rd_T82 y284 x10_45).f3) from ge285_3)
                  clear hv285_3 ge285_3
                  have HX285_3 := Aside0.mk hx285_3
                  clear hcc285 hce285
                  (first | simp only [add_plain] at hx285_0 | simp only [add_at] at hx285_0 | simp only [Addr.add, Nat.zero_add] at hx285_0 | skip)
                  (first | simp only [add_plain] at hx285_1 | simp only [add_at] at hx285_1 | simp only [Addr.add, Nat.zero_add] at hx285_1 | skip)
                  (first | simp only [add_plain] at hx285_2 | simp only [add_at] at hx285_2 | simp only [Addr.add, Nat.zero_add] at hx285_2 | skip)
                  (first | simp only [add_plain] at hx285_3 | simp only [add_at] at hx285_3 | simp only [Addr.add, Nat.zero_add] at hx285_3 | skip)
                  (first | simp only [add_plain] at hx285_4 | simp only [add_at] at hx285_4 | simp only [Addr.add, Nat.zero_add] at hx285_4 | skip)
                  (first | simp only [add_plain] at hx285_5 | simp only [add_at] at hx285_5 | simp only [Addr.add, Nat.zero_add] at hx285_5 | skip)
                  have HR285_2 := Aside0.mk hi285_2
                  have HC285_2 := Aside0.mk hl285_2
                  clear hi285_2 hl285_2
                  have HR285_3 := Aside0.mk hi285_3
                  have HC285_3 := Aside0.mk hl285_3
                  clear hi285_3 hl285_3
                  replace p285 := eq_true p285
                  replace q285 := eq_true q285
                  obtain ⟨oki84, ce84, hcl84, hM84, hcc84, _, _, hH84⟩ := Kd.S_elem HO_9.out z82 (x10_45 : Int) (of_decide_eq_true B7x3_) (by have h_ : (x10_45 : Int) < ((x9_45.length : Int) : Int) := of_decide_eq_true B7x3_; first | exact h_ | (have e_ := (Kd.S_reads' HO_9.out).1; omega) | simpa using h_)
                  obtain ⟨ve84_2, ve84_3, rfl, ge84_2, ge84_3⟩ := k82_openM hM84
                  have hv84 := hcc84 2 _ rfl
                  have hX84 := HX285_2.out
                  (try simp only [add_plain] at hX84)
                  (try simp only [Nat.add_zero] at hv84)
                  replace hv84 := Option.some.inj (hv84.symm.trans hX84)
                  subst hv84
                  clear hX84 hcc84 hcl84
                  have UU84 := Aside0.mk (show Kd.R Kd.string 9 _ w.heap.size oki84 (.slice A285_2 ((rd_T82 y284 x10_45).f2).length c285_2) ((rd_T82 y284 x10_45).f2) from ge84_2)
                  have HH84 := Aside0.mk hH84
                  have HN84 := Aside0.mk (Kd.S_reads' HO_9.out).1
                  have HE84_3 := Aside0.mk ge84_3
                  clear hH84 ge84_2 ge84_3
                  refine start_ (n := 14) (S := fun w' => w'.cell? ⟨gb258, 0, none⟩ = some (.int .i64 a1_0) ∧ w'.cell? ⟨gb258, 1, none⟩ = some (.int .i64 a1_1) ∧ w'.cell? ⟨gb258, 2, none⟩ = some (.int .i64 a1_2) ∧ w'.cell? ⟨gb258, 3, none⟩ = some (.int .i64 a1_3) ∧ w'.cell? ⟨gb258, 4, none⟩ = some (.bool true) ∧ w'.cell? ⟨gb258, 5, none⟩ = some (.string a1_5) ∧ w'.cell? ⟨go77, (x10_45).toNat * 6, none⟩ = some (.int .i64 ((rd_T82 y284 x10_45).f0)) ∧ w'.cell? ⟨go77, (x10_45).toNat * 6 + 1, none⟩ = some (.int .i64 ((rd_T82 y284 x10_45).f1)) ∧ w'.cell? ⟨go77, (x10_45).toNat * 6 + 2, none⟩ = some (.slice A285_2 ((rd_T82 y284 x10_45).f2).length c285_2) ∧ w'.cell? ⟨go77, (x10_45).toNat * 6 + 3, none⟩ = some (.slice A285_3 ((rd_T82 y284 x10_45).f3).length c285_3) ∧ w'.cell? ⟨go77, (x10_45).toNat * 6 + 4, none⟩ = some (.int .i64 ((rd_T82 y284 x10_45).f4)) ∧ w'.cell? ⟨go77, (x10_45).toNat * 6 + 5, none⟩ = some (.int .i64 ((rd_T82 y284 x10_45).f5))) (ds := [13]) #[false, false, false, false, false, false, false, false, false, false, false, false, false, false] B7x13_ rfl rfl ⟨(blk_cell BK258.out 0).trans rfl, (blk_cell BK258.out 1).trans rfl, (blk_cell BK258.out 2).trans rfl, (blk_cell BK258.out 3).trans rfl, (blk_cell BK258.out 4).trans rfl, (blk_cell BK258.out 5).trans rfl, hx285_0, hx285_1, hx285_2, hx285_3, hx285_4, hx285_5⟩ (fun hHeld => ?_); refine with_tabW spec_JoinBits.tab24 spec_JoinBits.bits24 (fun HT_ HW_ => ?_)
                  generalize w82.drew = w83 at HO_9 BK258 BK259 HB HE84_3 HH84 HL285_2 HL285_3 HQ79 HR285_2 HR285_3 HX285_2 HX285_3 UU84 hx285_0 hx285_1 hx285_2 hx285_3 hx285_4 hx285_5 hHeld ⊢
                  refine pu_ 0 125 HT_ ?_
                  refine pu_ 1 126 HT_ ?_
                  refine pu_ 2 127 HT_ ?_
                  refine pu_ 3 128 HT_ ?_
                  refine pu_ 4 129 HT_ ?_
                  refine pu_ 5 130 HT_ ?_
                  refine pu_ 7 132 HT_ ?_
                  refine ta_ 6 131 HT_ HW_ hHeld ?_
                  refine ta_ 8 133 HT_ HW_ hHeld ?_
                  refine one_ (i := 9) (N := some 134) #[true, true, true, true, true, true, true, true, true, true, false, false, false, false] rfl rfl (one_of HT_.out B7x13_) (by decide) (fun K hK => ?_)
                  refine value_ (w1 := ?_) (v := ?_) (by rfl) rfl ?_ ?_
                  rotate_left 2
                  ·go_simp
                   constructor
                   ·rfl
                   ·rfl
                  refine hK.out _ _ ⟨(blk_cell (blk_alloc BK258.out _) 0).trans rfl, (blk_cell (blk_alloc BK258.out _) 1).trans rfl, (blk_cell (blk_alloc BK258.out _) 2).trans rfl, (blk_cell (blk_alloc BK258.out _) 3).trans rfl, (blk_cell (blk_alloc BK258.out _) 4).trans rfl, (blk_cell (blk_alloc BK258.out _) 5).trans rfl, (World.cell?_alloc_lt _ _ _ (World.block_lt_of_cell? _ _ (hHeld.2.2.2.2.2.2.1))).trans (hHeld.2.2.2.2.2.2.1), (World.cell?_alloc_lt _ _ _ (World.block_lt_of_cell? _ _ (hHeld.2.2.2.2.2.2.2.1))).trans (hHeld.2.2.2.2.2.2.2.1), (World.cell?_alloc_lt _ _ _ (World.block_lt_of_cell? _ _ (hHeld.2.2.2.2.2.2.2.2.1))).trans (hHeld.2.2.2.2.2.2.2.2.1), (World.cell?_alloc_lt _ _ _ (World.block_lt_of_cell? _ _ (hHeld.2.2.2.2.2.2.2.2.2.1))).trans (hHeld.2.2.2.2.2.2.2.2.2.1), (World.cell?_alloc_lt _ _ _ (World.block_lt_of_cell? _ _ (hHeld.2.2.2.2.2.2.2.2.2.2.1))).trans (hHeld.2.2.2.2.2.2.2.2.2.2.1), (World.cell?_alloc_lt _ _ _ (World.block_lt_of_cell? _ _ (hHeld.2.2.2.2.2.2.2.2.2.2.2))).trans (hHeld.2.2.2.2.2.2.2.2.2.2.2)⟩ (fun hHeld => ?_)
                  clear hK K
                  refine norm_ (a' := ?_) ?_ ?_
                  rotate_left
                  ·show Act.put _ (some 134) _ = _
                   simp only [Act.put, List.setIfInBounds_toArray, List.set_cons_zero, List.set_cons_succ, i64_w, i32_w]
                   rfl
                  refine one_ (i := 10) (N := some 135) #[true, true, true, true, true, true, true, true, true, true, true, false, false, false] rfl rfl (one_of HT_.out B7x13_) (by decide) (fun K hK => ?_)
                  refine Kd.R_append_step Kd.string (w0 := w) w.heap.size (by rfl) (.tmp 131) (.tmp 134) 25 9 (.string ⟨#[]⟩) 16 rfl Try.underlying25 info9 rfl (by decide) (by omega) (.slice A285_2 ((rd_T82 y284 x10_45).f2).length c285_2) ((rd_T82 y284 x10_45).f2) a1_5 [.string a1_5] (fun k_ => oki84 k_ ∨ ((fun k_ => (w.heap.size ≤ k_))) k_ ∧ w83.heap.size ≤ k_) (fun _ => False) rfl rfl ?aP (fun _ hk => hk.elim) ?aF ?aO ?aB ?aS ?aL ?_
                  (case aP => exact rfl)
                  (case aB => exact B7x0_)
                  (case aF => exact (fun k_ hk => .inr ⟨(by first | trivial | exact Nat.le_trans (below_size (by repeat (first | (with_reducible first | exact HB.out | apply below_alloc | apply pw_below_drewN | apply below_drew1) | exact HB.out))) hk), hk⟩))
                  (case aO => (with_reducible repeat (first | apply Kd.R_alloc | apply Kd.R_drewN | apply Kd.R_drew)); exact Kd.R_mono UU84.out (fun _ hk => .inl hk))
                  (case aS => exact B7x33_)
                  (case aL => have := LMc73.out; omega)
                  intro v287 w85 ho hb hg hat
                  (first | have HS6_ := cell_grown hg (hHeld.2.2.2.2.2.2.1) B7x2_ | have HS6_ := cell_grown hg (cell_unalloc (hHeld.2.2.2.2.2.2.1) B7x4_) B7x2_)
                  (first | have HS7_ := cell_grown hg (hHeld.2.2.2.2.2.2.2.1) B7x2_ | have HS7_ := cell_grown hg (cell_unalloc (hHeld.2.2.2.2.2.2.2.1) B7x4_) B7x2_)
                  (first | have HS8_ := cell_grown hg (hHeld.2.2.2.2.2.2.2.2.1) B7x2_ | have HS8_ := cell_grown hg (cell_unalloc (hHeld.2.2.2.2.2.2.2.2.1) B7x4_) B7x2_)
                  (first | have HS9_ := cell_grown hg (hHeld.2.2.2.2.2.2.2.2.2.1) B7x2_ | have HS9_ := cell_grown hg (cell_unalloc (hHeld.2.2.2.2.2.2.2.2.2.1) B7x4_) B7x2_)
                  (first | have HS10_ := cell_grown hg (hHeld.2.2.2.2.2.2.2.2.2.2.1) B7x2_ | have HS10_ := cell_grown hg (cell_unalloc (hHeld.2.2.2.2.2.2.2.2.2.2.1) B7x4_) B7x2_)
                  (first | have HS11_ := cell_grown hg (hHeld.2.2.2.2.2.2.2.2.2.2.2) B7x2_ | have HS11_ := cell_grown hg (cell_unalloc (hHeld.2.2.2.2.2.2.2.2.2.2.2) B7x4_) B7x2_)
                  rw [← Ny286.out] at ho
                  replace BK258 := Aside0.mk (blk_grown (g := gb258) (o := .cells #[.int .i64 a1_0, .int .i64 a1_1, .int .i64 a1_2, .int .i64 a1_3, .bool true, .string a1_5] 62 (0, 0)) B7x6_ hg (Kd.R_ne HL285_2.out BK258.out (by decide)))
                  replace BK259 := Aside0.mk (blk_grown (g := gb259) (o := .cells #[.int .i64 0, .int .i64 0, .int .i64 0, .int .i64 0, .bool false, .string (⟨#[]⟩ : ByteArray)] 62 (0, 0)) B7x5_ hg (Kd.R_ne HL285_2.out BK259.out (by decide)))
                  replace HB := Aside0.mk (hb)
                  replace HH84 := Aside0.mk (Kd.H_grown (Kd.H_widen (by repeat (first | exact HH84.out | refine Kd.H_alloc ?_ _ | refine Kd.H_drewN ?_ _ | refine Kd.H_drew ?_))) hg (fun k_ e_ => .inl (UU84.out.1 k_ e_)))
                  replace HE84_3 := Aside0.mk (Kd.R_over' (v := (.slice A285_2 ((rd_T82 y284 x10_45).f2).length c285_2)) (by (with_reducible repeat (first | apply Kd.R_alloc | apply Kd.R_drewN | apply Kd.R_drew)); exact HE84_3.out) (Kd.R_typed UU84.out) (by decide) hg)
                  have HO288 := Aside0.mk (ho)
                  clear HO_9
                  clear UU84
                  clear HL285_2
                  clear HL285_3
                  clear ho hb hg hat
                  have p74 : 0 ≤ (x10_45 : Int) := of_decide_eq_true B7x3_
                  have q74 : (x10_45 : Int) < ((x9_45.length : Int) : Int) := of_decide_eq_true B7x3_
                  replace p74 := eq_true p74
                  replace q74 := eq_true q74
                  obtain ⟨Ao88, co88, eo88⟩ := Kd.R_slice HO288.out
                  (first | subst eo88 | (injection eo88 with f1_ f2_ f3_; have f4_ := f1_.symm; have f5_ := f3_.symm; clear f1_ f2_ f3_; subst f4_; subst f5_))
                  obtain ⟨_, _, hraw86, _, _, hcc86, _⟩ := Kd.H_raw HH84.out (of_decide_eq_true B7x3_) (by have h_ : (x10_45 : Int) < ((x9_45.length : Int) : Int) := of_decide_eq_true B7x3_; first | exact h_ | (have e_ := (HN84.out); omega) | simpa using h_)
                  obtain ⟨_, hfr86⟩ := Kd.H_at HH84.out (of_decide_eq_true B7x3_) (by have h_ : (x10_45 : Int) < ((x9_45.length : Int) : Int) := of_decide_eq_true B7x3_; first | exact h_ | (have e_ := (HN84.out); omega) | simpa using h_)
                  have hx86_0 := hcc86 2 _ rfl
                  have hf86_0 := hfr86 2
                  (try rw [show (k82).sz = 6 from rfl] at hx86_0)
                  (try rw [show (k82).sz = 6 from rfl] at hf86_0)
                  have HP86 := Kd.S_seg0 HH84.out (of_decide_eq_true B7x3_) (by have h_ : (x10_45 : Int) < ((x9_45.length : Int) : Int) := of_decide_eq_true B7x3_; first | exact h_ | (have e_ := (HN84.out); omega) | simpa using h_) (seg := [.slice Ao88 y286.length co88]) (j := 2) (show 3 ≤ 6 from (by decide)) (x' := (⟨(rd_T82 y284 x10_45).f0, (rd_T82 y284 x10_45).f1, y286, (rd_T82 y284 x10_45).f3, (rd_T82 y284 x10_45).f4, (rd_T82 y284 x10_45).f5⟩ : S82)) (k82_mkM _ _ _ (⟨(rd_T82 y284 x10_45).f0, (rd_T82 y284 x10_45).f1, y286, (rd_T82 y284 x10_45).f3, (rd_T82 y284 x10_45).f4, (rd_T82 y284 x10_45).f5⟩ : S82) HO288.out (Kd.R_mono HE84_3.out (fun _ h_ => .inl h_))) (fun _ hk => hk)
                  clear hcc86 hfr86
                  have HNB258_go77 := Aside0.mk (show gb258 ≠ go77 from (by have h_ := Kd.R_ne hraw86 BK258.out (by decide); intro e_; exact h_ B7x43_))
                  have HNB259_go77 := Aside0.mk (show gb259 ≠ go77 from (by have h_ := Kd.R_ne hraw86 BK259.out (by decide); intro e_; exact h_ B7x43_))
                  have HS86 := HP86.1
                  rw [← Ny289.out] at HS86
                  have HQ86 := Aside0.mk HS86
                  obtain ⟨_, hgg86⟩ := Kd.R_typed hraw86 go77 rfl
                  have GG86_ := Aside0.mk hgg86
                  clear HP86 HS86 hgg86
                  refine hK.out _ _ ⟨(blk_cell BK258.out 0).trans rfl, (blk_cell BK258.out 1).trans rfl, (blk_cell BK258.out 2).trans rfl, (blk_cell BK258.out 3).trans rfl, (blk_cell BK258.out 4).trans rfl, (blk_cell BK258.out 5).trans rfl, HS6_, HS7_, HS8_, HS9_, HS10_, HS11_⟩ (fun hHeld => ?_)
                  clear hK K
                  refine norm_ (a' := ?_) ?_ ?_
                  rotate_left
                  ·show Act.put _ (some 135) _ = _
                   simp only [Act.put, List.setIfInBounds_toArray, List.set_cons_zero, List.set_cons_succ, i64_w, i32_w]
                   rfl
                  refine pu_ 11 136 HT_ ?_
                  refine pu_ 12 137 HT_ ?_
                  refine last_ (i := 13) (N := none) #[true, true, true, true, true, true, true, true, true, true, true, true, true, true] rfl rfl (one_of HT_.out B7x13_) (by decide) (fun K hK => ?_)
                  refine skip_ (w1 := ?_) (by rfl) rfl ?_ ?_
                  rotate_left
                  ·go_simp
                   rfl
                  refine hK.out _ _ ?_
                  clear hK K
                  refine done_ (done_of HT_.out B7x13_) ?_
                  have hnb89 := NB258_259.out
                  have hnc89 := NB259_258.out
                  obtain ⟨hcz90_0, hcz90_1, hcz90_2, hcz90_3, hcz90_4, hcz90_5⟩ := cl6 BK258.out
                  obtain ⟨hfz90_0, hfz90_1, hfz90_2, hfz90_3, hfz90_4, hfz90_5⟩ := fr6 BK258.out
                  try go_wp2
                  go_meet
                  case rel => exact ⟨_, (y289), H', ⟨B7x14_⟩, ⟨Kd.R_N ((Kd.S_R (by (with_reducible repeat (first | apply Kd.S_alloc | apply Kd.S_drewN | apply Kd.S_drew)); exact Kd.S_mono (Kd.S_types (g := gb259) (t := 62) (cells := #[.int .i64 0, .int .i64 0, .int .i64 0, .int .i64 0, .bool false, .string (⟨#[]⟩ : ByteArray)]) (Kd.S_types (g := gb258) (t := 62) (cells := #[.int .i64 a1_0, .int .i64 a1_1, .int .i64 a1_2, .int .i64 a1_3, .bool true, .string a1_5]) (show Kd.S k82 82 (w85.setCell ⟨go77, (x10_45 : Int).toNat * 6 + 2, none⟩ (.slice Ao88 y286.length co88)) w.heap.size _ _ _ from HQ86.out) B7x15_ (by decide)) B7x16_ (by decide)) (fun _ hk => ⟨hk.1.1, ⟨hk.1.2, hk.2⟩⟩))))⟩, ⟨B7x15_⟩, ⟨B7x16_⟩, ⟨B7x30_⟩⟩
                 ·replace c75 := Bool.eq_false_iff.mpr c75
                  subst c75
                  rw [if_neg (show ¬ (false = true) by decide)] at H
                  by_cases c91 : ((rd_T82 y289 x10_45).f4) = 0
                  ·rw [if_pos c91] at H
                   have c91b0 := beq_iff_eq.mpr c91
                   have c91b1 := bne_eq_false_iff_eq.mpr c91
                   clear c91
                   (first | rw [c91b0] | (simp only [i64_w, i32_w]; rw [c91b0]) | skip)
                   obtain ⟨y291, hy291⟩ : ∃ y_ : List (S82), y_ = (y289.set (x10_45 : Int).toNat (⟨(rd_T82 y289 x10_45).f0, (rd_T82 y289 x10_45).f1, (rd_T82 y289 x10_45).f2, (rd_T82 y289 x10_45).f3, wrap64 (a1_3 + (a1_5.size : Int)), (rd_T82 y289 x10_45).f5⟩ : S82)) := ⟨_, rfl⟩
                   replace H : (spec_JoinBits.j8 k5 y291 x10_45 a1_0 a1_1 a1_2 a1_3 false a1_5) = some (r1, r2, r3, r4, r5, r6, r7, r8) := by first | (rw [hy291]; with_reducible exact H) | (have H2_ := (Option.bind_some _ _).symm.trans H; rw [hy291]; with_reducible exact H2_) | (have H2_ := (Option.bind_some _ _).symm.trans H; with_reducible exact H2_) | with_reducible exact H | (rw [hy291]; exact H) | exact H
                   have Ny291 := Aside0.mk hy291
                   clear hy291
                   have H' := Aside0.mk H
                   clear H
                   try go_wp2
                   replace HO_9 := Aside0.mk (Kd.S_drew HO_9.out)
                   replace HL277_2 := Aside0.mk (Kd.R_drew HL277_2.out)
                   replace HL277_3 := Aside0.mk (Kd.R_drew HL277_3.out)
                   replace BK258 := Aside0.mk (blk_drew BK258.out)
                   replace BK259 := Aside0.mk (blk_drew BK259.out)
                   replace HR277_2 := Aside0.mk (Kd.C_drew HR277_2.out)
                   replace HR277_3 := Aside0.mk (Kd.C_drew HR277_3.out)
                   replace HB := Aside0.mk (below_drew1 HB.out)
                   have p280 : 0 ≤ (x10_45 : Int) := of_decide_eq_true B7x3_
                   have q280 : x10_45 < (x9_45.length : Int) := of_decide_eq_true B7x3_
                   obtain ⟨ad280, A280_2, c280_2, A280_3, c280_3, e280, hx280_0, hx280_1, hx280_2, hx280_3, hx280_4, hx280_5, hl280_2, hi280_2, hl280_3, hi280_3⟩ := at_T82 (Kd.S_reads' HO_9.out).2.2 x10_45 p280 q280
                   obtain rfl : ad277 = ad280 := (by injection e280)
                   obtain ⟨ce280, hce280, hMe280, hcc280⟩ := Kd.S_get HO_9.out z82 x10_45 p280 B7x35_
                   obtain ⟨ve280_2, ve280_3, rfl, ge280_2, ge280_3⟩ := k82_openM hMe280
                   have hv280_2 := hcc280 2 _ rfl
                   rw [add_field _ _ 2 (by omega)] at hv280_2
                   replace hv280_2 := Option.some.inj (hv280_2.symm.trans hx280_2)
                   rw [hv280_2] at ge280_2
                   have HL280_2 := Aside0.mk (show Kd.R Kd.string 9 _ _ _ _ ((rd_T82 x9_45 x10_45).f2) from ge280_2)
                   clear hv280_2 ge280_2
                   have HX280_2 := Aside0.mk hx280_2
                   have hv280_3 := hcc280 3 _ rfl
                   rw [add_field _ _ 3 (by omega)] at hv280_3
                   replace hv280_3 := Option.some.inj (hv280_3.symm.trans hx280_3)
                   rw [hv280_3] at ge280_3
                   have HL280_3 := Aside0.mk (show Kd.R (Kd.int .i64) 3 _ _ _ _ ((rd_T82 x9_45 x10_45).f3) from ge280_3)
                   clear hv280_3 ge280_3
                   have HX280_3 := Aside0.mk hx280_3
                   clear hcc280 hce280
                   have HR280_2 := Aside0.mk hi280_2
                   have HC280_2 := Aside0.mk hl280_2
                   clear hi280_2 hl280_2
                   have HR280_3 := Aside0.mk hi280_3
                   have HC280_3 := Aside0.mk hl280_3
                   clear hi280_3 hl280_3
                   replace p280 := eq_true p280
                   replace q280 := eq_true q280
                   obtain ⟨go94, co94, eo94, gb94, gl94, cl94, HG94⟩ := Kd.S_form HO_9.out (by have h_ : (x10_45 : Int) < ((x9_45.length : Int) : Int) := of_decide_eq_true B7x3_; have h2_ : 0 ≤ (x10_45 : Int) := (of_decide_eq_true B7x3_); omega)
                   (first | cases eo94 | (injection eo94 with ea_ en_ ec_; (first | subst ea_ | (injection ea_ with ea_; subst ea_)); subst ec_; clear en_))
                   have GB94 := Aside0.mk gb94
                   have GG94 := Aside0.mk HG94
                   clear gb94 gl94 HG94
                   (first | simp only [add_plain] at hx280_0 | skip)
                   (first | simp only [add_plain] at hx280_1 | skip)
                   (first | simp only [add_plain] at hx280_2 | skip)
                   (first | simp only [add_plain] at hx280_3 | skip)
                   (first | simp only [add_plain] at hx280_4 | skip)
                   (first | simp only [add_plain] at hx280_5 | skip)
                   obtain ⟨oki94, ce94, hcl94, hM94, hcc94, _, _, hH94⟩ := Kd.S_elem HO_9.out z82 (x10_45 : Int) (of_decide_eq_true B7x3_) (by have h_ : (x10_45 : Int) < ((x9_45.length : Int) : Int) := of_decide_eq_true B7x3_; first | exact h_ | (have e_ := (Kd.S_reads' HO_9.out).1; omega) | simpa using h_)
                   obtain ⟨ve94_2, ve94_3, rfl, ge94_2, ge94_3⟩ := k82_openM hM94
                   have hv94 := hcc94 3 _ rfl
                   have hX94 := HX280_3.out
                   (try simp only [add_plain] at hX94)
                   (try simp only [Nat.add_zero] at hv94)
                   replace hv94 := Option.some.inj (hv94.symm.trans hX94)
                   subst hv94
                   clear hX94 hcc94 hcl94
                   have UU94 := Aside0.mk (show Kd.R (Kd.int .i64) 3 _ w.heap.size oki94 (.slice A280_3 ((rd_T82 x9_45 x10_45).f3).length c280_3) ((rd_T82 x9_45 x10_45).f3) from ge94_3)
                   have HH94 := Aside0.mk hH94
                   have HN94 := Aside0.mk (Kd.S_reads' HO_9.out).1
                   have HE94_2 := Aside0.mk ge94_2
                   clear hH94 ge94_2 ge94_3
                   refine start_ (n := 14) (S := fun w' => w'.cell? ⟨gb258, 0, none⟩ = some (.int .i64 a1_0) ∧ w'.cell? ⟨gb258, 1, none⟩ = some (.int .i64 a1_1) ∧ w'.cell? ⟨gb258, 2, none⟩ = some (.int .i64 a1_2) ∧ w'.cell? ⟨gb258, 3, none⟩ = some (.int .i64 a1_3) ∧ w'.cell? ⟨gb258, 4, none⟩ = some (.bool false) ∧ w'.cell? ⟨gb258, 5, none⟩ = some (.string a1_5) ∧ w'.cell? ⟨go94, ((x10_45).toNat * 6), none⟩ = some (.int .i64 ((rd_T82 x9_45 x10_45).f0)) ∧ w'.cell? ⟨go94, ((x10_45).toNat * 6) + 1, none⟩ = some (.int .i64 ((rd_T82 x9_45 x10_45).f1)) ∧ w'.cell? ⟨go94, ((x10_45).toNat * 6) + 2, none⟩ = some (.slice A280_2 ((rd_T82 x9_45 x10_45).f2).length c280_2) ∧ w'.cell? ⟨go94, ((x10_45).toNat * 6) + 3, none⟩ = some (.slice A280_3 ((rd_T82 x9_45 x10_45).f3).length c280_3) ∧ w'.cell? ⟨go94, ((x10_45).toNat * 6) + 4, none⟩ = some (.int .i64 ((rd_T82 x9_45 x10_45).f4)) ∧ w'.cell? ⟨go94, ((x10_45).toNat * 6) + 5, none⟩ = some (.int .i64 ((rd_T82 x9_45 x10_45).f5))) (ds := [13]) #[false, false, false, false, false, false, false, false, false, false, false, false, false, false] B7x13_ rfl rfl ⟨(blk_cell BK258.out 0).trans rfl, (blk_cell BK258.out 1).trans rfl, (blk_cell BK258.out 2).trans rfl, (blk_cell BK258.out 3).trans rfl, (blk_cell BK258.out 4).trans rfl, (blk_cell BK258.out 5).trans rfl, hx280_0, hx280_1, hx280_2, hx280_3, hx280_4, hx280_5⟩ (fun hHeld => ?_); refine with_tabW spec_JoinBits.tab23 spec_JoinBits.bits23 (fun HT_ HW_ => ?_)
                   generalize wr.drew = w93 at HO_9 HL277_2 HL277_3 BK258 BK259 HR277_2 HR277_3 HB GG94 HE94_2 HH94 HL280_2 HL280_3 HR280_2 HR280_3 HX280_2 HX280_3 UU94 hx280_0 hx280_1 hx280_2 hx280_3 hx280_4 hx280_5 hHeld ⊢
                   refine pu_ 0 112 HT_ ?_
                   refine pu_ 1 113 HT_ ?_
                   refine pu_ 2 114 HT_ ?_
                   refine pu_ 3 115 HT_ ?_
                   refine pu_ 4 116 HT_ ?_
                   refine pu_ 5 117 HT_ ?_
                   refine pu_ 7 119 HT_ ?_
                   refine ta_ 6 118 HT_ HW_ hHeld ?_
                   refine ta_ 8 120 HT_ HW_ hHeld ?_
                   refine one_ (i := 9) (N := some 121) #[true, true, true, true, true, true, true, true, true, true, false, false, false, false] rfl rfl (one_of HT_.out B7x13_) (by decide) (fun K hK => ?_)
                   refine value_ (w1 := ?_) (v := ?_) (by rfl) rfl ?_ ?_
                   rotate_left 2
                   ·go_simp
                    constructor
                    ·rfl
                    ·rfl
                   refine hK.out _ _ ⟨(blk_cell (blk_alloc BK258.out _) 0).trans rfl, (blk_cell (blk_alloc BK258.out _) 1).trans rfl, (blk_cell (blk_alloc BK258.out _) 2).trans rfl, (blk_cell (blk_alloc BK258.out _) 3).trans rfl, (blk_cell (blk_alloc BK258.out _) 4).trans rfl, (blk_cell (blk_alloc BK258.out _) 5).trans rfl, (World.cell?_alloc_lt _ _ _ (World.block_lt_of_cell? _ _ (hHeld.2.2.2.2.2.2.1))).trans (hHeld.2.2.2.2.2.2.1), (World.cell?_alloc_lt _ _ _ (World.block_lt_of_cell? _ _ (hHeld.2.2.2.2.2.2.2.1))).trans (hHeld.2.2.2.2.2.2.2.1), (World.cell?_alloc_lt _ _ _ (World.block_lt_of_cell? _ _ (hHeld.2.2.2.2.2.2.2.2.1))).trans (hHeld.2.2.2.2.2.2.2.2.1), (World.cell?_alloc_lt _ _ _ (World.block_lt_of_cell? _ _ (hHeld.2.2.2.2.2.2.2.2.2.1))).trans (hHeld.2.2.2.2.2.2.2.2.2.1), (World.cell?_alloc_lt _ _ _ (World.block_lt_of_cell? _ _ (hHeld.2.2.2.2.2.2.2.2.2.2.1))).trans (hHeld.2.2.2.2.2.2.2.2.2.2.1), (World.cell?_alloc_lt _ _ _ (World.block_lt_of_cell? _ _ (hHeld.2.2.2.2.2.2.2.2.2.2.2))).trans (hHeld.2.2.2.2.2.2.2.2.2.2.2)⟩ (fun hHeld => ?_)
                   clear hK K
                   refine norm_ (a' := ?_) ?_ ?_
                   rotate_left
                   ·show Act.put _ (some 121) _ = _
                    simp only [Act.put, List.setIfInBounds_toArray, List.set_cons_zero, List.set_cons_succ, i64_w, i32_w]
                    rfl
                   refine one_ (i := 10) (N := some 122) #[true, true, true, true, true, true, true, true, true, true, true, false, false, false] rfl rfl (one_of HT_.out B7x13_) (by decide) (fun K hK => ?_)
                   refine Kd.R_append_step (Kd.int .i64) (w0 := w) w.heap.size (by rfl) (.tmp 118) (.tmp 121) 51 3 (.int .i64 0) 8 rfl Try.underlying51 info3 rfl (by decide) (by omega) (.slice A280_3 ((rd_T82 x9_45 x10_45).f3).length c280_3) ((rd_T82 x9_45 x10_45).f3) a1_3 [.int .i64 a1_3] (fun k_ => oki94 k_ ∨ ((fun k_ => (w.heap.size ≤ k_))) k_ ∧ w93.heap.size ≤ k_) (fun _ => False) rfl rfl ?aP (fun _ hk => hk.elim) ?aF ?aO ?aB ?aS ?aL ?_
                   (case aP => exact rfl)
                   (case aB => exact B7x0_)
                   (case aF => exact (fun k_ hk => .inr ⟨(by first | trivial | exact Nat.le_trans (below_size (by repeat (first | (with_reducible first | exact HB.out | apply below_alloc | apply pw_below_drewN | apply below_drew1) | exact HB.out))) hk), hk⟩))
                   (case aO => (with_reducible repeat (first | apply Kd.R_alloc | apply Kd.R_drewN | apply Kd.R_drew)); exact Kd.R_mono UU94.out (fun _ hk => .inl hk))
                   (case aS => exact B7x33_)
                   (case aL => have := LMc71.out; omega)
                   intro v282 w95 ho hb hg hat
                   (first | have HS6_ := cell_grown hg (hHeld.2.2.2.2.2.2.1) B7x1_ | have HS6_ := cell_grown hg (cell_unalloc (hHeld.2.2.2.2.2.2.1) B7x4_) B7x1_)
                   (first | have HS7_ := cell_grown hg (hHeld.2.2.2.2.2.2.2.1) B7x1_ | have HS7_ := cell_grown hg (cell_unalloc (hHeld.2.2.2.2.2.2.2.1) B7x4_) B7x1_)
                   (first | have HS8_ := cell_grown hg (hHeld.2.2.2.2.2.2.2.2.1) B7x1_ | have HS8_ := cell_grown hg (cell_unalloc (hHeld.2.2.2.2.2.2.2.2.1) B7x4_) B7x1_)
                   (first | have HS9_ := cell_grown hg (hHeld.2.2.2.2.2.2.2.2.2.1) B7x1_ | have HS9_ := cell_grown hg (cell_unalloc (hHeld.2.2.2.2.2.2.2.2.2.1) B7x4_) B7x1_)
                   (first | have HS10_ := cell_grown hg (hHeld.2.2.2.2.2.2.2.2.2.2.1) B7x1_ | have HS10_ := cell_grown hg (cell_unalloc (hHeld.2.2.2.2.2.2.2.2.2.2.1) B7x4_) B7x1_)
                   (first | have HS11_ := cell_grown hg (hHeld.2.2.2.2.2.2.2.2.2.2.2) B7x1_ | have HS11_ := cell_grown hg (cell_unalloc (hHeld.2.2.2.2.2.2.2.2.2.2.2) B7x4_) B7x1_)
                   rw [← Ny281.out] at ho
                   replace BK258 := Aside0.mk (blk_grown (g := gb258) (o := .cells #[.int .i64 a1_0, .int .i64 a1_1, .int .i64 a1_2, .int .i64 a1_3, .bool false, .string a1_5] 62 (0, 0)) B7x6_ hg (Kd.R_ne HL280_3.out BK258.out (by decide)))
                   replace BK259 := Aside0.mk (blk_grown (g := gb259) (o := .cells #[.int .i64 0, .int .i64 0, .int .i64 0, .int .i64 0, .bool false, .string (⟨#[]⟩ : ByteArray)] 62 (0, 0)) B7x5_ hg (Kd.R_ne HL280_3.out BK259.out (by decide)))
                   replace HB := Aside0.mk (hb)
                   replace HH94 := Aside0.mk (Kd.H_grown (Kd.H_widen (by repeat (first | exact HH94.out | refine Kd.H_alloc ?_ _ | refine Kd.H_drewN ?_ _ | refine Kd.H_drew ?_))) hg (fun k_ e_ => .inl (UU94.out.1 k_ e_)))
                   replace HE94_2 := Aside0.mk (Kd.R_over' (v := (.slice A280_3 ((rd_T82 x9_45 x10_45).f3).length c280_3)) (by (with_reducible repeat (first | apply Kd.R_alloc | apply Kd.R_drewN | apply Kd.R_drew)); exact HE94_2.out) (Kd.R_typed UU94.out) (by decide) hg)
                   have HO283 := Aside0.mk (ho)
                   clear HO_9
                   clear UU94
                   clear HL277_2
                   clear HL277_3
                   clear HL280_2
                   clear HL280_3
                   clear ho hb hg hat
                   have p72 : 0 ≤ (x10_45 : Int) := of_decide_eq_true B7x3_
                   have q72 : (x10_45 : Int) < ((x9_45.length : Int) : Int) := of_decide_eq_true B7x3_
                   replace p72 := eq_true p72
                   replace q72 := eq_true q72
                   obtain ⟨Ao98, co98, eo98⟩ := Kd.R_slice HO283.out
                   (first | subst eo98 | (injection eo98 with f1_ f2_ f3_; have f4_ := f1_.symm; have f5_ := f3_.symm; clear f1_ f2_ f3_; subst f4_; subst f5_))
                   obtain ⟨_, _, hraw96, _, _, hcc96, _⟩ := Kd.H_raw HH94.out (of_decide_eq_true B7x3_) (by have h_ : (x10_45 : Int) < ((x9_45.length : Int) : Int) := of_decide_eq_true B7x3_; first | exact h_ | (have e_ := (HN94.out); omega) | simpa using h_)
                   obtain ⟨_, hfr96⟩ := Kd.H_at HH94.out (of_decide_eq_true B7x3_) (by have h_ : (x10_45 : Int) < ((x9_45.length : Int) : Int) := of_decide_eq_true B7x3_; first | exact h_ | (have e_ := (HN94.out); omega) | simpa using h_)
                   have hx96_0 := hcc96 3 _ rfl
                   have hf96_0 := hfr96 3
                   (try rw [show (k82).sz = 6 from rfl] at hx96_0)
                   (try rw [show (k82).sz = 6 from rfl] at hf96_0)
                   have HP96 := Kd.S_seg0 HH94.out (of_decide_eq_true B7x3_) (by have h_ : (x10_45 : Int) < ((x9_45.length : Int) : Int) := of_decide_eq_true B7x3_; first | exact h_ | (have e_ := (HN94.out); omega) | simpa using h_) (seg := [.slice Ao98 y281.length co98]) (j := 3) (show 4 ≤ 6 from (by decide)) (x' := (⟨(rd_T82 x9_45 x10_45).f0, (rd_T82 x9_45 x10_45).f1, (rd_T82 x9_45 x10_45).f2, y281, (rd_T82 x9_45 x10_45).f4, (rd_T82 x9_45 x10_45).f5⟩ : S82)) (k82_mkM _ _ _ (⟨(rd_T82 x9_45 x10_45).f0, (rd_T82 x9_45 x10_45).f1, (rd_T82 x9_45 x10_45).f2, y281, (rd_T82 x9_45 x10_45).f4, (rd_T82 x9_45 x10_45).f5⟩ : S82) (Kd.R_mono HE94_2.out (fun _ h_ => .inl h_)) HO283.out) (fun _ hk => hk)
                   clear hcc96 hfr96
                   have HNB258_go94 := Aside0.mk (show gb258 ≠ go94 from (by have h_ := Kd.R_ne hraw96 BK258.out (by decide); intro e_; exact h_ B7x43_))
                   have HNB259_go94 := Aside0.mk (show gb259 ≠ go94 from (by have h_ := Kd.R_ne hraw96 BK259.out (by decide); intro e_; exact h_ B7x43_))
                   have HS96 := HP96.1
                   rw [← Ny284.out] at HS96
                   have HQ96 := Aside0.mk HS96
                   obtain ⟨_, hgg96⟩ := Kd.R_typed hraw96 go94 rfl
                   have GG96_ := Aside0.mk hgg96
                   clear HP96 HS96 hgg96
                   refine hK.out _ _ ⟨(blk_cell BK258.out 0).trans rfl, (blk_cell BK258.out 1).trans rfl, (blk_cell BK258.out 2).trans rfl, (blk_cell BK258.out 3).trans rfl, (blk_cell BK258.out 4).trans rfl, (blk_cell BK258.out 5).trans rfl, HS6_, HS7_, HS8_, HS9_, HS10_, HS11_⟩ (fun hHeld => ?_)
                   clear hK K
                   refine norm_ (a' := ?_) ?_ ?_
                   rotate_left
                   ·show Act.put _ (some 122) _ = _
                    simp only [Act.put, List.setIfInBounds_toArray, List.set_cons_zero, List.set_cons_succ, i64_w, i32_w]
                    rfl
                   refine pu_ 11 123 HT_ ?_
                   refine pu_ 12 124 HT_ ?_
                   refine last_ (i := 13) (N := none) #[true, true, true, true, true, true, true, true, true, true, true, true, true, true] rfl rfl (one_of HT_.out B7x13_) (by decide) (fun K hK => ?_)
                   refine skip_ (w1 := ?_) (by rfl) rfl ?_ ?_
                   rotate_left
                   ·go_simp
                    rfl
                   refine hK.out _ _ ?_
                   clear hK K
                   refine done_ (done_of HT_.out B7x13_) ?_
                   try go_wp2
                   have n0_ : Aside0 (Kd.S k82 82 (w95.setCell ⟨go94, (x10_45 : Int).toNat * 6 + 3, none⟩ (.slice Ao98 y281.length co98)) w.heap.size (fun k_ => (w.heap.size ≤ k_)) (.slice (some ⟨go94, 0, none⟩) x9_45.length co69) y284) := ⟨(by (with_reducible repeat (first | apply Kd.S_alloc | apply Kd.S_drewN | apply Kd.S_drew)); exact HQ96.out)⟩
                   have n1_ : Aside0 ((w95.setCell ⟨go94, (x10_45 : Int).toNat * 6 + 3, none⟩ (.slice Ao98 y281.length co98)).heap[gb258]? = some (.cells #[.int .i64 a1_0, .int .i64 a1_1, .int .i64 a1_2, .int .i64 a1_3, .bool false, .string a1_5] 62 (0, 0))) := ⟨B7x26_⟩
                   have n2_ : Aside0 ((w95.setCell ⟨go94, (x10_45 : Int).toNat * 6 + 3, none⟩ (.slice Ao98 y281.length co98)).heap[gb259]? = some (.cells #[.int .i64 0, .int .i64 0, .int .i64 0, .int .i64 0, .bool false, .string (⟨#[]⟩ : ByteArray)] 62 (0, 0))) := ⟨B7x27_⟩
                   have n3_ : Aside0 (Below w.heap.size w (w95.setCell ⟨go94, (x10_45 : Int).toNat * 6 + 3, none⟩ (.slice Ao98 y281.length co98))) := ⟨B7x31_⟩
                   (try clear HO_9)
                   (try clear BK258)
                   (try clear BK259)
                   (try clear HB)
                   generalize (w95.setCell ⟨go94, (x10_45 : Int).toNat * 6 + 3, none⟩ (.slice Ao98 y281.length co98)) = w99 at n0_ n1_ n2_ n3_ ⊢
                   have HO_9 := n0_
                   have BK258 := n1_
                   have BK259 := n2_
                   have HB := n3_
                   clear n0_ n1_ n2_ n3_
                   replace HO_9 := Aside0.mk (Kd.S_drew HO_9.out)
                   replace BK258 := Aside0.mk (blk_drew BK258.out)
                   replace BK259 := Aside0.mk (blk_drew BK259.out)
                   replace HB := Aside0.mk (below_drew1 HB.out)
                   have p285 : 0 ≤ (x10_45 : Int) := of_decide_eq_true B7x3_
                   have q285 : x10_45 < (y284.length : Int) := (by have h_ : (x10_45 : Int) < ((x9_45.length : Int) : Int) := of_decide_eq_true B7x3_; first | (have e_ := (Kd.S_reads' HO_9.out).1; omega) | simpa only [Ny284.out, List.length_set] using h_)
                   have ql285 : ((x10_45 : Int) < ((x9_45.length : Int) : Int)) = True := eq_true (of_decide_eq_true B7x3_)
                   obtain ⟨ad285, A285_2, c285_2, A285_3, c285_3, e285, hx285_0, hx285_1, hx285_2, hx285_3, hx285_4, hx285_5, hl285_2, hi285_2, hl285_3, hi285_3⟩ := at_T82 (Kd.S_reads' HO_9.out).2.2 x10_45 p285 q285
                   obtain rfl : (⟨go94, 0, none⟩ : Addr) = ad285 := (by injection e285)
                   obtain ⟨ce285, hce285, hMe285, hcc285⟩ := Kd.S_get HO_9.out z82 x10_45 p285 B7x36_
                   obtain ⟨ve285_2, ve285_3, rfl, ge285_2, ge285_3⟩ := k82_openM hMe285
                   have hv285_2 := hcc285 2 _ rfl
                   rw [add_field _ _ 2 (by omega)] at hv285_2
                   replace hv285_2 := Option.some.inj (hv285_2.symm.trans hx285_2)
                   rw [hv285_2] at ge285_2
                   have HL285_2 := Aside0.mk (show Kd.R Kd.string 9 _ _ _ _ ((rd_T82 y284 x10_45).f2) from ge285_2)
                   clear hv285_2 ge285_2
                   have HX285_2 := Aside0.mk hx285_2
                   have hv285_3 := hcc285 3 _ rfl
                   rw [add_field _ _ 3 (by omega)] at hv285_3
                   replace hv285_3 := Option.some.inj (hv285_3.symm.trans hx285_3)
                   rw [hv285_3] at ge285_3
                   have HL285_3 := Aside0.mk (show Kd.R (Kd.int .i64) 3 _ _ _ _ ((rd_T82 y284 x10_45).f3) from ge285_3)
                   clear hv285_3 ge285_3
                   have HX285_3 := Aside0.mk hx285_3
                   clear hcc285 hce285
                   (first | simp only [add_plain] at hx285_0 | simp only [add_at] at hx285_0 | simp only [Addr.add, Nat.zero_add] at hx285_0 | skip)
                   (first | simp only [add_plain] at hx285_1 | simp only [add_at] at hx285_1 | simp only [Addr.add, Nat.zero_add] at hx285_1 | skip)
                   (first | simp only [add_plain] at hx285_2 | simp only [add_at] at hx285_2 | simp only [Addr.add, Nat.zero_add] at hx285_2 | skip)
                   (first | simp only [add_plain] at hx285_3 | simp only [add_at] at hx285_3 | simp only [Addr.add, Nat.zero_add] at hx285_3 | skip)
                   (first | simp only [add_plain] at hx285_4 | simp only [add_at] at hx285_4 | simp only [Addr.add, Nat.zero_add] at hx285_4 | skip)
                   (first | simp only [add_plain] at hx285_5 | simp only [add_at] at hx285_5 | simp only [Addr.add, Nat.zero_add] at hx285_5 | skip)
                   have HR285_2 := Aside0.mk hi285_2
                   have HC285_2 := Aside0.mk hl285_2
                   clear hi285_2 hl285_2
                   have HR285_3 := Aside0.mk hi285_3
                   have HC285_3 := Aside0.mk hl285_3
                   clear hi285_3 hl285_3
                   replace p285 := eq_true p285
                   replace q285 := eq_true q285
                   obtain ⟨oki101, ce101, hcl101, hM101, hcc101, _, _, hH101⟩ := Kd.S_elem HO_9.out z82 (x10_45 : Int) (of_decide_eq_true B7x3_) (by have h_ : (x10_45 : Int) < ((x9_45.length : Int) : Int) := of_decide_eq_true B7x3_; first | exact h_ | (have e_ := (Kd.S_reads' HO_9.out).1; omega) | simpa using h_)
                   obtain ⟨ve101_2, ve101_3, rfl, ge101_2, ge101_3⟩ := k82_openM hM101
                   have hv101 := hcc101 2 _ rfl
                   have hX101 := HX285_2.out
                   (try simp only [add_plain] at hX101)
                   (try simp only [Nat.add_zero] at hv101)
                   replace hv101 := Option.some.inj (hv101.symm.trans hX101)
                   subst hv101
                   clear hX101 hcc101 hcl101
                   have UU101 := Aside0.mk (show Kd.R Kd.string 9 _ w.heap.size oki101 (.slice A285_2 ((rd_T82 y284 x10_45).f2).length c285_2) ((rd_T82 y284 x10_45).f2) from ge101_2)
                   have HH101 := Aside0.mk hH101
                   have HN101 := Aside0.mk (Kd.S_reads' HO_9.out).1
                   have HE101_3 := Aside0.mk ge101_3
                   clear hH101 ge101_2 ge101_3
                   refine start_ (n := 14) (S := fun w' => w'.cell? ⟨gb258, 0, none⟩ = some (.int .i64 a1_0) ∧ w'.cell? ⟨gb258, 1, none⟩ = some (.int .i64 a1_1) ∧ w'.cell? ⟨gb258, 2, none⟩ = some (.int .i64 a1_2) ∧ w'.cell? ⟨gb258, 3, none⟩ = some (.int .i64 a1_3) ∧ w'.cell? ⟨gb258, 4, none⟩ = some (.bool false) ∧ w'.cell? ⟨gb258, 5, none⟩ = some (.string a1_5) ∧ w'.cell? ⟨go94, (x10_45).toNat * 6, none⟩ = some (.int .i64 ((rd_T82 y284 x10_45).f0)) ∧ w'.cell? ⟨go94, (x10_45).toNat * 6 + 1, none⟩ = some (.int .i64 ((rd_T82 y284 x10_45).f1)) ∧ w'.cell? ⟨go94, (x10_45).toNat * 6 + 2, none⟩ = some (.slice A285_2 ((rd_T82 y284 x10_45).f2).length c285_2) ∧ w'.cell? ⟨go94, (x10_45).toNat * 6 + 3, none⟩ = some (.slice A285_3 ((rd_T82 y284 x10_45).f3).length c285_3) ∧ w'.cell? ⟨go94, (x10_45).toNat * 6 + 4, none⟩ = some (.int .i64 ((rd_T82 y284 x10_45).f4)) ∧ w'.cell? ⟨go94, (x10_45).toNat * 6 + 5, none⟩ = some (.int .i64 ((rd_T82 y284 x10_45).f5))) (ds := [13]) #[false, false, false, false, false, false, false, false, false, false, false, false, false, false] B7x13_ rfl rfl ⟨(blk_cell BK258.out 0).trans rfl, (blk_cell BK258.out 1).trans rfl, (blk_cell BK258.out 2).trans rfl, (blk_cell BK258.out 3).trans rfl, (blk_cell BK258.out 4).trans rfl, (blk_cell BK258.out 5).trans rfl, hx285_0, hx285_1, hx285_2, hx285_3, hx285_4, hx285_5⟩ (fun hHeld => ?_); refine with_tabW spec_JoinBits.tab24 spec_JoinBits.bits24 (fun HT_ HW_ => ?_)
                   generalize w99.drew = w100 at HO_9 BK258 BK259 HB HE101_3 HH101 HL285_2 HL285_3 HQ96 HR285_2 HR285_3 HX285_2 HX285_3 UU101 hx285_0 hx285_1 hx285_2 hx285_3 hx285_4 hx285_5 hHeld ⊢
                   refine pu_ 0 125 HT_ ?_
                   refine pu_ 1 126 HT_ ?_
                   refine pu_ 2 127 HT_ ?_
                   refine pu_ 3 128 HT_ ?_
                   refine pu_ 4 129 HT_ ?_
                   refine pu_ 5 130 HT_ ?_
                   refine pu_ 7 132 HT_ ?_
                   refine ta_ 6 131 HT_ HW_ hHeld ?_
                   refine ta_ 8 133 HT_ HW_ hHeld ?_
                   refine one_ (i := 9) (N := some 134) #[true, true, true, true, true, true, true, true, true, true, false, false, false, false] rfl rfl (one_of HT_.out B7x13_) (by decide) (fun K hK => ?_)
                   refine value_ (w1 := ?_) (v := ?_) (by rfl) rfl ?_ ?_
                   rotate_left 2
                   ·go_simp
                    constructor
                    ·rfl
                    ·rfl
                   refine hK.out _ _ ⟨(blk_cell (blk_alloc BK258.out _) 0).trans rfl, (blk_cell (blk_alloc BK258.out _) 1).trans rfl, (blk_cell (blk_alloc BK258.out _) 2).trans rfl, (blk_cell (blk_alloc BK258.out _) 3).trans rfl, (blk_cell (blk_alloc BK258.out _) 4).trans rfl, (blk_cell (blk_alloc BK258.out _) 5).trans rfl, (World.cell?_alloc_lt _ _ _ (World.block_lt_of_cell? _ _ (hHeld.2.2.2.2.2.2.1))).trans (hHeld.2.2.2.2.2.2.1), (World.cell?_alloc_lt _ _ _ (World.block_lt_of_cell? _ _ (hHeld.2.2.2.2.2.2.2.1))).trans (hHeld.2.2.2.2.2.2.2.1), (World.cell?_alloc_lt _ _ _ (World.block_lt_of_cell? _ _ (hHeld.2.2.2.2.2.2.2.2.1))).trans (hHeld.2.2.2.2.2.2.2.2.1), (World.cell?_alloc_lt _ _ _ (World.block_lt_of_cell? _ _ (hHeld.2.2.2.2.2.2.2.2.2.1))).trans (hHeld.2.2.2.2.2.2.2.2.2.1), (World.cell?_alloc_lt _ _ _ (World.block_lt_of_cell? _ _ (hHeld.2.2.2.2.2.2.2.2.2.2.1))).trans (hHeld.2.2.2.2.2.2.2.2.2.2.1), (World.cell?_alloc_lt _ _ _ (World.block_lt_of_cell? _ _ (hHeld.2.2.2.2.2.2.2.2.2.2.2))).trans (hHeld.2.2.2.2.2.2.2.2.2.2.2)⟩ (fun hHeld => ?_)
                   clear hK K
                   refine norm_ (a' := ?_) ?_ ?_
                   rotate_left
                   ·show Act.put _ (some 134) _ = _
                    simp only [Act.put, List.setIfInBounds_toArray, List.set_cons_zero, List.set_cons_succ, i64_w, i32_w]
                    rfl
                   refine one_ (i := 10) (N := some 135) #[true, true, true, true, true, true, true, true, true, true, true, false, false, false] rfl rfl (one_of HT_.out B7x13_) (by decide) (fun K hK => ?_)
                   refine Kd.R_append_step Kd.string (w0 := w) w.heap.size (by rfl) (.tmp 131) (.tmp 134) 25 9 (.string ⟨#[]⟩) 16 rfl Try.underlying25 info9 rfl (by decide) (by omega) (.slice A285_2 ((rd_T82 y284 x10_45).f2).length c285_2) ((rd_T82 y284 x10_45).f2) a1_5 [.string a1_5] (fun k_ => oki101 k_ ∨ ((fun k_ => (w.heap.size ≤ k_))) k_ ∧ w100.heap.size ≤ k_) (fun _ => False) rfl rfl ?aP (fun _ hk => hk.elim) ?aF ?aO ?aB ?aS ?aL ?_
                   (case aP => exact rfl)
                   (case aB => exact B7x0_)
                   (case aF => exact (fun k_ hk => .inr ⟨(by first | trivial | exact Nat.le_trans (below_size (by repeat (first | (with_reducible first | exact HB.out | apply below_alloc | apply pw_below_drewN | apply below_drew1) | exact HB.out))) hk), hk⟩))
                   (case aO => (with_reducible repeat (first | apply Kd.R_alloc | apply Kd.R_drewN | apply Kd.R_drew)); exact Kd.R_mono UU101.out (fun _ hk => .inl hk))
                   (case aS => exact B7x33_)
                   (case aL => have := LMc73.out; omega)
                   intro v287 w102 ho hb hg hat
                   (first | have HS6_ := cell_grown hg (hHeld.2.2.2.2.2.2.1) B7x2_ | have HS6_ := cell_grown hg (cell_unalloc (hHeld.2.2.2.2.2.2.1) B7x4_) B7x2_)
                   (first | have HS7_ := cell_grown hg (hHeld.2.2.2.2.2.2.2.1) B7x2_ | have HS7_ := cell_grown hg (cell_unalloc (hHeld.2.2.2.2.2.2.2.1) B7x4_) B7x2_)
                   (first | have HS8_ := cell_grown hg (hHeld.2.2.2.2.2.2.2.2.1) B7x2_ | have HS8_ := cell_grown hg (cell_unalloc (hHeld.2.2.2.2.2.2.2.2.1) B7x4_) B7x2_)
                   (first | have HS9_ := cell_grown hg (hHeld.2.2.2.2.2.2.2.2.2.1) B7x2_ | have HS9_ := cell_grown hg (cell_unalloc (hHeld.2.2.2.2.2.2.2.2.2.1) B7x4_) B7x2_)
                   (first | have HS10_ := cell_grown hg (hHeld.2.2.2.2.2.2.2.2.2.2.1) B7x2_ | have HS10_ := cell_grown hg (cell_unalloc (hHeld.2.2.2.2.2.2.2.2.2.2.1) B7x4_) B7x2_)
                   (first | have HS11_ := cell_grown hg (hHeld.2.2.2.2.2.2.2.2.2.2.2) B7x2_ | have HS11_ := cell_grown hg (cell_unalloc (hHeld.2.2.2.2.2.2.2.2.2.2.2) B7x4_) B7x2_)
                   rw [← Ny286.out] at ho
                   replace BK258 := Aside0.mk (blk_grown (g := gb258) (o := .cells #[.int .i64 a1_0, .int .i64 a1_1, .int .i64 a1_2, .int .i64 a1_3, .bool false, .string a1_5] 62 (0, 0)) B7x6_ hg (Kd.R_ne HL285_2.out BK258.out (by decide)))
                   replace BK259 := Aside0.mk (blk_grown (g := gb259) (o := .cells #[.int .i64 0, .int .i64 0, .int .i64 0, .int .i64 0, .bool false, .string (⟨#[]⟩ : ByteArray)] 62 (0, 0)) B7x5_ hg (Kd.R_ne HL285_2.out BK259.out (by decide)))
                   replace HB := Aside0.mk (hb)
                   replace HH101 := Aside0.mk (Kd.H_grown (Kd.H_widen (by repeat (first | exact HH101.out | refine Kd.H_alloc ?_ _ | refine Kd.H_drewN ?_ _ | refine Kd.H_drew ?_))) hg (fun k_ e_ => .inl (UU101.out.1 k_ e_)))
                   replace HE101_3 := Aside0.mk (Kd.R_over' (v := (.slice A285_2 ((rd_T82 y284 x10_45).f2).length c285_2)) (by (with_reducible repeat (first | apply Kd.R_alloc | apply Kd.R_drewN | apply Kd.R_drew)); exact HE101_3.out) (Kd.R_typed UU101.out) (by decide) hg)
                   have HO288 := Aside0.mk (ho)
                   clear HO_9
                   clear UU101
                   clear HL285_2
                   clear HL285_3
                   clear ho hb hg hat
                   have p74 : 0 ≤ (x10_45 : Int) := of_decide_eq_true B7x3_
                   have q74 : (x10_45 : Int) < ((x9_45.length : Int) : Int) := of_decide_eq_true B7x3_
                   replace p74 := eq_true p74
                   replace q74 := eq_true q74
                   obtain ⟨Ao105, co105, eo105⟩ := Kd.R_slice HO288.out
                   (first | subst eo105 | (injection eo105 with f1_ f2_ f3_; have f4_ := f1_.symm; have f5_ := f3_.symm; clear f1_ f2_ f3_; subst f4_; subst f5_))
                   obtain ⟨_, _, hraw103, _, _, hcc103, _⟩ := Kd.H_raw HH101.out (of_decide_eq_true B7x3_) (by have h_ : (x10_45 : Int) < ((x9_45.length : Int) : Int) := of_decide_eq_true B7x3_; first | exact h_ | (have e_ := (HN101.out); omega) | simpa using h_)
                   obtain ⟨_, hfr103⟩ := Kd.H_at HH101.out (of_decide_eq_true B7x3_) (by have h_ : (x10_45 : Int) < ((x9_45.length : Int) : Int) := of_decide_eq_true B7x3_; first | exact h_ | (have e_ := (HN101.out); omega) | simpa using h_)
                   have hx103_0 := hcc103 2 _ rfl
                   have hf103_0 := hfr103 2
                   (try rw [show (k82).sz = 6 from rfl] at hx103_0)
                   (try rw [show (k82).sz = 6 from rfl] at hf103_0)
                   have HP103 := Kd.S_seg0 HH101.out (of_decide_eq_true B7x3_) (by have h_ : (x10_45 : Int) < ((x9_45.length : Int) : Int) := of_decide_eq_true B7x3_; first | exact h_ | (have e_ := (HN101.out); omega) | simpa using h_) (seg := [.slice Ao105 y286.length co105]) (j := 2) (show 3 ≤ 6 from (by decide)) (x' := (⟨(rd_T82 y284 x10_45).f0, (rd_T82 y284 x10_45).f1, y286, (rd_T82 y284 x10_45).f3, (rd_T82 y284 x10_45).f4, (rd_T82 y284 x10_45).f5⟩ : S82)) (k82_mkM _ _ _ (⟨(rd_T82 y284 x10_45).f0, (rd_T82 y284 x10_45).f1, y286, (rd_T82 y284 x10_45).f3, (rd_T82 y284 x10_45).f4, (rd_T82 y284 x10_45).f5⟩ : S82) HO288.out (Kd.R_mono HE101_3.out (fun _ h_ => .inl h_))) (fun _ hk => hk)
                   clear hcc103 hfr103
                   have HNB258_go94 := Aside0.mk (show gb258 ≠ go94 from (by have h_ := Kd.R_ne hraw103 BK258.out (by decide); intro e_; exact h_ B7x43_))
                   have HNB259_go94 := Aside0.mk (show gb259 ≠ go94 from (by have h_ := Kd.R_ne hraw103 BK259.out (by decide); intro e_; exact h_ B7x43_))
                   have HS103 := HP103.1
                   rw [← Ny289.out] at HS103
                   have HQ103 := Aside0.mk HS103
                   obtain ⟨_, hgg103⟩ := Kd.R_typed hraw103 go94 rfl
                   have GG103_ := Aside0.mk hgg103
                   clear HP103 HS103 hgg103
                   refine hK.out _ _ ⟨(blk_cell BK258.out 0).trans rfl, (blk_cell BK258.out 1).trans rfl, (blk_cell BK258.out 2).trans rfl, (blk_cell BK258.out 3).trans rfl, (blk_cell BK258.out 4).trans rfl, (blk_cell BK258.out 5).trans rfl, HS6_, HS7_, HS8_, HS9_, HS10_, HS11_⟩ (fun hHeld => ?_)
                   clear hK K
                   refine norm_ (a' := ?_) ?_ ?_
                   rotate_left
                   ·show Act.put _ (some 135) _ = _
                    simp only [Act.put, List.setIfInBounds_toArray, List.set_cons_zero, List.set_cons_succ, i64_w, i32_w]
                    rfl
                   refine pu_ 11 136 HT_ ?_
                   refine pu_ 12 137 HT_ ?_
                   refine last_ (i := 13) (N := none) #[true, true, true, true, true, true, true, true, true, true, true, true, true, true] rfl rfl (one_of HT_.out B7x13_) (by decide) (fun K hK => ?_)
                   refine skip_ (w1 := ?_) (by rfl) rfl ?_ ?_
                   rotate_left
                   ·go_simp
                    rfl
                   refine hK.out _ _ ?_
                   clear hK K
                   refine done_ (done_of HT_.out B7x13_) ?_
                   have n0_ : Aside0 (Kd.S k82 82 (w102.setCell ⟨go94, (x10_45 : Int).toNat * 6 + 2, none⟩ (.slice Ao105 y286.length co105)) w.heap.size (fun k_ => (w.heap.size ≤ k_)) (.slice (some ⟨go94, 0, none⟩) x9_45.length co69) y289) := ⟨(by (with_reducible repeat (first | apply Kd.S_alloc | apply Kd.S_drewN | apply Kd.S_drew)); exact HQ103.out)⟩
                   have n1_ : Aside0 ((w102.setCell ⟨go94, (x10_45 : Int).toNat * 6 + 2, none⟩ (.slice Ao105 y286.length co105)).heap[gb258]? = some (.cells #[.int .i64 a1_0, .int .i64 a1_1, .int .i64 a1_2, .int .i64 a1_3, .bool false, .string a1_5] 62 (0, 0))) := ⟨B7x26_⟩
                   have n2_ : Aside0 ((w102.setCell ⟨go94, (x10_45 : Int).toNat * 6 + 2, none⟩ (.slice Ao105 y286.length co105)).heap[gb259]? = some (.cells #[.int .i64 0, .int .i64 0, .int .i64 0, .int .i64 0, .bool false, .string (⟨#[]⟩ : ByteArray)] 62 (0, 0))) := ⟨B7x27_⟩
                   have n3_ : Aside0 (Below w.heap.size w (w102.setCell ⟨go94, (x10_45 : Int).toNat * 6 + 2, none⟩ (.slice Ao105 y286.length co105))) := ⟨B7x31_⟩
                   (try clear HO_9)
                   (try clear BK258)
                   (try clear BK259)
                   (try clear HB)
                   generalize (w102.setCell ⟨go94, (x10_45 : Int).toNat * 6 + 2, none⟩ (.slice Ao105 y286.length co105)) = w106 at n0_ n1_ n2_ n3_ ⊢
                   have HO_9 := n0_
                   have BK258 := n1_
                   have BK259 := n2_
                   have HB := n3_
                   clear n0_ n1_ n2_ n3_
                   have hnb107 := NB258_259.out
                   have hnc107 := NB259_258.out
                   obtain ⟨hcz108_0, hcz108_1, hcz108_2, hcz108_3, hcz108_4, hcz108_5⟩ := cl6 BK258.out
                   obtain ⟨hfz108_0, hfz108_1, hfz108_2, hfz108_3, hfz108_4, hfz108_5⟩ := fr6 BK258.out
                   have p290 : 0 ≤ (x10_45 : Int) := of_decide_eq_true B7x3_
                   have q290 : x10_45 < (y289.length : Int) := (by have h_ : (x10_45 : Int) < ((x9_45.length : Int) : Int) := of_decide_eq_true B7x3_; first | (have e_ := (Kd.S_reads' HO_9.out).1; omega) | simpa only [Ny284.out, Ny289.out, List.length_set] using h_)
                   have ql290 : ((x10_45 : Int) < ((x9_45.length : Int) : Int)) = True := eq_true (of_decide_eq_true B7x3_)
                   obtain ⟨ad290, A290_2, c290_2, A290_3, c290_3, e290, hx290_0, hx290_1, hx290_2, hx290_3, hx290_4, hx290_5, hl290_2, hi290_2, hl290_3, hi290_3⟩ := at_T82 (Kd.S_reads' HO_9.out).2.2 x10_45 p290 q290
                   obtain rfl : (⟨go94, 0, none⟩ : Addr) = ad290 := (by injection e290)
                   obtain ⟨ce290, hce290, hMe290, hcc290⟩ := Kd.S_get HO_9.out z82 x10_45 p290 B7x49_
                   obtain ⟨ve290_2, ve290_3, rfl, ge290_2, ge290_3⟩ := k82_openM hMe290
                   have hv290_2 := hcc290 2 _ rfl
                   rw [add_field _ _ 2 (by omega)] at hv290_2
                   replace hv290_2 := Option.some.inj (hv290_2.symm.trans hx290_2)
                   rw [hv290_2] at ge290_2
                   have HL290_2 := Aside0.mk (show Kd.R Kd.string 9 _ _ _ _ ((rd_T82 y289 x10_45).f2) from ge290_2)
                   clear hv290_2 ge290_2
                   have HX290_2 := Aside0.mk hx290_2
                   have hv290_3 := hcc290 3 _ rfl
                   rw [add_field _ _ 3 (by omega)] at hv290_3
                   replace hv290_3 := Option.some.inj (hv290_3.symm.trans hx290_3)
                   rw [hv290_3] at ge290_3
                   have HL290_3 := Aside0.mk (show Kd.R (Kd.int .i64) 3 _ _ _ _ ((rd_T82 y289 x10_45).f3) from ge290_3)
                   clear hv290_3 ge290_3
                   have HX290_3 := Aside0.mk hx290_3
                   clear hcc290 hce290
                   (first | simp only [add_plain] at hx290_0 | simp only [add_at] at hx290_0 | simp only [Addr.add, Nat.zero_add] at hx290_0 | skip)
                   (first | simp only [add_plain] at hx290_1 | simp only [add_at] at hx290_1 | simp only [Addr.add, Nat.zero_add] at hx290_1 | skip)
                   (first | simp only [add_plain] at hx290_2 | simp only [add_at] at hx290_2 | simp only [Addr.add, Nat.zero_add] at hx290_2 | skip)
                   (first | simp only [add_plain] at hx290_3 | simp only [add_at] at hx290_3 | simp only [Addr.add, Nat.zero_add] at hx290_3 | skip)
                   (first | simp only [add_plain] at hx290_4 | simp only [add_at] at hx290_4 | simp only [Addr.add, Nat.zero_add] at hx290_4 | skip)
                   (first | simp only [add_plain] at hx290_5 | simp only [add_at] at hx290_5 | simp only [Addr.add, Nat.zero_add] at hx290_5 | skip)
                   have HR290_2 := Aside0.mk hi290_2
                   have HC290_2 := Aside0.mk hl290_2
                   clear hi290_2 hl290_2
                   have HR290_3 := Aside0.mk hi290_3
                   have HC290_3 := Aside0.mk hl290_3
                   clear hi290_3 hl290_3
                   replace p290 := eq_true p290
                   replace q290 := eq_true q290
                   have p92 : 0 ≤ (x10_45 : Int) := of_decide_eq_true B7x3_
                   have q92 : (x10_45 : Int) < ((x9_45.length : Int) : Int) := of_decide_eq_true B7x3_
                   obtain ⟨_, ce92, hcl92, hM92, hcc92, hfr92, _, _⟩ := Kd.S_elem HO_9.out z82 (x10_45 : Int) p92 q92
                   obtain ⟨ve92_2, ve92_3, rfl, ge92_2, ge92_3⟩ := k82_openM hM92
                   have hx92_0 : w106.cell? ⟨go94, (x10_45 : Int).toNat * 6, none⟩ = some (.int .i64 ((rd_T82 y289 x10_45).f0)) := hcc92 0 _ rfl
                   have hx92_1 : w106.cell? ⟨go94, (x10_45 : Int).toNat * 6 + 1, none⟩ = some (.int .i64 ((rd_T82 y289 x10_45).f1)) := hcc92 1 _ rfl
                   have hx92_2 : w106.cell? ⟨go94, (x10_45 : Int).toNat * 6 + 2, none⟩ = some (ve92_2) := hcc92 2 _ rfl
                   have hx92_3 : w106.cell? ⟨go94, (x10_45 : Int).toNat * 6 + 3, none⟩ = some (ve92_3) := hcc92 3 _ rfl
                   have hx92_4 : w106.cell? ⟨go94, (x10_45 : Int).toNat * 6 + 4, none⟩ = some (.int .i64 ((rd_T82 y289 x10_45).f4)) := hcc92 4 _ rfl
                   have hx92_5 : w106.cell? ⟨go94, (x10_45 : Int).toNat * 6 + 5, none⟩ = some (.int .i64 ((rd_T82 y289 x10_45).f5)) := hcc92 5 _ rfl
                   have hf92_0 : w106.frozen? ⟨go94, (x10_45 : Int).toNat * 6, none⟩ = false := hfr92 0
                   have hf92_1 : w106.frozen? ⟨go94, (x10_45 : Int).toNat * 6 + 1, none⟩ = false := hfr92 1
                   have hf92_2 : w106.frozen? ⟨go94, (x10_45 : Int).toNat * 6 + 2, none⟩ = false := hfr92 2
                   have hf92_3 : w106.frozen? ⟨go94, (x10_45 : Int).toNat * 6 + 3, none⟩ = false := hfr92 3
                   have hf92_4 : w106.frozen? ⟨go94, (x10_45 : Int).toNat * 6 + 4, none⟩ = false := hfr92 4
                   have hf92_5 : w106.frozen? ⟨go94, (x10_45 : Int).toNat * 6 + 5, none⟩ = false := hfr92 5
                   clear hcl92 hcc92 hfr92 hM92
                   replace p92 := eq_true p92
                   replace q92 := eq_true q92
                   have HX109 := Aside0.mk (show Kd.S k82 82 w106 w.heap.size (fun k_ => ((fun k_ => (w.heap.size ≤ k_))) k_ ∧ ¬ ((fun _ => False)) k_) (.slice (some ⟨go94, 0, none⟩) x9_45.length co69) y289 from B7x42_)
                   obtain ⟨oki109, ce109, hcl109, hM109, hcc109, hfr109, hoki109, hH109⟩ := Kd.S_elem HX109.out z82 (x10_45 : Int) (of_decide_eq_true B7x3_) (by have h_ : (x10_45 : Int) < ((x9_45.length : Int) : Int) := of_decide_eq_true B7x3_; first | exact h_ | (have e_ := (Kd.S_reads' HO_9.out).1; omega) | simpa using h_)
                   obtain ⟨ve109_2, ve109_3, rfl, ge109_2, ge109_3⟩ := k82_openM hM109
                   have HP109 := Kd.S_seg hH109 (of_decide_eq_true B7x3_) (by have h_ : (x10_45 : Int) < ((x9_45.length : Int) : Int) := of_decide_eq_true B7x3_; first | exact h_ | (have e_ := (Kd.S_reads' HO_9.out).1; omega) | simpa using h_) (seg := [.int .i64 (wrap64 (a1_3 + (a1_5.size : Int)))]) (j := 4) (show 5 ≤ 6 from (by decide)) (x' := (⟨(rd_T82 y289 x10_45).f0, (rd_T82 y289 x10_45).f1, (rd_T82 y289 x10_45).f2, (rd_T82 y289 x10_45).f3, wrap64 (a1_3 + (a1_5.size : Int)), (rd_T82 y289 x10_45).f5⟩ : S82)) (k82_mkM _ _ _ (⟨(rd_T82 y289 x10_45).f0, (rd_T82 y289 x10_45).f1, (rd_T82 y289 x10_45).f2, (rd_T82 y289 x10_45).f3, wrap64 (a1_3 + (a1_5.size : Int)), (rd_T82 y289 x10_45).f5⟩ : S82) (Kd.R_mono ge109_2 (fun _ h_ => Or.inl h_)) (Kd.R_mono ge109_3 (fun _ h_ => Or.inl h_))) (fun _ hk => hk) (fun k_ hk_ => hk_.elim)
                   have hx109_4 := hcc109 4 _ rfl
                   (try simp only [show (k82).sz = 6 from rfl, Nat.mul_one, Nat.add_zero] at hx109_4)
                   have hf109_4 := hfr109 4
                   (try simp only [show (k82).sz = 6 from rfl, Nat.mul_one, Nat.add_zero] at hf109_4)
                   clear hcl109 hcc109 hfr109 hM109 hoki109 hH109
                   try go_wp2_with (first | ((with_reducible refine gate_store (t := 3) (p := 158) rfl ?_); refine store_event (t := 3) (p := 158) (v := ?vo_w110) (w1 := (w106.setCell ⟨go94, (x10_45 : Int).toNat * 6 + 4, none⟩ (.int .i64 (wrap64 (a1_3 + (a1_5.size : Int)))))) ?hg ?ho ?hn ?hr ?_; (case ho => rfl); (case hg => rfl); (case hn => rfl); (case hr => exact B7x32_); intro w110 hw; have hg : w106.grownBy w110 (some go94) := (by rw [hw]; exact HP109.2); have hp_ : Kd.S k82 82 w110 w.heap.size (fun k_ => (w.heap.size ≤ k_)) (.slice (some ⟨go94, 0, none⟩) x9_45.length co69) y291 := (by rw [hw, Ny291.out]; exact HP109.1); clear HP109; replace BK258 := Aside0.mk (blk_grown (g := gb258) (o := .cells #[.int .i64 a1_0, .int .i64 a1_1, .int .i64 a1_2, .int .i64 a1_3, .bool false, .string a1_5] 62 (0, 0)) B7x6_ hg (Kd.S_ne HO_9.out BK258.out (by decide))); replace BK259 := Aside0.mk (blk_grown (g := gb259) (o := .cells #[.int .i64 0, .int .i64 0, .int .i64 0, .int .i64 0, .bool false, .string (⟨#[]⟩ : ByteArray)] 62 (0, 0)) B7x5_ hg (Kd.S_ne HO_9.out BK259.out (by decide))); replace HO_9 := Aside0.mk (hp_); replace HL290_2 := Aside0.mk (Kd.R_after (v := (.slice (some ⟨go94, 0, none⟩) x9_45.length co69)) (v1 := (.slice (some ⟨go94, 0, none⟩) x9_45.length co69)) (ok := (fun k_ => (w.heap.size ≤ k_))) (by (with_reducible repeat (first | apply Kd.R_alloc | apply Kd.R_drewN | apply Kd.R_drew)); exact HL290_2.out) hg (.inl rfl)); replace HL290_3 := Aside0.mk (Kd.R_after (v := (.slice (some ⟨go94, 0, none⟩) x9_45.length co69)) (v1 := (.slice (some ⟨go94, 0, none⟩) x9_45.length co69)) (ok := (fun k_ => (w.heap.size ≤ k_))) (by (with_reducible repeat (first | apply Kd.R_alloc | apply Kd.R_drewN | apply Kd.R_drew)); exact HL290_3.out) hg (.inl rfl)); replace HB := Aside0.mk ((by rw [hw]; exact below_set (HB.out) GB94.out : Below w.heap.size w w110)); clear hg hw hp_))
                   go_meet
                   case rel => exact ⟨_, (y291), H', ⟨B7x14_⟩, ⟨Kd.R_N ((Kd.S_R B7x17_))⟩, ⟨B7x6_⟩, ⟨B7x5_⟩, ⟨B7x0_⟩⟩
                  ·rw [if_neg c91] at H
                   have c91b0 := beq_eq_false_iff_ne.mpr c91
                   have c91b1 := bne_iff_ne.mpr c91
                   (first | rw [c91b0] | (simp only [i64_w, i32_w]; rw [c91b0]) | skip)
                   have H' := Aside0.mk H
                   clear H
                   try go_wp2
                   replace HO_9 := Aside0.mk (Kd.S_drew HO_9.out)
                   replace HL277_2 := Aside0.mk (Kd.R_drew HL277_2.out)
                   replace HL277_3 := Aside0.mk (Kd.R_drew HL277_3.out)
                   replace BK258 := Aside0.mk (blk_drew BK258.out)
                   replace BK259 := Aside0.mk (blk_drew BK259.out)
                   replace HR277_2 := Aside0.mk (Kd.C_drew HR277_2.out)
                   replace HR277_3 := Aside0.mk (Kd.C_drew HR277_3.out)
                   replace HB := Aside0.mk (below_drew1 HB.out)
                   have p280 : 0 ≤ (x10_45 : Int) := of_decide_eq_true B7x3_
                   have q280 : x10_45 < (x9_45.length : Int) := of_decide_eq_true B7x3_
                   obtain ⟨ad280, A280_2, c280_2, A280_3, c280_3, e280, hx280_0, hx280_1, hx280_2, hx280_3, hx280_4, hx280_5, hl280_2, hi280_2, hl280_3, hi280_3⟩ := at_T82 (Kd.S_reads' HO_9.out).2.2 x10_45 p280 q280
                   obtain rfl : ad277 = ad280 := (by injection e280)
                   obtain ⟨ce280, hce280, hMe280, hcc280⟩ := Kd.S_get HO_9.out z82 x10_45 p280 B7x35_
                   obtain ⟨ve280_2, ve280_3, rfl, ge280_2, ge280_3⟩ := k82_openM hMe280
                   have hv280_2 := hcc280 2 _ rfl
                   rw [add_field _ _ 2 (by omega)] at hv280_2
                   replace hv280_2 := Option.some.inj (hv280_2.symm.trans hx280_2)
                   rw [hv280_2] at ge280_2
                   have HL280_2 := Aside0.mk (show Kd.R Kd.string 9 _ _ _ _ ((rd_T82 x9_45 x10_45).f2) from ge280_2)
                   clear hv280_2 ge280_2
                   have HX280_2 := Aside0.mk hx280_2
                   have hv280_3 := hcc280 3 _ rfl
                   rw [add_field _ _ 3 (by omega)] at hv280_3
                   replace hv280_3 := Option.some.inj (hv280_3.symm.trans hx280_3)
                   rw [hv280_3] at ge280_3
                   have HL280_3 := Aside0.mk (show Kd.R (Kd.int .i64) 3 _ _ _ _ ((rd_T82 x9_45 x10_45).f3) from ge280_3)
                   clear hv280_3 ge280_3
                   have HX280_3 := Aside0.mk hx280_3
                   clear hcc280 hce280
                   have HR280_2 := Aside0.mk hi280_2
                   have HC280_2 := Aside0.mk hl280_2
                   clear hi280_2 hl280_2
                   have HR280_3 := Aside0.mk hi280_3
                   have HC280_3 := Aside0.mk hl280_3
                   clear hi280_3 hl280_3
                   replace p280 := eq_true p280
                   replace q280 := eq_true q280
                   obtain ⟨go112, co112, eo112, gb112, gl112, cl112, HG112⟩ := Kd.S_form HO_9.out (by have h_ : (x10_45 : Int) < ((x9_45.length : Int) : Int) := of_decide_eq_true B7x3_; have h2_ : 0 ≤ (x10_45 : Int) := (of_decide_eq_true B7x3_); omega)
                   (first | cases eo112 | (injection eo112 with ea_ en_ ec_; (first | subst ea_ | (injection ea_ with ea_; subst ea_)); subst ec_; clear en_))
                   have GB112 := Aside0.mk gb112
                   have GG112 := Aside0.mk HG112
                   clear gb112 gl112 HG112
                   (first | simp only [add_plain] at hx280_0 | skip)
                   (first | simp only [add_plain] at hx280_1 | skip)
                   (first | simp only [add_plain] at hx280_2 | skip)
                   (first | simp only [add_plain] at hx280_3 | skip)
                   (first | simp only [add_plain] at hx280_4 | skip)
                   (first | simp only [add_plain] at hx280_5 | skip)
                   obtain ⟨oki112, ce112, hcl112, hM112, hcc112, _, _, hH112⟩ := Kd.S_elem HO_9.out z82 (x10_45 : Int) (of_decide_eq_true B7x3_) (by have h_ : (x10_45 : Int) < ((x9_45.length : Int) : Int) := of_decide_eq_true B7x3_; first | exact h_ | (have e_ := (Kd.S_reads' HO_9.out).1; omega) | simpa using h_)
                   obtain ⟨ve112_2, ve112_3, rfl, ge112_2, ge112_3⟩ := k82_openM hM112
                   have hv112 := hcc112 3 _ rfl
                   have hX112 := HX280_3.out
                   (try simp only [add_plain] at hX112)
                   (try simp only [Nat.add_zero] at hv112)
                   replace hv112 := Option.some.inj (hv112.symm.trans hX112)
                   subst hv112
                   clear hX112 hcc112 hcl112
                   have UU112 := Aside0.mk (show Kd.R (Kd.int .i64) 3 _ w.heap.size oki112 (.slice A280_3 ((rd_T82 x9_45 x10_45).f3).length c280_3) ((rd_T82 x9_45 x10_45).f3) from ge112_3)
                   have HH112 := Aside0.mk hH112
                   have HN112 := Aside0.mk (Kd.S_reads' HO_9.out).1
                   have HE112_2 := Aside0.mk ge112_2
                   clear hH112 ge112_2 ge112_3
                   refine start_ (n := 14) (S := fun w' => w'.cell? ⟨gb258, 0, none⟩ = some (.int .i64 a1_0) ∧ w'.cell? ⟨gb258, 1, none⟩ = some (.int .i64 a1_1) ∧ w'.cell? ⟨gb258, 2, none⟩ = some (.int .i64 a1_2) ∧ w'.cell? ⟨gb258, 3, none⟩ = some (.int .i64 a1_3) ∧ w'.cell? ⟨gb258, 4, none⟩ = some (.bool false) ∧ w'.cell? ⟨gb258, 5, none⟩ = some (.string a1_5) ∧ w'.cell? ⟨go112, ((x10_45).toNat * 6), none⟩ = some (.int .i64 ((rd_T82 x9_45 x10_45).f0)) ∧ w'.cell? ⟨go112, ((x10_45).toNat * 6) + 1, none⟩ = some (.int .i64 ((rd_T82 x9_45 x10_45).f1)) ∧ w'.cell? ⟨go112, ((x10_45).toNat * 6) + 2, none⟩ = some (.slice A280_2 ((rd_T82 x9_45 x10_45).f2).length c280_2) ∧ w'.cell? ⟨go112, ((x10_45).toNat * 6) + 3, none⟩ = some (.slice A280_3 ((rd_T82 x9_45 x10_45).f3).length c280_3) ∧ w'.cell? ⟨go112, ((x10_45).toNat * 6) + 4, none⟩ = some (.int .i64 ((rd_T82 x9_45 x10_45).f4)) ∧ w'.cell? ⟨go112, ((x10_45).toNat * 6) + 5, none⟩ = some (.int .i64 ((rd_T82 x9_45 x10_45).f5))) (ds := [13]) #[false, false, false, false, false, false, false, false, false, false, false, false, false, false] B7x13_ rfl rfl ⟨(blk_cell BK258.out 0).trans rfl, (blk_cell BK258.out 1).trans rfl, (blk_cell BK258.out 2).trans rfl, (blk_cell BK258.out 3).trans rfl, (blk_cell BK258.out 4).trans rfl, (blk_cell BK258.out 5).trans rfl, hx280_0, hx280_1, hx280_2, hx280_3, hx280_4, hx280_5⟩ (fun hHeld => ?_); refine with_tabW spec_JoinBits.tab23 spec_JoinBits.bits23 (fun HT_ HW_ => ?_)
                   generalize wr.drew = w111 at HO_9 HL277_2 HL277_3 BK258 BK259 HR277_2 HR277_3 HB GG112 HE112_2 HH112 HL280_2 HL280_3 HR280_2 HR280_3 HX280_2 HX280_3 UU112 hx280_0 hx280_1 hx280_2 hx280_3 hx280_4 hx280_5 hHeld ⊢
                   refine pu_ 0 112 HT_ ?_
                   refine pu_ 1 113 HT_ ?_
                   refine pu_ 2 114 HT_ ?_
                   refine pu_ 3 115 HT_ ?_
                   refine pu_ 4 116 HT_ ?_
                   refine pu_ 5 117 HT_ ?_
                   refine pu_ 7 119 HT_ ?_
                   refine ta_ 6 118 HT_ HW_ hHeld ?_
                   refine ta_ 8 120 HT_ HW_ hHeld ?_
                   refine one_ (i := 9) (N := some 121) #[true, true, true, true, true, true, true, true, true, true, false, false, false, false] rfl rfl (one_of HT_.out B7x13_) (by decide) (fun K hK => ?_)
                   refine value_ (w1 := ?_) (v := ?_) (by rfl) rfl ?_ ?_
                   rotate_left 2
                   ·go_simp
                    constructor
                    ·rfl
                    ·rfl
                   refine hK.out _ _ ⟨(blk_cell (blk_alloc BK258.out _) 0).trans rfl, (blk_cell (blk_alloc BK258.out _) 1).trans rfl, (blk_cell (blk_alloc BK258.out _) 2).trans rfl, (blk_cell (blk_alloc BK258.out _) 3).trans rfl, (blk_cell (blk_alloc BK258.out _) 4).trans rfl, (blk_cell (blk_alloc BK258.out _) 5).trans rfl, (World.cell?_alloc_lt _ _ _ (World.block_lt_of_cell? _ _ (hHeld.2.2.2.2.2.2.1))).trans (hHeld.2.2.2.2.2.2.1), (World.cell?_alloc_lt _ _ _ (World.block_lt_of_cell? _ _ (hHeld.2.2.2.2.2.2.2.1))).trans (hHeld.2.2.2.2.2.2.2.1), (World.cell?_alloc_lt _ _ _ (World.block_lt_of_cell? _ _ (hHeld.2.2.2.2.2.2.2.2.1))).trans (hHeld.2.2.2.2.2.2.2.2.1), (World.cell?_alloc_lt _ _ _ (World.block_lt_of_cell? _ _ (hHeld.2.2.2.2.2.2.2.2.2.1))).trans (hHeld.2.2.2.2.2.2.2.2.2.1), (World.cell?_alloc_lt _ _ _ (World.block_lt_of_cell? _ _ (hHeld.2.2.2.2.2.2.2.2.2.2.1))).trans (hHeld.2.2.2.2.2.2.2.2.2.2.1), (World.cell?_alloc_lt _ _ _ (World.block_lt_of_cell? _ _ (hHeld.2.2.2.2.2.2.2.2.2.2.2))).trans (hHeld.2.2.2.2.2.2.2.2.2.2.2)⟩ (fun hHeld => ?_)
                   clear hK K
                   refine norm_ (a' := ?_) ?_ ?_
                   rotate_left
                   ·show Act.put _ (some 121) _ = _
                    simp only [Act.put, List.setIfInBounds_toArray, List.set_cons_zero, List.set_cons_succ, i64_w, i32_w]
                    rfl
                   refine one_ (i := 10) (N := some 122) #[true, true, true, true, true, true, true, true, true, true, true, false, false, false] rfl rfl (one_of HT_.out B7x13_) (by decide) (fun K hK => ?_)
                   refine Kd.R_append_step (Kd.int .i64) (w0 := w) w.heap.size (by rfl) (.tmp 118) (.tmp 121) 51 3 (.int .i64 0) 8 rfl Try.underlying51 info3 rfl (by decide) (by omega) (.slice A280_3 ((rd_T82 x9_45 x10_45).f3).length c280_3) ((rd_T82 x9_45 x10_45).f3) a1_3 [.int .i64 a1_3] (fun k_ => oki112 k_ ∨ ((fun k_ => (w.heap.size ≤ k_))) k_ ∧ w111.heap.size ≤ k_) (fun _ => False) rfl rfl ?aP (fun _ hk => hk.elim) ?aF ?aO ?aB ?aS ?aL ?_
                   (case aP => exact rfl)
                   (case aB => exact B7x0_)
                   (case aF => exact (fun k_ hk => .inr ⟨(by first | trivial | exact Nat.le_trans (below_size (by repeat (first | (with_reducible first | exact HB.out | apply below_alloc | apply pw_below_drewN | apply below_drew1) | exact HB.out))) hk), hk⟩))
                   (case aO => (with_reducible repeat (first | apply Kd.R_alloc | apply Kd.R_drewN | apply Kd.R_drew)); exact Kd.R_mono UU112.out (fun _ hk => .inl hk))
                   (case aS => exact B7x33_)
                   (case aL => have := LMc71.out; omega)
                   intro v282 w113 ho hb hg hat
                   (first | have HS6_ := cell_grown hg (hHeld.2.2.2.2.2.2.1) B7x1_ | have HS6_ := cell_grown hg (cell_unalloc (hHeld.2.2.2.2.2.2.1) B7x4_) B7x1_)
                   (first | have HS7_ := cell_grown hg (hHeld.2.2.2.2.2.2.2.1) B7x1_ | have HS7_ := cell_grown hg (cell_unalloc (hHeld.2.2.2.2.2.2.2.1) B7x4_) B7x1_)
                   (first | have HS8_ := cell_grown hg (hHeld.2.2.2.2.2.2.2.2.1) B7x1_ | have HS8_ := cell_grown hg (cell_unalloc (hHeld.2.2.2.2.2.2.2.2.1) B7x4_) B7x1_)
                   (first | have HS9_ := cell_grown hg (hHeld.2.2.2.2.2.2.2.2.2.1) B7x1_ | have HS9_ := cell_grown hg (cell_unalloc (hHeld.2.2.2.2.2.2.2.2.2.1) B7x4_) B7x1_)
                   (first | have HS10_ := cell_grown hg (hHeld.2.2.2.2.2.2.2.2.2.2.1) B7x1_ | have HS10_ := cell_grown hg (cell_unalloc (hHeld.2.2.2.2.2.2.2.2.2.2.1) B7x4_) B7x1_)
                   (first | have HS11_ := cell_grown hg (hHeld.2.2.2.2.2.2.2.2.2.2.2) B7x1_ | have HS11_ := cell_grown hg (cell_unalloc (hHeld.2.2.2.2.2.2.2.2.2.2.2) B7x4_) B7x1_)
                   rw [← Ny281.out] at ho
                   replace BK258 := Aside0.mk (blk_grown (g := gb258) (o := .cells #[.int .i64 a1_0, .int .i64 a1_1, .int .i64 a1_2, .int .i64 a1_3, .bool false, .string a1_5] 62 (0, 0)) B7x6_ hg (Kd.R_ne HL280_3.out BK258.out (by decide)))
                   replace BK259 := Aside0.mk (blk_grown (g := gb259) (o := .cells #[.int .i64 0, .int .i64 0, .int .i64 0, .int .i64 0, .bool false, .string (⟨#[]⟩ : ByteArray)] 62 (0, 0)) B7x5_ hg (Kd.R_ne HL280_3.out BK259.out (by decide)))
                   replace HB := Aside0.mk (hb)
                   replace HH112 := Aside0.mk (Kd.H_grown (Kd.H_widen (by repeat (first | exact HH112.out | refine Kd.H_alloc ?_ _ | refine Kd.H_drewN ?_ _ | refine Kd.H_drew ?_))) hg (fun k_ e_ => .inl (UU112.out.1 k_ e_)))
                   replace HE112_2 := Aside0.mk (Kd.R_over' (v := (.slice A280_3 ((rd_T82 x9_45 x10_45).f3).length c280_3)) (by (with_reducible repeat (first | apply Kd.R_alloc | apply Kd.R_drewN | apply Kd.R_drew)); exact HE112_2.out) (Kd.R_typed UU112.out) (by decide) hg)
                   have HO283 := Aside0.mk (ho)
                   clear HO_9
                   clear UU112
                   clear HL277_2
                   clear HL277_3
                   clear HL280_2
                   clear HL280_3
                   clear ho hb hg hat
                   have p72 : 0 ≤ (x10_45 : Int) := of_decide_eq_true B7x3_
                   have q72 : (x10_45 : Int) < ((x9_45.length : Int) : Int) := of_decide_eq_true B7x3_
                   replace p72 := eq_true p72
                   replace q72 := eq_true q72
                   obtain ⟨Ao116, co116, eo116⟩ := Kd.R_slice HO283.out
                   (first | subst eo116 | (injection eo116 with f1_ f2_ f3_; have f4_ := f1_.symm; have f5_ := f3_.symm; clear f1_ f2_ f3_; subst f4_; subst f5_))
                   obtain ⟨_, _, hraw114, _, _, hcc114, _⟩ := Kd.H_raw HH112.out (of_decide_eq_true B7x3_) (by have h_ : (x10_45 : Int) < ((x9_45.length : Int) : Int) := of_decide_eq_true B7x3_; first | exact h_ | (have e_ := (HN112.out); omega) | simpa using h_)
                   obtain ⟨_, hfr114⟩ := Kd.H_at HH112.out (of_decide_eq_true B7x3_) (by have h_ : (x10_45 : Int) < ((x9_45.length : Int) : Int) := of_decide_eq_true B7x3_; first | exact h_ | (have e_ := (HN112.out); omega) | simpa using h_)
                   have hx114_0 := hcc114 3 _ rfl
                   have hf114_0 := hfr114 3
                   (try rw [show (k82).sz = 6 from rfl] at hx114_0)
                   (try rw [show (k82).sz = 6 from rfl] at hf114_0)
                   have HP114 := Kd.S_seg0 HH112.out (of_decide_eq_true B7x3_) (by have h_ : (x10_45 : Int) < ((x9_45.length : Int) : Int) := of_decide_eq_true B7x3_; first | exact h_ | (have e_ := (HN112.out); omega) | simpa using h_) (seg := [.slice Ao116 y281.length co116]) (j := 3) (show 4 ≤ 6 from (by decide)) (x' := (⟨(rd_T82 x9_45 x10_45).f0, (rd_T82 x9_45 x10_45).f1, (rd_T82 x9_45 x10_45).f2, y281, (rd_T82 x9_45 x10_45).f4, (rd_T82 x9_45 x10_45).f5⟩ : S82)) (k82_mkM _ _ _ (⟨(rd_T82 x9_45 x10_45).f0, (rd_T82 x9_45 x10_45).f1, (rd_T82 x9_45 x10_45).f2, y281, (rd_T82 x9_45 x10_45).f4, (rd_T82 x9_45 x10_45).f5⟩ : S82) (Kd.R_mono HE112_2.out (fun _ h_ => .inl h_)) HO283.out) (fun _ hk => hk)
                   clear hcc114 hfr114
                   have HNB258_go112 := Aside0.mk (show gb258 ≠ go112 from (by have h_ := Kd.R_ne hraw114 BK258.out (by decide); intro e_; exact h_ B7x43_))
                   have HNB259_go112 := Aside0.mk (show gb259 ≠ go112 from (by have h_ := Kd.R_ne hraw114 BK259.out (by decide); intro e_; exact h_ B7x43_))
                   have HS114 := HP114.1
                   rw [← Ny284.out] at HS114
                   have HQ114 := Aside0.mk HS114
                   obtain ⟨_, hgg114⟩ := Kd.R_typed hraw114 go112 rfl
                   have GG114_ := Aside0.mk hgg114
                   clear HP114 HS114 hgg114
                   refine hK.out _ _ ⟨(blk_cell BK258.out 0).trans rfl, (blk_cell BK258.out 1).trans rfl, (blk_cell BK258.out 2).trans rfl, (blk_cell BK258.out 3).trans rfl, (blk_cell BK258.out 4).trans rfl, (blk_cell BK258.out 5).trans rfl, HS6_, HS7_, HS8_, HS9_, HS10_, HS11_⟩ (fun hHeld => ?_)
                   clear hK K
                   refine norm_ (a' := ?_) ?_ ?_
                   rotate_left
                   ·show Act.put _ (some 122) _ = _
                    simp only [Act.put, List.setIfInBounds_toArray, List.set_cons_zero, List.set_cons_succ, i64_w, i32_w]
                    rfl
                   refine pu_ 11 123 HT_ ?_
                   refine pu_ 12 124 HT_ ?_
                   refine last_ (i := 13) (N := none) #[true, true, true, true, true, true, true, true, true, true, true, true, true, true] rfl rfl (one_of HT_.out B7x13_) (by decide) (fun K hK => ?_)
                   refine skip_ (w1 := ?_) (by rfl) rfl ?_ ?_
                   rotate_left
                   ·go_simp
                    rfl
                   refine hK.out _ _ ?_
                   clear hK K
                   refine done_ (done_of HT_.out B7x13_) ?_
                   try go_wp2
                   have n0_ : Aside0 (Kd.S k82 82 (w113.setCell ⟨go112, (x10_45 : Int).toNat * 6 + 3, none⟩ (.slice Ao116 y281.length co116)) w.heap.size (fun k_ => (w.heap.size ≤ k_)) (.slice (some ⟨go112, 0, none⟩) x9_45.length co69) y284) := ⟨(by (with_reducible repeat (first | apply Kd.S_alloc | apply Kd.S_drewN | apply Kd.S_drew)); exact HQ114.out)⟩
                   have n1_ : Aside0 ((w113.setCell ⟨go112, (x10_45 : Int).toNat * 6 + 3, none⟩ (.slice Ao116 y281.length co116)).heap[gb258]? = some (.cells #[.int .i64 a1_0, .int .i64 a1_1, .int .i64 a1_2, .int .i64 a1_3, .bool false, .string a1_5] 62 (0, 0))) := ⟨B7x24_⟩
                   have n2_ : Aside0 ((w113.setCell ⟨go112, (x10_45 : Int).toNat * 6 + 3, none⟩ (.slice Ao116 y281.length co116)).heap[gb259]? = some (.cells #[.int .i64 0, .int .i64 0, .int .i64 0, .int .i64 0, .bool false, .string (⟨#[]⟩ : ByteArray)] 62 (0, 0))) := ⟨B7x25_⟩
                   have n3_ : Aside0 (Below w.heap.size w (w113.setCell ⟨go112, (x10_45 : Int).toNat * 6 + 3, none⟩ (.slice Ao116 y281.length co116))) := ⟨B7x29_⟩
                   (try clear HO_9)
                   (try clear BK258)
                   (try clear BK259)
                   (try clear HB)
                   generalize (w113.setCell ⟨go112, (x10_45 : Int).toNat * 6 + 3, none⟩ (.slice Ao116 y281.length co116)) = w117 at n0_ n1_ n2_ n3_ ⊢
                   have HO_9 := n0_
                   have BK258 := n1_
                   have BK259 := n2_
                   have HB := n3_
                   clear n0_ n1_ n2_ n3_
                   replace HO_9 := Aside0.mk (Kd.S_drew HO_9.out)
                   replace BK258 := Aside0.mk (blk_drew BK258.out)
                   replace BK259 := Aside0.mk (blk_drew BK259.out)
                   replace HB := Aside0.mk (below_drew1 HB.out)
                   have p285 : 0 ≤ (x10_45 : Int) := of_decide_eq_true B7x3_
                   have q285 : x10_45 < (y284.length : Int) := (by have h_ : (x10_45 : Int) < ((x9_45.length : Int) : Int) := of_decide_eq_true B7x3_; first | (have e_ := (Kd.S_reads' HO_9.out).1; omega) | simpa only [Ny284.out, List.length_set] using h_)
                   have ql285 : ((x10_45 : Int) < ((x9_45.length : Int) : Int)) = True := eq_true (of_decide_eq_true B7x3_)
                   obtain ⟨ad285, A285_2, c285_2, A285_3, c285_3, e285, hx285_0, hx285_1, hx285_2, hx285_3, hx285_4, hx285_5, hl285_2, hi285_2, hl285_3, hi285_3⟩ := at_T82 (Kd.S_reads' HO_9.out).2.2 x10_45 p285 q285
                   obtain rfl : (⟨go112, 0, none⟩ : Addr) = ad285 := (by injection e285)
                   obtain ⟨ce285, hce285, hMe285, hcc285⟩ := Kd.S_get HO_9.out z82 x10_45 p285 B7x36_
                   obtain ⟨ve285_2, ve285_3, rfl, ge285_2, ge285_3⟩ := k82_openM hMe285
                   have hv285_2 := hcc285 2 _ rfl
                   rw [add_field _ _ 2 (by omega)] at hv285_2
                   replace hv285_2 := Option.some.inj (hv285_2.symm.trans hx285_2)
                   rw [hv285_2] at ge285_2
                   have HL285_2 := Aside0.mk (show Kd.R Kd.string 9 _ _ _ _ ((rd_T82 y284 x10_45).f2) from ge285_2)
                   clear hv285_2 ge285_2
                   have HX285_2 := Aside0.mk hx285_2
                   have hv285_3 := hcc285 3 _ rfl
                   rw [add_field _ _ 3 (by omega)] at hv285_3
                   replace hv285_3 := Option.some.inj (hv285_3.symm.trans hx285_3)
                   rw [hv285_3] at ge285_3
                   have HL285_3 := Aside0.mk (show Kd.R (Kd.int .i64) 3 _ _ _ _ ((rd_T82 y284 x10_45).f3) from ge285_3)
                   clear hv285_3 ge285_3
                   have HX285_3 := Aside0.mk hx285_3
                   clear hcc285 hce285
                   (first | simp only [add_plain] at hx285_0 | simp only [add_at] at hx285_0 | simp only [Addr.add, Nat.zero_add] at hx285_0 | skip)
                   (first | simp only [add_plain] at hx285_1 | simp only [add_at] at hx285_1 | simp only [Addr.add, Nat.zero_add] at hx285_1 | skip)
                   (first | simp only [add_plain] at hx285_2 | simp only [add_at] at hx285_2 | simp only [Addr.add, Nat.zero_add] at hx285_2 | skip)
                   (first | simp only [add_plain] at hx285_3 | simp only [add_at] at hx285_3 | simp only [Addr.add, Nat.zero_add] at hx285_3 | skip)
                   (first | simp only [add_plain] at hx285_4 | simp only [add_at] at hx285_4 | simp only [Addr.add, Nat.zero_add] at hx285_4 | skip)
                   (first | simp only [add_plain] at hx285_5 | simp only [add_at] at hx285_5 | simp only [Addr.add, Nat.zero_add] at hx285_5 | skip)
                   have HR285_2 := Aside0.mk hi285_2
                   have HC285_2 := Aside0.mk hl285_2
                   clear hi285_2 hl285_2
                   have HR285_3 := Aside0.mk hi285_3
                   have HC285_3 := Aside0.mk hl285_3
                   clear hi285_3 hl285_3
                   replace p285 := eq_true p285
                   replace q285 := eq_true q285
                   obtain ⟨oki119, ce119, hcl119, hM119, hcc119, _, _, hH119⟩ := Kd.S_elem HO_9.out z82 (x10_45 : Int) (of_decide_eq_true B7x3_) (by have h_ : (x10_45 : Int) < ((x9_45.length : Int) : Int) := of_decide_eq_true B7x3_; first | exact h_ | (have e_ := (Kd.S_reads' HO_9.out).1; omega) | simpa using h_)
                   obtain ⟨ve119_2, ve119_3, rfl, ge119_2, ge119_3⟩ := k82_openM hM119
                   have hv119 := hcc119 2 _ rfl
                   have hX119 := HX285_2.out
                   (try simp only [add_plain] at hX119)
                   (try simp only [Nat.add_zero] at hv119)
                   replace hv119 := Option.some.inj (hv119.symm.trans hX119)
                   subst hv119
                   clear hX119 hcc119 hcl119
                   have UU119 := Aside0.mk (show Kd.R Kd.string 9 _ w.heap.size oki119 (.slice A285_2 ((rd_T82 y284 x10_45).f2).length c285_2) ((rd_T82 y284 x10_45).f2) from ge119_2)
                   have HH119 := Aside0.mk hH119
                   have HN119 := Aside0.mk (Kd.S_reads' HO_9.out).1
                   have HE119_3 := Aside0.mk ge119_3
                   clear hH119 ge119_2 ge119_3
                   refine start_ (n := 14) (S := fun w' => w'.cell? ⟨gb258, 0, none⟩ = some (.int .i64 a1_0) ∧ w'.cell? ⟨gb258, 1, none⟩ = some (.int .i64 a1_1) ∧ w'.cell? ⟨gb258, 2, none⟩ = some (.int .i64 a1_2) ∧ w'.cell? ⟨gb258, 3, none⟩ = some (.int .i64 a1_3) ∧ w'.cell? ⟨gb258, 4, none⟩ = some (.bool false) ∧ w'.cell? ⟨gb258, 5, none⟩ = some (.string a1_5) ∧ w'.cell? ⟨go112, (x10_45).toNat * 6, none⟩ = some (.int .i64 ((rd_T82 y284 x10_45).f0)) ∧ w'.cell? ⟨go112, (x10_45).toNat * 6 + 1, none⟩ = some (.int .i64 ((rd_T82 y284 x10_45).f1)) ∧ w'.cell? ⟨go112, (x10_45).toNat * 6 + 2, none⟩ = some (.slice A285_2 ((rd_T82 y284 x10_45).f2).length c285_2) ∧ w'.cell? ⟨go112, (x10_45).toNat * 6 + 3, none⟩ = some (.slice A285_3 ((rd_T82 y284 x10_45).f3).length c285_3) ∧ w'.cell? ⟨go112, (x10_45).toNat * 6 + 4, none⟩ = some (.int .i64 ((rd_T82 y284 x10_45).f4)) ∧ w'.cell? ⟨go112, (x10_45).toNat * 6 + 5, none⟩ = some (.int .i64 ((rd_T82 y284 x10_45).f5))) (ds := [13]) #[false, false, false, false, false, false, false, false, false, false, false, false, false, false] B7x13_ rfl rfl ⟨(blk_cell BK258.out 0).trans rfl, (blk_cell BK258.out 1).trans rfl, (blk_cell BK258.out 2).trans rfl, (blk_cell BK258.out 3).trans rfl, (blk_cell BK258.out 4).trans rfl, (blk_cell BK258.out 5).trans rfl, hx285_0, hx285_1, hx285_2, hx285_3, hx285_4, hx285_5⟩ (fun hHeld => ?_); refine with_tabW spec_JoinBits.tab24 spec_JoinBits.bits24 (fun HT_ HW_ => ?_)
                   generalize w117.drew = w118 at HO_9 BK258 BK259 HB HE119_3 HH119 HL285_2 HL285_3 HQ114 HR285_2 HR285_3 HX285_2 HX285_3 UU119 hx285_0 hx285_1 hx285_2 hx285_3 hx285_4 hx285_5 hHeld ⊢
                   refine pu_ 0 125 HT_ ?_
                   refine pu_ 1 126 HT_ ?_
                   refine pu_ 2 127 HT_ ?_
                   refine pu_ 3 128 HT_ ?_
                   refine pu_ 4 129 HT_ ?_
                   refine pu_ 5 130 HT_ ?_
                   refine pu_ 7 132 HT_ ?_
                   refine ta_ 6 131 HT_ HW_ hHeld ?_
                   refine ta_ 8 133 HT_ HW_ hHeld ?_
                   refine one_ (i := 9) (N := some 134) #[true, true, true, true, true, true, true, true, true, true, false, false, false, false] rfl rfl (one_of HT_.out B7x13_) (by decide) (fun K hK => ?_)
                   refine value_ (w1 := ?_) (v := ?_) (by rfl) rfl ?_ ?_
                   rotate_left 2
                   ·go_simp
                    constructor
                    ·rfl
                    ·rfl
                   refine hK.out _ _ ⟨(blk_cell (blk_alloc BK258.out _) 0).trans rfl, (blk_cell (blk_alloc BK258.out _) 1).trans rfl, (blk_cell (blk_alloc BK258.out _) 2).trans rfl, (blk_cell (blk_alloc BK258.out _) 3).trans rfl, (blk_cell (blk_alloc BK258.out _) 4).trans rfl, (blk_cell (blk_alloc BK258.out _) 5).trans rfl, (World.cell?_alloc_lt _ _ _ (World.block_lt_of_cell? _ _ (hHeld.2.2.2.2.2.2.1))).trans (hHeld.2.2.2.2.2.2.1), (World.cell?_alloc_lt _ _ _ (World.block_lt_of_cell? _ _ (hHeld.2.2.2.2.2.2.2.1))).trans (hHeld.2.2.2.2.2.2.2.1), (World.cell?_alloc_lt _ _ _ (World.block_lt_of_cell? _ _ (hHeld.2.2.2.2.2.2.2.2.1))).trans (hHeld.2.2.2.2.2.2.2.2.1), (World.cell?_alloc_lt _ _ _ (World.block_lt_of_cell? _ _ (hHeld.2.2.2.2.2.2.2.2.2.1))).trans (hHeld.2.2.2.2.2.2.2.2.2.1), (World.cell?_alloc_lt _ _ _ (World.block_lt_of_cell? _ _ (hHeld.2.2.2.2.2.2.2.2.2.2.1))).trans (hHeld.2.2.2.2.2.2.2.2.2.2.1), (World.cell?_alloc_lt _ _ _ (World.block_lt_of_cell? _ _ (hHeld.2.2.2.2.2.2.2.2.2.2.2))).trans (hHeld.2.2.2.2.2.2.2.2.2.2.2)⟩ (fun hHeld => ?_)
                   clear hK K
                   refine norm_ (a' := ?_) ?_ ?_
                   rotate_left
                   ·show Act.put _ (some 134) _ = _
                    simp only [Act.put, List.setIfInBounds_toArray, List.set_cons_zero, List.set_cons_succ, i64_w, i32_w]
                    rfl
                   refine one_ (i := 10) (N := some 135) #[true, true, true, true, true, true, true, true, true, true, true, false, false, false] rfl rfl (one_of HT_.out B7x13_) (by decide) (fun K hK => ?_)
                   refine Kd.R_append_step Kd.string (w0 := w) w.heap.size (by rfl) (.tmp 131) (.tmp 134) 25 9 (.string ⟨#[]⟩) 16 rfl Try.underlying25 info9 rfl (by decide) (by omega) (.slice A285_2 ((rd_T82 y284 x10_45).f2).length c285_2) ((rd_T82 y284 x10_45).f2) a1_5 [.string a1_5] (fun k_ => oki119 k_ ∨ ((fun k_ => (w.heap.size ≤ k_))) k_ ∧ w118.heap.size ≤ k_) (fun _ => False) rfl rfl ?aP (fun _ hk => hk.elim) ?aF ?aO ?aB ?aS ?aL ?_
                   (case aP => exact rfl)
                   (case aB => exact B7x0_)
                   (case aF => exact (fun k_ hk => .inr ⟨(by first | trivial | exact Nat.le_trans (below_size (by repeat (first | (with_reducible first | exact HB.out | apply below_alloc | apply pw_below_drewN | apply below_drew1) | exact HB.out))) hk), hk⟩))
                   (case aO => (with_reducible repeat (first | apply Kd.R_alloc | apply Kd.R_drewN | apply Kd.R_drew)); exact Kd.R_mono UU119.out (fun _ hk => .inl hk))
                   (case aS => exact B7x33_)
                   (case aL => have := LMc73.out; omega)
                   intro v287 w120 ho hb hg hat
                   (first | have HS6_ := cell_grown hg (hHeld.2.2.2.2.2.2.1) B7x2_ | have HS6_ := cell_grown hg (cell_unalloc (hHeld.2.2.2.2.2.2.1) B7x4_) B7x2_)
                   (first | have HS7_ := cell_grown hg (hHeld.2.2.2.2.2.2.2.1) B7x2_ | have HS7_ := cell_grown hg (cell_unalloc (hHeld.2.2.2.2.2.2.2.1) B7x4_) B7x2_)
                   (first | have HS8_ := cell_grown hg (hHeld.2.2.2.2.2.2.2.2.1) B7x2_ | have HS8_ := cell_grown hg (cell_unalloc (hHeld.2.2.2.2.2.2.2.2.1) B7x4_) B7x2_)
                   (first | have HS9_ := cell_grown hg (hHeld.2.2.2.2.2.2.2.2.2.1) B7x2_ | have HS9_ := cell_grown hg (cell_unalloc (hHeld.2.2.2.2.2.2.2.2.2.1) B7x4_) B7x2_)
                   (first | have HS10_ := cell_grown hg (hHeld.2.2.2.2.2.2.2.2.2.2.1) B7x2_ | have HS10_ := cell_grown hg (cell_unalloc (hHeld.2.2.2.2.2.2.2.2.2.2.1) B7x4_) B7x2_)
                   (first | have HS11_ := cell_grown hg (hHeld.2.2.2.2.2.2.2.2.2.2.2) B7x2_ | have HS11_ := cell_grown hg (cell_unalloc (hHeld.2.2.2.2.2.2.2.2.2.2.2) B7x4_) B7x2_)
                   rw [← Ny286.out] at ho
                   replace BK258 := Aside0.mk (blk_grown (g := gb258) (o := .cells #[.int .i64 a1_0, .int .i64 a1_1, .int .i64 a1_2, .int .i64 a1_3, .bool false, .string a1_5] 62 (0, 0)) B7x6_ hg (Kd.R_ne HL285_2.out BK258.out (by decide)))
                   replace BK259 := Aside0.mk (blk_grown (g := gb259) (o := .cells #[.int .i64 0, .int .i64 0, .int .i64 0, .int .i64 0, .bool false, .string (⟨#[]⟩ : ByteArray)] 62 (0, 0)) B7x5_ hg (Kd.R_ne HL285_2.out BK259.out (by decide)))
                   replace HB := Aside0.mk (hb)
                   replace HH119 := Aside0.mk (Kd.H_grown (Kd.H_widen (by repeat (first | exact HH119.out | refine Kd.H_alloc ?_ _ | refine Kd.H_drewN ?_ _ | refine Kd.H_drew ?_))) hg (fun k_ e_ => .inl (UU119.out.1 k_ e_)))
                   replace HE119_3 := Aside0.mk (Kd.R_over' (v := (.slice A285_2 ((rd_T82 y284 x10_45).f2).length c285_2)) (by (with_reducible repeat (first | apply Kd.R_alloc | apply Kd.R_drewN | apply Kd.R_drew)); exact HE119_3.out) (Kd.R_typed UU119.out) (by decide) hg)
                   have HO288 := Aside0.mk (ho)
                   clear HO_9
                   clear UU119
                   clear HL285_2
                   clear HL285_3
                   clear ho hb hg hat
                   have p74 : 0 ≤ (x10_45 : Int) := of_decide_eq_true B7x3_
                   have q74 : (x10_45 : Int) < ((x9_45.length : Int) : Int) := of_decide_eq_true B7x3_
                   replace p74 := eq_true p74
                   replace q74 := eq_true q74
                   obtain ⟨Ao123, co123, eo123⟩ := Kd.R_slice HO288.out
                   (first | subst eo123 | (injection eo123 with f1_ f2_ f3_; have f4_ := f1_.symm; have f5_ := f3_.symm; clear f1_ f2_ f3_; subst f4_; subst f5_))
                   obtain ⟨_, _, hraw121, _, _, hcc121, _⟩ := Kd.H_raw HH119.out (of_decide_eq_true B7x3_) (by have h_ : (x10_45 : Int) < ((x9_45.length : Int) : Int) := of_decide_eq_true B7x3_; first | exact h_ | (have e_ := (HN119.out); omega) | simpa using h_)
                   obtain ⟨_, hfr121⟩ := Kd.H_at HH119.out (of_decide_eq_true B7x3_) (by have h_ : (x10_45 : Int) < ((x9_45.length : Int) : Int) := of_decide_eq_true B7x3_; first | exact h_ | (have e_ := (HN119.out); omega) | simpa using h_)
                   have hx121_0 := hcc121 2 _ rfl
                   have hf121_0 := hfr121 2
                   (try rw [show (k82).sz = 6 from rfl] at hx121_0)
                   (try rw [show (k82).sz = 6 from rfl] at hf121_0)
                   have HP121 := Kd.S_seg0 HH119.out (of_decide_eq_true B7x3_) (by have h_ : (x10_45 : Int) < ((x9_45.length : Int) : Int) := of_decide_eq_true B7x3_; first | exact h_ | (have e_ := (HN119.out); omega) | simpa using h_) (seg := [.slice Ao123 y286.length co123]) (j := 2) (show 3 ≤ 6 from (by decide)) (x' := (⟨(rd_T82 y284 x10_45).f0, (rd_T82 y284 x10_45).f1, y286, (rd_T82 y284 x10_45).f3, (rd_T82 y284 x10_45).f4, (rd_T82 y284 x10_45).f5⟩ : S82)) (k82_mkM _ _ _ (⟨(rd_T82 y284 x10_45).f0, (rd_T82 y284 x10_45).f1, y286, (rd_T82 y284 x10_45).f3, (rd_T82 y284 x10_45).f4, (rd_T82 y284 x10_45).f5⟩ : S82) HO288.out (Kd.R_mono HE119_3.out (fun _ h_ => .inl h_))) (fun _ hk => hk)
                   clear hcc121 hfr121
                   have HNB258_go112 := Aside0.mk (show gb258 ≠ go112 from (by have h_ := Kd.R_ne hraw121 BK258.out (by decide); intro e_; exact h_ B7x43_))
                   have HNB259_go112 := Aside0.mk (show gb259 ≠ go112 from (by have h_ := Kd.R_ne hraw121 BK259.out (by decide); intro e_; exact h_ B7x43_))
                   have HS121 := HP121.1
                   rw [← Ny289.out] at HS121
                   have HQ121 := Aside0.mk HS121
                   obtain ⟨_, hgg121⟩ := Kd.R_typed hraw121 go112 rfl
                   have GG121_ := Aside0.mk hgg121
                   clear HP121 HS121 hgg121
                   refine hK.out _ _ ⟨(blk_cell BK258.out 0).trans rfl, (blk_cell BK258.out 1).trans rfl, (blk_cell BK258.out 2).trans rfl, (blk_cell BK258.out 3).trans rfl, (blk_cell BK258.out 4).trans rfl, (blk_cell BK258.out 5).trans rfl, HS6_, HS7_, HS8_, HS9_, HS10_, HS11_⟩ (fun hHeld => ?_)
                   clear hK K
                   refine norm_ (a' := ?_) ?_ ?_
                   rotate_left
                   ·show Act.put _ (some 135) _ = _
                    simp only [Act.put, List.setIfInBounds_toArray, List.set_cons_zero, List.set_cons_succ, i64_w, i32_w]
                    rfl
                   refine pu_ 11 136 HT_ ?_
                   refine pu_ 12 137 HT_ ?_
                   refine last_ (i := 13) (N := none) #[true, true, true, true, true, true, true, true, true, true, true, true, true, true] rfl rfl (one_of HT_.out B7x13_) (by decide) (fun K hK => ?_)
                   refine skip_ (w1 := ?_) (by rfl) rfl ?_ ?_
                   rotate_left
                   ·go_simp
                    rfl
                   refine hK.out _ _ ?_
                   clear hK K
                   refine done_ (done_of HT_.out B7x13_) ?_
                   have n0_ : Aside0 (Kd.S k82 82 (w120.setCell ⟨go112, (x10_45 : Int).toNat * 6 + 2, none⟩ (.slice Ao123 y286.length co123)) w.heap.size (fun k_ => (w.heap.size ≤ k_)) (.slice (some ⟨go112, 0, none⟩) x9_45.length co69) y289) := ⟨(by (with_reducible repeat (first | apply Kd.S_alloc | apply Kd.S_drewN | apply Kd.S_drew)); exact HQ121.out)⟩
                   have n1_ : Aside0 ((w120.setCell ⟨go112, (x10_45 : Int).toNat * 6 + 2, none⟩ (.slice Ao123 y286.length co123)).heap[gb258]? = some (.cells #[.int .i64 a1_0, .int .i64 a1_1, .int .i64 a1_2, .int .i64 a1_3, .bool false, .string a1_5] 62 (0, 0))) := ⟨B7x24_⟩
                   have n2_ : Aside0 ((w120.setCell ⟨go112, (x10_45 : Int).toNat * 6 + 2, none⟩ (.slice Ao123 y286.length co123)).heap[gb259]? = some (.cells #[.int .i64 0, .int .i64 0, .int .i64 0, .int .i64 0, .bool false, .string (⟨#[]⟩ : ByteArray)] 62 (0, 0))) := ⟨B7x25_⟩
                   have n3_ : Aside0 (Below w.heap.size w (w120.setCell ⟨go112, (x10_45 : Int).toNat * 6 + 2, none⟩ (.slice Ao123 y286.length co123))) := ⟨B7x29_⟩
                   (try clear HO_9)
                   (try clear BK258)
                   (try clear BK259)
                   (try clear HB)
                   generalize (w120.setCell ⟨go112, (x10_45 : Int).toNat * 6 + 2, none⟩ (.slice Ao123 y286.length co123)) = w124 at n0_ n1_ n2_ n3_ ⊢
                   have HO_9 := n0_
                   have BK258 := n1_
                   have BK259 := n2_
                   have HB := n3_
                   clear n0_ n1_ n2_ n3_
                   have hnb125 := NB258_259.out
                   have hnc125 := NB259_258.out
                   obtain ⟨hcz126_0, hcz126_1, hcz126_2, hcz126_3, hcz126_4, hcz126_5⟩ := cl6 BK258.out
                   obtain ⟨hfz126_0, hfz126_1, hfz126_2, hfz126_3, hfz126_4, hfz126_5⟩ := fr6 BK258.out
                   have p290 : 0 ≤ (x10_45 : Int) := of_decide_eq_true B7x3_
                   have q290 : x10_45 < (y289.length : Int) := (by have h_ : (x10_45 : Int) < ((x9_45.length : Int) : Int) := of_decide_eq_true B7x3_; first | (have e_ := (Kd.S_reads' HO_9.out).1; omega) | simpa only [Ny284.out, Ny289.out, List.length_set] using h_)
                   have ql290 : ((x10_45 : Int) < ((x9_45.length : Int) : Int)) = True := eq_true (of_decide_eq_true B7x3_)
                   obtain ⟨ad290, A290_2, c290_2, A290_3, c290_3, e290, hx290_0, hx290_1, hx290_2, hx290_3, hx290_4, hx290_5, hl290_2, hi290_2, hl290_3, hi290_3⟩ := at_T82 (Kd.S_reads' HO_9.out).2.2 x10_45 p290 q290
                   obtain rfl : (⟨go112, 0, none⟩ : Addr) = ad290 := (by injection e290)
                   obtain ⟨ce290, hce290, hMe290, hcc290⟩ := Kd.S_get HO_9.out z82 x10_45 p290 B7x49_
                   obtain ⟨ve290_2, ve290_3, rfl, ge290_2, ge290_3⟩ := k82_openM hMe290
                   have hv290_2 := hcc290 2 _ rfl
                   rw [add_field _ _ 2 (by omega)] at hv290_2
                   replace hv290_2 := Option.some.inj (hv290_2.symm.trans hx290_2)
                   rw [hv290_2] at ge290_2
                   have HL290_2 := Aside0.mk (show Kd.R Kd.string 9 _ _ _ _ ((rd_T82 y289 x10_45).f2) from ge290_2)
                   clear hv290_2 ge290_2
                   have HX290_2 := Aside0.mk hx290_2
                   have hv290_3 := hcc290 3 _ rfl
                   rw [add_field _ _ 3 (by omega)] at hv290_3
                   replace hv290_3 := Option.some.inj (hv290_3.symm.trans hx290_3)
                   rw [hv290_3] at ge290_3
                   have HL290_3 := Aside0.mk (show Kd.R (Kd.int .i64) 3 _ _ _ _ ((rd_T82 y289 x10_45).f3) from ge290_3)
                   clear hv290_3 ge290_3
                   have HX290_3 := Aside0.mk hx290_3
                   clear hcc290 hce290
                   (first | simp only [add_plain] at hx290_0 | simp only [add_at] at hx290_0 | simp only [Addr.add, Nat.zero_add] at hx290_0 | skip)
                   (first | simp only [add_plain] at hx290_1 | simp only [add_at] at hx290_1 | simp only [Addr.add, Nat.zero_add] at hx290_1 | skip)
                   (first | simp only [add_plain] at hx290_2 | simp only [add_at] at hx290_2 | simp only [Addr.add, Nat.zero_add] at hx290_2 | skip)
                   (first | simp only [add_plain] at hx290_3 | simp only [add_at] at hx290_3 | simp only [Addr.add, Nat.zero_add] at hx290_3 | skip)
                   (first | simp only [add_plain] at hx290_4 | simp only [add_at] at hx290_4 | simp only [Addr.add, Nat.zero_add] at hx290_4 | skip)
                   (first | simp only [add_plain] at hx290_5 | simp only [add_at] at hx290_5 | simp only [Addr.add, Nat.zero_add] at hx290_5 | skip)
                   have HR290_2 := Aside0.mk hi290_2
                   have HC290_2 := Aside0.mk hl290_2
                   clear hi290_2 hl290_2
                   have HR290_3 := Aside0.mk hi290_3
                   have HC290_3 := Aside0.mk hl290_3
                   clear hi290_3 hl290_3
                   replace p290 := eq_true p290
                   replace q290 := eq_true q290
                   try go_wp2
                   go_meet
                   case rel => exact ⟨_, (y289), H', ⟨B7x14_⟩, ⟨Kd.R_N ((Kd.S_R B7x17_))⟩, ⟨B7x6_⟩, ⟨B7x5_⟩, ⟨B7x0_⟩⟩
               case rest => as_aux_lemma =>
                clear HC68
                try clear c28
                obtain ⟨kq, x9_67, HA, HJ67, HO_9, BK258, BK259, HB⟩ := hcut
                have hl9_67 := (Kd.N_reads' HO_9.out).1
                rw [hl9_67] at HO_9
                (try simp only [hl9_67])
                (try simp only [hl9_67] at BK258)
                (try simp only [hl9_67] at BK259)
                cases kq with
                | zero => exact absurd HA.out (by simp [spec_JoinBits.j8])
                | succ kj67 =>
                 have H := HA.out
                 clear HA
                 simp only [spec_JoinBits.j8] at H
                 by_cases c127 : 0 ≤ x10_45
                 rotate_left
                 ·rw [if_neg c127] at H
                  exact absurd H (by simp)
                 rw [if_pos c127] at H
                 have c127b0 : decide (0 ≤ x10_45) = true := decide_eq_true c127
                 clear c127
                 by_cases c128 : x10_45 < (x9_67.length : Int)
                 rotate_left
                 ·rw [if_neg c128] at H
                  exact absurd H (by simp)
                 rw [if_pos c128] at H
                 have c128b0 : decide (x10_45 < (x9_67.length : Int)) = true := decide_eq_true c128
                 clear c128
                 replace H := bsi H
                 obtain ⟨⟨t293, t294⟩, A129, H⟩ := H
                 (try dsimp only at H)
                 by_cases c130 : t294 = true
                 ·subst c130
                  rw [if_pos rfl] at H
                  obtain ⟨y295, hy295⟩ : ∃ y_ : List (S82), y_ = (([] : List (S82))) := ⟨_, rfl⟩
                  replace H : (if x10_45 ≤ (x9_67.length : Int) then ((some (x9_67.take (x10_45 : Int).toNat : List (S82))).bind fun y298 => (if y295.length + y298.length < 1759218604441 then ((some (y295 ++ y298 : List (S82))).bind fun y303 => (if 0 ≤ (wrap64 (x10_45 + 1)) then (if (wrap64 (x10_45 + 1)) ≤ (x9_67.length : Int) then ((some (x9_67.drop ((wrap64 (x10_45 + 1)) : Int).toNat : List (S82))).bind fun y306 => (if y303.length + y306.length < 1759218604441 then ((spec_l11CopyBits.f kj67 (y303 ++ y306)).bind fun t314 => (some (t314, a1_0, a1_1, a1_2, 0, false, t293, true))) else (none))) else (none)) else (none))) else (none))) else (none)) = some (r1, r2, r3, r4, r5, r6, r7, r8) := by first | (rw [hy295]; with_reducible exact H) | (have H2_ := (Option.bind_some _ _).symm.trans H; rw [hy295]; with_reducible exact H2_) | (have H2_ := (Option.bind_some _ _).symm.trans H; with_reducible exact H2_) | with_reducible exact H | (rw [hy295]; exact H) | exact H
                  have Ny295 := Aside0.mk hy295
                  clear hy295
                  have c131b0 := eq_true (of_decide_eq_true B7x3_ : 0 ≤ x10_45)
                  by_cases c132 : x10_45 ≤ (x9_67.length : Int)
                  rotate_left
                  ·rw [if_neg c132] at H
                   exact absurd H (by simp)
                  rw [if_pos c132] at H
                  have c132b0 := eq_true c132
                  have c132b1 : decide (x10_45 ≤ (x9_67.length : Int)) = true := decide_eq_true c132
                  clear c132
                  obtain ⟨y298, hy298⟩ : ∃ y_ : List (S82), y_ = (x9_67.take (x10_45 : Int).toNat) := ⟨_, rfl⟩
                  replace H : (if y295.length + y298.length < 1759218604441 then ((some (y295 ++ y298 : List (S82))).bind fun y303 => (if 0 ≤ (wrap64 (x10_45 + 1)) then (if (wrap64 (x10_45 + 1)) ≤ (x9_67.length : Int) then ((some (x9_67.drop ((wrap64 (x10_45 + 1)) : Int).toNat : List (S82))).bind fun y306 => (if y303.length + y306.length < 1759218604441 then ((spec_l11CopyBits.f kj67 (y303 ++ y306)).bind fun t314 => (some (t314, a1_0, a1_1, a1_2, 0, false, t293, true))) else (none))) else (none)) else (none))) else (none)) = some (r1, r2, r3, r4, r5, r6, r7, r8) := by first | (rw [hy298]; with_reducible exact H) | (have H2_ := (Option.bind_some _ _).symm.trans H; rw [hy298]; with_reducible exact H2_) | (have H2_ := (Option.bind_some _ _).symm.trans H; with_reducible exact H2_) | with_reducible exact H | (rw [hy298]; exact H) | exact H
                  have Ny298 := Aside0.mk hy298
                  clear hy298
                  by_cases c133 : y295.length + y298.length < 1759218604441
                  rotate_left
                  ·rw [if_neg c133] at H
                   exact absurd H (by simp)
                  rw [if_pos c133] at H
                  have LMc133 := Aside0.mk c133
                  clear c133
                  obtain ⟨y303, hy303⟩ : ∃ y_ : List (S82), y_ = (y295 ++ y298) := ⟨_, rfl⟩
                  replace H : (if 0 ≤ (wrap64 (x10_45 + 1)) then (if (wrap64 (x10_45 + 1)) ≤ (x9_67.length : Int) then ((some (x9_67.drop ((wrap64 (x10_45 + 1)) : Int).toNat : List (S82))).bind fun y306 => (if y303.length + y306.length < 1759218604441 then ((spec_l11CopyBits.f kj67 (y303 ++ y306)).bind fun t314 => (some (t314, a1_0, a1_1, a1_2, 0, false, t293, true))) else (none))) else (none)) else (none)) = some (r1, r2, r3, r4, r5, r6, r7, r8) := by first | (rw [hy303]; with_reducible exact H) | (have H2_ := (Option.bind_some _ _).symm.trans H; rw [hy303]; with_reducible exact H2_) | (have H2_ := (Option.bind_some _ _).symm.trans H; with_reducible exact H2_) | with_reducible exact H | (rw [hy303]; exact H) | exact H
                  have Ny303 := Aside0.mk hy303
                  clear hy303
                  obtain ⟨ji134, hji134⟩ : ∃ j_ : Int, (wrap64 (x10_45 + 1)) = j_ := ⟨_, rfl⟩
                  replace H : (if 0 ≤ (ji134) then (if (ji134) ≤ (x9_67.length : Int) then ((some (x9_67.drop ((ji134) : Int).toNat : List (S82))).bind fun y306 => (if y303.length + y306.length < 1759218604441 then ((spec_l11CopyBits.f kj67 (y303 ++ y306)).bind fun t314 => (some (t314, a1_0, a1_1, a1_2, 0, false, t293, true))) else (none))) else (none)) else (none)) = some (r1, r2, r3, r4, r5, r6, r7, r8) := by first | (rw [hji134] at H; exact H) | (simp only [hji134] at H ⊢; exact H)
                  (try rw [hji134] at A129)
                  have hji134w : (IntKind.i64.wrap (x10_45 + 1)) = ji134 := (i64_w _).trans hji134
                  by_cases c135 : 0 ≤ (ji134)
                  rotate_left
                  ·rw [if_neg c135] at H
                   exact absurd H (by simp)
                  rw [if_pos c135] at H
                  have c135b0 := eq_true c135
                  have c135b1 : decide (0 ≤ (ji134)) = true := decide_eq_true c135
                  clear c135
                  by_cases c136 : (ji134) ≤ (x9_67.length : Int)
                  rotate_left
                  ·rw [if_neg c136] at H
                   exact absurd H (by simp)
                  rw [if_pos c136] at H
                  have c136b0 := eq_true c136
                  have c136b1 : decide ((ji134) ≤ (x9_67.length : Int)) = true := decide_eq_true c136
                  clear c136
                  obtain ⟨y306, hy306⟩ : ∃ y_ : List (S82), y_ = (x9_67.drop ((ji134) : Int).toNat) := ⟨_, rfl⟩
                  replace H : (if y303.length + y306.length < 1759218604441 then ((spec_l11CopyBits.f kj67 (y303 ++ y306)).bind fun t314 => (some (t314, a1_0, a1_1, a1_2, 0, false, t293, true))) else (none)) = some (r1, r2, r3, r4, r5, r6, r7, r8) := by first | (rw [hy306]; with_reducible exact H) | (have H2_ := (Option.bind_some _ _).symm.trans H; rw [hy306]; with_reducible exact H2_) | (have H2_ := (Option.bind_some _ _).symm.trans H; with_reducible exact H2_) | with_reducible exact H | (rw [hy306]; exact H) | exact H
                  have Ny306 := Aside0.mk hy306
                  clear hy306
                  by_cases c137 : y303.length + y306.length < 1759218604441
                  rotate_left
                  ·rw [if_neg c137] at H
                   exact absurd H (by simp)
                  rw [if_pos c137] at H
                  have LMc137 := Aside0.mk c137
                  clear c137
                  obtain ⟨y311, hy311⟩ : ∃ y_ : List (S82), y_ = (y303 ++ y306) := ⟨_, rfl⟩
                  replace H : ((spec_l11CopyBits.f kj67 y311).bind fun t314 => (some (t314, a1_0, a1_1, a1_2, 0, false, t293, true))) = some (r1, r2, r3, r4, r5, r6, r7, r8) := by first | (rw [hy311]; with_reducible exact H) | (have H2_ := (Option.bind_some _ _).symm.trans H; rw [hy311]; with_reducible exact H2_) | (have H2_ := (Option.bind_some _ _).symm.trans H; with_reducible exact H2_) | with_reducible exact H | (rw [hy311]; exact H) | exact H
                  have Ny311 := Aside0.mk hy311
                  clear hy311
                  replace H := bsi H
                  obtain ⟨t314, A138, H⟩ := H
                  (try dsimp only at H)
                  simp only [Option.some.injEq, Prod.mk.injEq] at H
                  obtain ⟨rfl, rfl, rfl, rfl, rfl, rfl, rfl, rfl⟩ := H
                  have p292 : 0 ≤ (x10_45 : Int) := of_decide_eq_true B7x3_
                  have q292 : x10_45 < (x9_67.length : Int) := of_decide_eq_true B7x3_
                  obtain ⟨ad292, A292_2, c292_2, A292_3, c292_3, e292, hx292_0, hx292_1, hx292_2, hx292_3, hx292_4, hx292_5, hl292_2, hi292_2, hl292_3, hi292_3⟩ := at_T82 (Kd.N_reads' HO_9.out).2.2 x10_45 p292 q292
                  obtain rfl : ad277 = ad292 := (by injection e292)
                  obtain ⟨ce292, hce292, hMe292, hcc292⟩ := Kd.N_get HO_9.out z82 x10_45 p292 B7x50_
                  obtain ⟨ua292_2, uc292_2, ua292_3, uc292_3, rfl, ul292_2, ge292_2, ul292_3, ge292_3⟩ := k82_openF hMe292
                  have hv292_2 := hcc292 2 _ rfl
                  rw [add_field _ _ 2 (by omega)] at hv292_2
                  replace hv292_2 := Option.some.inj (hv292_2.symm.trans hx292_2)
                  injection hv292_2 with hva_ hvn_ hvc_
                  rw [hva_] at ge292_2
                  rw [hvc_] at ul292_2
                  have HL292_2 := Aside0.mk (show Kd.V Kd.string 9 _ w.heap.size _ _ ((rd_T82 x9_67 x10_45).f2) from Kd.V_mk ul292_2 ge292_2)
                  clear hva_ hvn_ hvc_ ge292_2 ul292_2
                  have hv292_3 := hcc292 3 _ rfl
                  rw [add_field _ _ 3 (by omega)] at hv292_3
                  replace hv292_3 := Option.some.inj (hv292_3.symm.trans hx292_3)
                  injection hv292_3 with hva_ hvn_ hvc_
                  rw [hva_] at ge292_3
                  rw [hvc_] at ul292_3
                  have HL292_3 := Aside0.mk (show Kd.V (Kd.int .i64) 3 _ w.heap.size _ _ ((rd_T82 x9_67 x10_45).f3) from Kd.V_mk ul292_3 ge292_3)
                  clear hva_ hvn_ hvc_ ge292_3 ul292_3
                  clear hcc292 hce292
                  have HR292_2 := Aside0.mk hi292_2
                  have HC292_2 := Aside0.mk hl292_2
                  clear hi292_2 hl292_2
                  have HR292_3 := Aside0.mk hi292_3
                  have HC292_3 := Aside0.mk hl292_3
                  clear hi292_3 hl292_3
                  replace p292 := eq_true p292
                  replace q292 := eq_true q292
                  try go_wp2_with (first | ((with_reducible refine gate_callee (f := 113) rfl ?_); refine goesL_ (some 164) rfl rfl Try.func113 B7x13_ rfl #[.agg #[.int .i64 ((rd_T82 x9_67 x10_45).f0), .int .i64 ((rd_T82 x9_67 x10_45).f1), .slice A292_2 ((rd_T82 x9_67 x10_45).f2).length c292_2, .slice A292_3 ((rd_T82 x9_67 x10_45).f3).length c292_3, .int .i64 ((rd_T82 x9_67 x10_45).f4), .int .i64 ((rd_T82 x9_67 x10_45).f5)]] rfl B7x8_ ?_; (with_reducible refine (spec_l11Whole.calls kj67 ((rd_T82 x9_67 x10_45).f0) ((rd_T82 x9_67 x10_45).f1) _ _ ((rd_T82 x9_67 x10_45).f2) _ _ ((rd_T82 x9_67 x10_45).f3) ((rd_T82 x9_67 x10_45).f4) ((rd_T82 x9_67 x10_45).f5) t293 true _ ?side1 ?side2 ?side3 ?side4 A129.out).mono ?_); (case side1 => exact B7x40_); (case side2 => exact HC292_2.out); (case side3 => exact B7x41_); (case side4 => exact HC292_3.out); rintro e w139 ⟨rfl, hb⟩; refine ⟨_, rfl, ?_⟩; replace HO_9 := Aside0.mk (Kd.N_below B7x12_ hb); replace HL292_2 := Aside0.mk (Kd.V_below B7x18_ hb); replace HL292_3 := Aside0.mk (Kd.V_below B7x19_ hb); replace BK258 := Aside0.mk (bb BK258.out hb); replace BK259 := Aside0.mk (bb BK259.out hb); replace HR292_2 := Aside0.mk (Kd.C_below B7x10_ hb); (try (replace HX292_2 := Aside0.mk (pw_cell_below hb HX292_2.out))); replace HR292_3 := Aside0.mk (Kd.C_below B7x11_ hb); (try (replace HX292_3 := Aside0.mk (pw_cell_below hb HX292_3.out))); replace HB := Aside0.mk (below_step B7x0_ hb); (try clear hb); (try clear hl)))
                  replace HO_9 := Aside0.mk (Kd.N_drew HO_9.out)
                  replace HL292_2 := Aside0.mk (Kd.V_drew HL292_2.out)
                  replace HL292_3 := Aside0.mk (Kd.V_drew HL292_3.out)
                  replace BK258 := Aside0.mk (blk_drew BK258.out)
                  replace BK259 := Aside0.mk (blk_drew BK259.out)
                  replace HR292_2 := Aside0.mk (Kd.C_drew HR292_2.out)
                  replace HR292_3 := Aside0.mk (Kd.C_drew HR292_3.out)
                  replace HB := Aside0.mk (below_drew1 HB.out)
                  have q141 : (x10_45 : Int) ≤ ((x9_67.length : Int) : Int) := of_decide_eq_true B7x3_
                  obtain ⟨i0141, hi0141, _, hsz141, _⟩ := info_parts info82
                  have hroom141 : x9_67.length ≤ co69 := (Kd.N_reads' HO_9.out).2.1
                  have hC141 : Kd.F k82 _ _ (some ad277) x9_67.length x9_67 := (Kd.V_at (base := w.heap.size) (Kd.N_V HO_9.out)).2.2
                  have hcut141 := cut_to (P := Try.prog) 68 82 .i64 Try.underlying68 hi0141 (some ad277) x9_67.length co69 x10_45 (of_decide_eq_true B7x3_) q141 hroom141
                  have hr141 := Kd.F_take (m := (x10_45 : Int).toNat) hC141 (by omega)
                  have hy141 : y298.length = (x10_45 : Int).toNat := (by rw [Ny298.out, List.length_take]; omega)
                  rw [← Ny298.out] at hr141
                  rw [← hy141] at hcut141
                  have HO302 := Aside0.mk (show Kd.V k82 82 _ w.heap.size _ (.slice (some ad277) y298.length co69) y298 from Kd.V_mk (by omega) hr141)
                  have HC302 := Aside0.mk (show y298.length ≤ co69 from (by omega))
                  clear hr141 hC141 hroom141 hi0141 hsz141
                  have KY141 := Aside0.mk hy141
                  clear hy141
                  replace q141 := eq_true q141
                  have q142 : ((ji134) : Int) ≤ ((x9_67.length : Int) : Int) := of_decide_eq_true B7x3_
                  obtain ⟨i0142, hi0142, _, hsz142, _⟩ := info_parts info82
                  have hroom142 : x9_67.length ≤ co69 := (Kd.N_reads' HO_9.out).2.1
                  have hC142 : Kd.F k82 _ _ (some ad277) x9_67.length x9_67 := (Kd.V_at (base := w.heap.size) (Kd.N_V HO_9.out)).2.2
                  have q0142 : (0 : Int) ≤ ((ji134) : Int) := of_decide_eq_true B7x3_
                  have hcut142 := cut_from (P := Try.prog) 68 82 .i64 Try.underlying68 hi0142 6 hsz142 (some ad277) x9_67.length co69 (ji134) q0142 q142
                  have hr142 := Kd.F_cut (m := ((ji134) : Int).toNat) (c := co69) hC142 (by omega) hroom142
                  obtain ⟨A142, hA142⟩ : ∃ A1, A1 = (if co69 = ((ji134) : Int).toNat then (some ad277) else ((some ad277) : Option Addr).map (·.add (((ji134) : Int).toNat * 6))) := ⟨_, rfl⟩
                  obtain ⟨c142, hc142⟩ : ∃ c1, c1 = co69 - ((ji134) : Int).toNat := ⟨_, rfl⟩
                  have hy142 : y306.length = x9_67.length - ((ji134) : Int).toNat := (by rw [Ny306.out, List.length_drop] <;> omega)
                  rw [show (x9_67).drop ((ji134) : Int).toNat = y306 from Ny306.out.symm] at hr142
                  replace hr142 : Kd.F k82 _ _ A142 y306.length y306 := (by rw [hA142]; exact hr142)
                  rw [← hy142, ← hA142, ← hc142] at hcut142
                  have HO310 := Aside0.mk (show Kd.V k82 82 _ w.heap.size _ (.slice A142 y306.length c142) y306 from Kd.V_mk B7x51_ hr142)
                  have HC310 := Aside0.mk (show y306.length ≤ c142 from B7x51_)
                  clear hr142 hC142 hroom142 hi0142 hsz142 hc142
                  have KY142 := Aside0.mk hy142
                  have KA142 := Aside0.mk hA142
                  clear hy142 hA142
                  replace q142 := eq_true q142
                  refine start_ (n := 12) (S := fun w' => True) (ds := []) #[false, false, false, false, false, false, false, false, false, false, false, false] B7x13_ rfl rfl trivial (fun hHeld => ?_); refine with_tabW spec_JoinBits.tab30 spec_JoinBits.bits30 (fun HT_ HW_ => ?_)
                  generalize w139.drew = w140 at HO_9 HL292_2 HL292_3 BK258 BK259 HR292_2 HR292_3 HB HO302 HO310 hHeld ⊢
                  refine pu_ 1 172 HT_ ?_
                  refine pu_ 2 173 HT_ ?_
                  refine pu_ 3 174 HT_ ?_
                  refine pu_ 5 176 HT_ ?_
                  refine pu_ 6 177 HT_ ?_
                  refine pu_ 7 178 HT_ ?_
                  refine pu_ 8 179 HT_ ?_
                  refine one_ (i := 0) (N := some 171) #[true, true, true, true, false, true, true, true, true, false, false, false] rfl rfl (one_of HT_.out B7x13_) (by decide) (fun K hK => ?_)
                  refine Kd.N_lit_step k82 _ 82 ?hg (N' := 171) ?hd (xs := ([] : List (S82))) (inner := []) (ok := (fun k_ => (w.heap.size ≤ k_) ∧ some k_ ≠ (.slice (some ad277) x9_67.length co69 : Value).ownBlock ∧ k_ ≠ gb258 ∧ k_ ≠ gb259)) (okp := (fun k_ => (w.heap.size ≤ k_) ∧ some k_ ≠ (.slice (some ad277) x9_67.length co69 : Value).ownBlock ∧ k_ ≠ gb258 ∧ k_ ≠ gb259)) ?hr ?hp (fun _ hk => hk) ((show ∀ k_, w140.heap.size ≤ k_ → (fun k_ => (w.heap.size ≤ k_) ∧ some k_ ≠ (.slice (some ad277) x9_67.length co69 : Value).ownBlock ∧ k_ ≠ gb258 ∧ k_ ≠ gb259) k_ from fun k_ hk => ⟨(Nat.le_trans (below_size B7x0_) hk), Kd.fresh' (Kd.N_lt B7x12_) k_ hk, Kd.freshB (g := gb258) (o := .cells #[.int .i64 a1_0, .int .i64 a1_1, .int .i64 a1_2, .int .i64 a1_3, .bool a1_4, .string a1_5] 62 (0, 0)) B7x6_ k_ hk, Kd.freshB (g := gb259) (o := .cells #[.int .i64 0, .int .i64 0, .int .i64 0, .int .i64 0, .bool false, .string (⟨#[]⟩ : ByteArray)] 62 (0, 0)) B7x5_ k_ hk⟩) _ (Nat.le_refl _)) (Below.refl _ _) (Nat.le_refl _) (by simp) ?_; (case hd => rfl); (case hg => rfl); (case hr => exact B7x32_); (case hp => exact (Reps.none _ _))
                  intro v296 w143 ho144 hb hg_ hnew_
                  clear hg_ hnew_
                  (first | rw [← Ny295.out] at ho144 | (simp only [Int.reduceToNat] at ho144; rw [← Ny295.out] at ho144))
                  replace HO_9 := Aside0.mk (Kd.N_elder' B7x12_ (Kd.N_base ho144) hb)
                  replace HL292_2 := Aside0.mk (Kd.V_elder' B7x18_ (Kd.N_base ho144) hb)
                  replace HL292_3 := Aside0.mk (Kd.V_elder' B7x19_ (Kd.N_base ho144) hb)
                  replace HO302 := Aside0.mk (Kd.V_elder' B7x21_ (Kd.N_base ho144) hb)
                  replace HO310 := Aside0.mk (Kd.V_elder' B7x22_ (Kd.N_base ho144) hb)
                  have HO297 := Aside0.mk (Kd.N_lower ho144 (below_size B7x0_))
                  replace BK258 := Aside0.mk (bb BK258.out hb)
                  replace BK259 := Aside0.mk (bb BK259.out hb)
                  replace HR292_2 := Aside0.mk (Kd.C_below B7x10_ hb)
                  replace HR292_3 := Aside0.mk (Kd.C_below B7x11_ hb)
                  replace HB := Aside0.mk (below_step B7x0_ hb)
                  clear hb ho144
                  refine hK.out _ _ trivial (fun hHeld => ?_)
                  clear hK K
                  refine norm_ (a' := ?_) ?_ ?_
                  rotate_left
                  ·show Act.put _ (some 171) _ = _
                   simp only [Act.put, List.setIfInBounds_toArray, List.set_cons_zero, List.set_cons_succ, i64_w, i32_w]
                   rfl
                  refine one_ (i := 4) (N := some 175) #[true, true, true, true, true, true, true, true, true, false, false, false] rfl rfl (one_of HT_.out B7x13_) (by decide) (fun K hK => ?_)
                  refine Kd.N_append_rows_step k82 (w0 := w) w.heap.size (by rfl) (.tmp 171) (.tmp 174) 68 82 (.agg #[(.int .i64 0), (.int .i64 0), (.slice none 0 0), (.slice none 0 0), (.int .i64 0), (.int .i64 0)]) 80 rfl Try.underlying68 info82 rfl (by decide) (by omega) v296 y295 y298 _ _ _ (fun k_ => (w.heap.size ≤ k_) ∧ k_ ≠ gb258 ∧ k_ ≠ gb259) (fun k_ => ((fun k_ => (w.heap.size ≤ k_) ∧ k_ ≠ gb258 ∧ k_ ≠ gb259)) k_ ∧ some k_ ≠ (v296 : Value).ownBlock) rfl rfl ?aO ?aR (fun _ hk => hk) ?aF ?aB ?aS ?aL ?_
                  (case aR => skip; exact Kd.V_F (Kd.V_mono (ok' := (fun k_ => ((fun k_ => (w.heap.size ≤ k_) ∧ k_ ≠ gb258 ∧ k_ ≠ gb259)) k_ ∧ some k_ ≠ (v296 : Value).ownBlock)) (HO302.out) (fun k_ hk => ⟨⟨hk.1.1, ⟨hk.1.2.1, hk.1.2.2⟩⟩, hk.2⟩)))
                  (case aB => exact B7x0_)
                  (case aF => exact B7x20_)
                  (case aO => (with_reducible repeat (first | apply Kd.N_alloc | apply Kd.N_drewN | apply Kd.N_drew)); exact Kd.N_mono HO297.out (fun _ hk => ⟨hk.1, ⟨hk.2.2.1, hk.2.2.2⟩⟩))
                  (case aS => exact B7x33_)
                  (case aL => have := LMc133.out; omega)
                  intro v304 w145 ho hb hg hat
                  rw [← Ny303.out] at ho
                  replace HO_9 := Aside0.mk (Kd.N_afterv (ok := (fun k_ => (w.heap.size ≤ k_) ∧ k_ ≠ gb258 ∧ k_ ≠ gb259)) B7x12_ hg hat)
                  replace BK258 := Aside0.mk (blk_grown (g := gb258) (o := .cells #[.int .i64 a1_0, .int .i64 a1_1, .int .i64 a1_2, .int .i64 a1_3, .bool a1_4, .string a1_5] 62 (0, 0)) B7x6_ hg (Kd.N_ne HO297.out BK258.out (by decide)))
                  replace BK259 := Aside0.mk (blk_grown (g := gb259) (o := .cells #[.int .i64 0, .int .i64 0, .int .i64 0, .int .i64 0, .bool false, .string (⟨#[]⟩ : ByteArray)] 62 (0, 0)) B7x5_ hg (Kd.N_ne HO297.out BK259.out (by decide)))
                  replace HL292_2 := Aside0.mk (Kd.V_afterv (ok := (fun k_ => (w.heap.size ≤ k_) ∧ some k_ ≠ (.slice (some ad277) x9_67.length co69 : Value).ownBlock ∧ k_ ≠ gb258 ∧ k_ ≠ gb259)) (by (with_reducible repeat (first | apply Kd.V_alloc | apply Kd.V_drewN | apply Kd.V_drew)); exact Kd.V_mono HL292_2.out (fun _ hk => ⟨⟨hk.1.1.1, ⟨hk.1.2, ⟨hk.1.1.2.1, hk.1.1.2.2⟩⟩⟩, hk.2⟩)) hg hat)
                  replace HL292_3 := Aside0.mk (Kd.V_afterv (ok := (fun k_ => (w.heap.size ≤ k_) ∧ some k_ ≠ (.slice (some ad277) x9_67.length co69 : Value).ownBlock ∧ k_ ≠ gb258 ∧ k_ ≠ gb259)) (by (with_reducible repeat (first | apply Kd.V_alloc | apply Kd.V_drewN | apply Kd.V_drew)); exact Kd.V_mono HL292_3.out (fun _ hk => ⟨⟨hk.1.1.1, ⟨hk.1.2, ⟨hk.1.1.2.1, hk.1.1.2.2⟩⟩⟩, hk.2⟩)) hg hat)
                  replace HO302 := Aside0.mk (Kd.V_afterv (ok := (fun k_ => (w.heap.size ≤ k_) ∧ k_ ≠ gb258 ∧ k_ ≠ gb259)) B7x21_ hg hat)
                  replace HO310 := Aside0.mk (Kd.V_afterv (ok := (fun k_ => (w.heap.size ≤ k_) ∧ k_ ≠ gb258 ∧ k_ ≠ gb259)) B7x22_ hg hat)
                  replace HB := Aside0.mk (hb)
                  have HO305 := Aside0.mk (ho)
                  clear HO297
                  clear ho hb hg hat
                  refine hK.out _ _ trivial (fun hHeld => ?_)
                  clear hK K
                  refine norm_ (a' := ?_) ?_ ?_
                  rotate_left
                  ·show Act.put _ (some 175) _ = _
                   simp only [Act.put, List.setIfInBounds_toArray, List.set_cons_zero, List.set_cons_succ, i64_w, i32_w]
                   rfl
                  refine one_ (i := 9) (N := some 180) #[true, true, true, true, true, true, true, true, true, true, false, false] rfl rfl (one_of HT_.out B7x13_) (by decide) (fun K hK => ?_)
                  refine Kd.N_append_rows_step k82 (w0 := w) w.heap.size (by rfl) (.tmp 175) (.tmp 179) 68 82 (.agg #[(.int .i64 0), (.int .i64 0), (.slice none 0 0), (.slice none 0 0), (.int .i64 0), (.int .i64 0)]) 80 rfl Try.underlying68 info82 rfl (by decide) (by omega) v304 y303 y306 _ _ _ (fun k_ => (w.heap.size ≤ k_) ∧ k_ ≠ gb258 ∧ k_ ≠ gb259) (fun k_ => ((fun k_ => (w.heap.size ≤ k_) ∧ k_ ≠ gb258 ∧ k_ ≠ gb259)) k_ ∧ some k_ ≠ (v304 : Value).ownBlock) rfl rfl ?aO ?aR (fun _ hk => hk) ?aF ?aB ?aS ?aL ?_
                  (case aR => skip; exact Kd.V_F (Kd.V_mono (ok' := (fun k_ => ((fun k_ => (w.heap.size ≤ k_) ∧ k_ ≠ gb258 ∧ k_ ≠ gb259)) k_ ∧ some k_ ≠ (v304 : Value).ownBlock)) (HO310.out) (fun k_ hk => ⟨⟨hk.1.1, ⟨hk.1.2.1, hk.1.2.2⟩⟩, hk.2⟩)))
                  (case aB => exact B7x0_)
                  (case aF => exact B7x20_)
                  (case aO => (with_reducible repeat (first | apply Kd.N_alloc | apply Kd.N_drewN | apply Kd.N_drew)); exact HO305.out)
                  (case aS => exact B7x33_)
                  (case aL => have := LMc137.out; omega)
                  intro v312 w146 ho hb hg hat
                  rw [← Ny311.out] at ho
                  replace HO_9 := Aside0.mk (Kd.N_afterv (ok := (fun k_ => (w.heap.size ≤ k_) ∧ k_ ≠ gb258 ∧ k_ ≠ gb259)) B7x12_ hg hat)
                  replace BK258 := Aside0.mk (blk_grown (g := gb258) (o := .cells #[.int .i64 a1_0, .int .i64 a1_1, .int .i64 a1_2, .int .i64 a1_3, .bool a1_4, .string a1_5] 62 (0, 0)) B7x6_ hg (Kd.N_ne HO305.out BK258.out (by decide)))
                  replace BK259 := Aside0.mk (blk_grown (g := gb259) (o := .cells #[.int .i64 0, .int .i64 0, .int .i64 0, .int .i64 0, .bool false, .string (⟨#[]⟩ : ByteArray)] 62 (0, 0)) B7x5_ hg (Kd.N_ne HO305.out BK259.out (by decide)))
                  replace HL292_2 := Aside0.mk (Kd.V_afterv (ok := (fun k_ => (w.heap.size ≤ k_) ∧ some k_ ≠ (.slice (some ad277) x9_67.length co69 : Value).ownBlock ∧ k_ ≠ gb258 ∧ k_ ≠ gb259)) B7x18_ hg hat)
                  replace HL292_3 := Aside0.mk (Kd.V_afterv (ok := (fun k_ => (w.heap.size ≤ k_) ∧ some k_ ≠ (.slice (some ad277) x9_67.length co69 : Value).ownBlock ∧ k_ ≠ gb258 ∧ k_ ≠ gb259)) B7x19_ hg hat)
                  replace HO302 := Aside0.mk (Kd.V_afterv (ok := (fun k_ => (w.heap.size ≤ k_) ∧ k_ ≠ gb258 ∧ k_ ≠ gb259)) B7x21_ hg hat)
                  replace HO310 := Aside0.mk (Kd.V_afterv (ok := (fun k_ => (w.heap.size ≤ k_) ∧ k_ ≠ gb258 ∧ k_ ≠ gb259)) B7x22_ hg hat)
                  replace HB := Aside0.mk (hb)
                  have HO313 := Aside0.mk (ho)
                  clear HO305
                  clear ho hb hg hat
                  obtain ⟨Ao147, co147, eo147⟩ := Kd.N_slice HO313.out
                  (first | subst eo147 | (injection eo147 with f1_ f2_ f3_; have f4_ := f1_.symm; have f5_ := f3_.symm; clear f1_ f2_ f3_; subst f4_; subst f5_))
                  refine hK.out _ _ trivial (fun hHeld => ?_)
                  clear hK K
                  refine norm_ (a' := ?_) ?_ ?_
                  rotate_left
                  ·show Act.put _ (some 180) _ = _
                   simp only [Act.put, List.setIfInBounds_toArray, List.set_cons_zero, List.set_cons_succ, i64_w, i32_w]
                   rfl
                  refine one_ (i := 10) (N := some 181) #[true, true, true, true, true, true, true, true, true, true, true, false] rfl rfl (one_of HT_.out B7x13_) (by decide) (fun K hK => ?_)
                  refine goes_ Try.func104 B7x13_ rfl #[.slice Ao147 y311.length co147] (by rfl) rfl rfl B7x8_ ?_
                  with_reducible refine (spec_l11CopyBits.calls kj67 _ _ y311 t314 _ ?side1 ?side2 A138.out).mono ?_
                  (case side1 => repeat (first | exact (Kd.N_reads' HO313.out).2.2 | (with_reducible refine Kd.C_alloc ?_ _) | (with_reducible refine Kd.C_drewN ?_ _) | (with_reducible refine Kd.C_drew ?_)))
                  (case side2 => exact (Kd.N_reads' HO313.out).2.1)
                  rintro e w148 ⟨v315, rfl, ho0, hb⟩
                  refine ⟨_, rfl, ?_⟩
                  replace HL292_2 := Aside0.mk (Kd.V_elder' B7x18_ (Kd.S_base ho0) hb)
                  replace HL292_3 := Aside0.mk (Kd.V_elder' B7x19_ (Kd.S_base ho0) hb)
                  replace HO302 := Aside0.mk (Kd.V_elder' B7x21_ (Kd.S_base ho0) hb)
                  replace HO310 := Aside0.mk (Kd.V_elder' B7x22_ (Kd.S_base ho0) hb)
                  have HO316 := Aside0.mk (Kd.N_lower (Kd.N_mono (ok' := fun k_ => (w.heap.size ≤ k_) ∧ some k_ ≠ (.slice (some ad277) x9_67.length co69 : Value).ownBlock ∧ some k_ ≠ (.slice Ao147 y311.length co147 : Value).ownBlock ∧ k_ ≠ gb258 ∧ k_ ≠ gb259) (Kd.S_N (Kd.S_bound ho0)) (fun k_ hk_ => ⟨(Nat.le_trans (below_size B7x0_) hk_.2.1), (Kd.fresh' (Kd.N_lt B7x12_) k_ hk_.2.1), (Kd.fresh' (Kd.N_lt B7x45_) k_ hk_.2.1), (Kd.freshB (g := gb258) (o := .cells #[.int .i64 a1_0, .int .i64 a1_1, .int .i64 a1_2, .int .i64 a1_3, .bool a1_4, .string a1_5] 62 (0, 0)) B7x6_ k_ hk_.2.1), (Kd.freshB (g := gb259) (o := .cells #[.int .i64 0, .int .i64 0, .int .i64 0, .int .i64 0, .bool false, .string (⟨#[]⟩ : ByteArray)] 62 (0, 0)) B7x5_ k_ hk_.2.1)⟩)) (below_size B7x0_))
                  replace HO_9 := Aside0.mk (Kd.N_elder' B7x12_ (Kd.S_base ho0) hb)
                  replace HO313 := Aside0.mk (Kd.N_elder' B7x45_ (Kd.S_base ho0) hb)
                  replace BK258 := Aside0.mk (bb BK258.out hb)
                  replace BK259 := Aside0.mk (bb BK259.out hb)
                  replace HB := Aside0.mk (below_step B7x0_ hb)
                  (try clear hb)
                  (try clear hb2)
                  (try clear hk)
                  (try clear hi)
                  (try clear hl)
                  (try clear ho0)
                  refine hK.out _ _ trivial (fun hHeld => ?_)
                  clear hK K
                  refine norm_ (a' := ?_) ?_ ?_
                  rotate_left
                  ·show Act.put _ (some 181) _ = _
                   simp only [Act.put, List.setIfInBounds_toArray, List.set_cons_zero, List.set_cons_succ, i64_w, i32_w]
                   rfl
                  refine pu_ 11 16 HT_ ?_
                  refine done_ (done_of HT_.out B7x13_) ?_
                  try go_wp2
                  replace HO_9 := Aside0.mk (Kd.N_drew HO_9.out)
                  replace HL292_2 := Aside0.mk (Kd.V_drew HL292_2.out)
                  replace HL292_3 := Aside0.mk (Kd.V_drew HL292_3.out)
                  replace HO302 := Aside0.mk (Kd.V_drew HO302.out)
                  replace HO310 := Aside0.mk (Kd.V_drew HO310.out)
                  replace HO313 := Aside0.mk (Kd.N_drew HO313.out)
                  replace HO316 := Aside0.mk (Kd.N_drew HO316.out)
                  replace BK258 := Aside0.mk (blk_drew BK258.out)
                  replace BK259 := Aside0.mk (blk_drew BK259.out)
                  replace HB := Aside0.mk (below_drew1 HB.out)
                  refine start_ (n := 12) (S := fun w' => w'.cell? ⟨gb258, 0, none⟩ = some (.int .i64 a1_0) ∧ w'.cell? ⟨gb258, 1, none⟩ = some (.int .i64 a1_1) ∧ w'.cell? ⟨gb258, 2, none⟩ = some (.int .i64 a1_2) ∧ w'.cell? ⟨gb258, 3, none⟩ = some (.int .i64 a1_3) ∧ w'.cell? ⟨gb258, 4, none⟩ = some (.bool a1_4) ∧ w'.cell? ⟨gb258, 5, none⟩ = some (.string a1_5)) (ds := []) #[false, false, false, false, false, false, false, false, false, false, false, false] B7x13_ rfl rfl ⟨(blk_cell BK258.out 0).trans rfl, (blk_cell BK258.out 1).trans rfl, (blk_cell BK258.out 2).trans rfl, (blk_cell BK258.out 3).trans rfl, (blk_cell BK258.out 4).trans rfl, (blk_cell BK258.out 5).trans rfl⟩ (fun hHeld => ?_); refine with_tabW spec_JoinBits.tab31 spec_JoinBits.bits31 (fun HT_ HW_ => ?_)
                  generalize w148.drew = w149 at HO_9 HL292_2 HL292_3 HO302 HO310 HO313 HO316 BK258 BK259 HB hHeld ⊢
                  refine pu_ 0 182 HT_ ?_
                  refine pu_ 1 183 HT_ ?_
                  refine pu_ 3 185 HT_ ?_
                  refine pu_ 5 187 HT_ ?_
                  refine pu_ 7 189 HT_ ?_
                  refine pu_ 9 6 HT_ ?_
                  refine ta_ 2 184 HT_ HW_ hHeld ?_
                  refine ta_ 4 186 HT_ HW_ hHeld ?_
                  refine ta_ 6 188 HT_ HW_ hHeld ?_
                  refine pu_ 8 190 HT_ ?_
                  refine one_ (i := 10) (N := none) #[true, true, true, true, true, true, true, true, true, true, true, false] rfl rfl (one_of HT_.out B7x13_) (by decide) (fun K hK => ?_)
                  have hs150 : w149.cell? ⟨gb259, 0, none⟩ = some (.int .i64 0) := (blk_cell BK259.out 0).trans rfl
                  have hfs150 := blk_frozen BK259.out 0
                  have hns150_0 := NB258_259.out
                  have hms150_0 := NB259_258.out
                  have hs151 : w149.cell? ⟨gb259, 1, none⟩ = some (.int .i64 0) := (blk_cell BK259.out 1).trans rfl
                  have hfs151 := blk_frozen BK259.out 1
                  have hns151_0 := NB258_259.out
                  have hms151_0 := NB259_258.out
                  have hs152 : w149.cell? ⟨gb259, 2, none⟩ = some (.int .i64 0) := (blk_cell BK259.out 2).trans rfl
                  have hfs152 := blk_frozen BK259.out 2
                  have hns152_0 := NB258_259.out
                  have hms152_0 := NB259_258.out
                  have hs153 : w149.cell? ⟨gb259, 3, none⟩ = some (.int .i64 0) := (blk_cell BK259.out 3).trans rfl
                  have hfs153 := blk_frozen BK259.out 3
                  have hns153_0 := NB258_259.out
                  have hms153_0 := NB259_258.out
                  have hs154 : w149.cell? ⟨gb259, 4, none⟩ = some (.bool false) := (blk_cell BK259.out 4).trans rfl
                  have hfs154 := blk_frozen BK259.out 4
                  have hns154_0 := NB258_259.out
                  have hms154_0 := NB259_258.out
                  have hs155 : w149.cell? ⟨gb259, 5, none⟩ = some (.string (⟨#[]⟩ : ByteArray)) := (blk_cell BK259.out 5).trans rfl
                  have hfs155 := blk_frozen BK259.out 5
                  have hns155_0 := NB258_259.out
                  have hms155_0 := NB259_258.out
                  refine skip_ (w1 := ?_) (by rfl) rfl ?_ ?_
                  rotate_left
                  ·go_simp
                   rfl
                  refine hK.out _ _ ⟨((cell_far (p := ⟨gb259, _, none⟩) NB258_259.out _).trans (((cell_far (p := ⟨gb259, _, none⟩) NB258_259.out _).trans (((cell_far (p := ⟨gb259, _, none⟩) NB258_259.out _).trans (((cell_far (p := ⟨gb259, _, none⟩) NB258_259.out _).trans (((cell_far (p := ⟨gb259, _, none⟩) NB258_259.out _).trans (((cell_far (p := ⟨gb259, _, none⟩) NB258_259.out _).trans (hHeld.1)))))))))))), ((cell_far (p := ⟨gb259, _, none⟩) NB258_259.out _).trans (((cell_far (p := ⟨gb259, _, none⟩) NB258_259.out _).trans (((cell_far (p := ⟨gb259, _, none⟩) NB258_259.out _).trans (((cell_far (p := ⟨gb259, _, none⟩) NB258_259.out _).trans (((cell_far (p := ⟨gb259, _, none⟩) NB258_259.out _).trans (((cell_far (p := ⟨gb259, _, none⟩) NB258_259.out _).trans (hHeld.2.1)))))))))))), ((cell_far (p := ⟨gb259, _, none⟩) NB258_259.out _).trans (((cell_far (p := ⟨gb259, _, none⟩) NB258_259.out _).trans (((cell_far (p := ⟨gb259, _, none⟩) NB258_259.out _).trans (((cell_far (p := ⟨gb259, _, none⟩) NB258_259.out _).trans (((cell_far (p := ⟨gb259, _, none⟩) NB258_259.out _).trans (((cell_far (p := ⟨gb259, _, none⟩) NB258_259.out _).trans (hHeld.2.2.1)))))))))))), ((cell_far (p := ⟨gb259, _, none⟩) NB258_259.out _).trans (((cell_far (p := ⟨gb259, _, none⟩) NB258_259.out _).trans (((cell_far (p := ⟨gb259, _, none⟩) NB258_259.out _).trans (((cell_far (p := ⟨gb259, _, none⟩) NB258_259.out _).trans (((cell_far (p := ⟨gb259, _, none⟩) NB258_259.out _).trans (((cell_far (p := ⟨gb259, _, none⟩) NB258_259.out _).trans (hHeld.2.2.2.1)))))))))))), ((cell_far (p := ⟨gb259, _, none⟩) NB258_259.out _).trans (((cell_far (p := ⟨gb259, _, none⟩) NB258_259.out _).trans (((cell_far (p := ⟨gb259, _, none⟩) NB258_259.out _).trans (((cell_far (p := ⟨gb259, _, none⟩) NB258_259.out _).trans (((cell_far (p := ⟨gb259, _, none⟩) NB258_259.out _).trans (((cell_far (p := ⟨gb259, _, none⟩) NB258_259.out _).trans (hHeld.2.2.2.2.1)))))))))))), ((cell_far (p := ⟨gb259, _, none⟩) NB258_259.out _).trans (((cell_far (p := ⟨gb259, _, none⟩) NB258_259.out _).trans (((cell_far (p := ⟨gb259, _, none⟩) NB258_259.out _).trans (((cell_far (p := ⟨gb259, _, none⟩) NB258_259.out _).trans (((cell_far (p := ⟨gb259, _, none⟩) NB258_259.out _).trans (((cell_far (p := ⟨gb259, _, none⟩) NB258_259.out _).trans (hHeld.2.2.2.2.2))))))))))))⟩ (fun hHeld => ?_)
                  clear hK K
                  refine pu_ 11 8 HT_ ?_
                  refine done_ (done_of HT_.out B7x13_) ?_
                  try go_wp2
                  refine bodyPost_ret (results_list (rs := [.tmp 6, .cell 7 62, .tmp 8]) rfl (by simp) (.tmp (.cell gb259 62 #[.int .i64 a1_0, .int .i64 a1_1, .int .i64 a1_2, .int .i64 0, .bool false, .string t293] (0, 0) _ rfl B7x9_ Try.underlying62 rfl B7x13_ (.tmp .nil)))) rfl ?_
                  exact ⟨_, by first | rfl | (simp [errW_none, errW_some] <;> rfl) | (simp only [← hji134]; first | rfl | (simp [errW_none, errW_some] <;> rfl)) | (simp [*, errW_none, errW_some] <;> rfl), by (with_reducible repeat (first | apply Kd.N_alloc | apply Kd.N_drewN | apply Kd.N_drew)); exact Kd.N_mono (Kd.N_far (p := ⟨gb259, 5, none⟩) (Kd.N_far (p := ⟨gb259, 4, none⟩) (Kd.N_far (p := ⟨gb259, 3, none⟩) (Kd.N_far (p := ⟨gb259, 2, none⟩) (Kd.N_far (p := ⟨gb259, 1, none⟩) (Kd.N_far (p := ⟨gb259, 0, none⟩) (Kd.N_mono HO316.out (fun k_ hk => (⟨hk, hk.2.2.2.2⟩ : _ ∧ k_ ≠ gb259))) (fun _ hk => hk.2) (.int .i64 a1_0)) (fun _ hk => hk.2) (.int .i64 a1_1)) (fun _ hk => hk.2) (.int .i64 a1_2)) (fun _ hk => hk.2) (.int .i64 0)) (fun _ hk => hk.2) (.bool false)) (fun _ hk => hk.2) (.string t293)) (fun _ hk => hk.1.1), by repeat (first | (with_reducible first | exact HB.out | apply below_alloc | apply pw_below_drewN | apply below_drew1 | refine below_set ?_ GE258.out | refine below_set ?_ GE259.out) | exact HB.out)⟩
                 ·replace c130 := Bool.eq_false_iff.mpr c130
                  subst c130
                  rw [if_neg (show ¬ (false = true) by decide)] at H
                  simp only [Option.some.injEq, Prod.mk.injEq] at H
                  obtain ⟨rfl, rfl, rfl, rfl, rfl, rfl, rfl, rfl⟩ := H
                  have p292 : 0 ≤ (x10_45 : Int) := of_decide_eq_true B7x3_
                  have q292 : x10_45 < (x9_67.length : Int) := of_decide_eq_true B7x3_
                  obtain ⟨ad292, A292_2, c292_2, A292_3, c292_3, e292, hx292_0, hx292_1, hx292_2, hx292_3, hx292_4, hx292_5, hl292_2, hi292_2, hl292_3, hi292_3⟩ := at_T82 (Kd.N_reads' HO_9.out).2.2 x10_45 p292 q292
                  obtain rfl : ad277 = ad292 := (by injection e292)
                  obtain ⟨ce292, hce292, hMe292, hcc292⟩ := Kd.N_get HO_9.out z82 x10_45 p292 B7x50_
                  obtain ⟨ua292_2, uc292_2, ua292_3, uc292_3, rfl, ul292_2, ge292_2, ul292_3, ge292_3⟩ := k82_openF hMe292
                  have hv292_2 := hcc292 2 _ rfl
                  rw [add_field _ _ 2 (by omega)] at hv292_2
                  replace hv292_2 := Option.some.inj (hv292_2.symm.trans hx292_2)
                  injection hv292_2 with hva_ hvn_ hvc_
                  rw [hva_] at ge292_2
                  rw [hvc_] at ul292_2
                  have HL292_2 := Aside0.mk (show Kd.V Kd.string 9 _ w.heap.size _ _ ((rd_T82 x9_67 x10_45).f2) from Kd.V_mk ul292_2 ge292_2)
                  clear hva_ hvn_ hvc_ ge292_2 ul292_2
                  have hv292_3 := hcc292 3 _ rfl
                  rw [add_field _ _ 3 (by omega)] at hv292_3
                  replace hv292_3 := Option.some.inj (hv292_3.symm.trans hx292_3)
                  injection hv292_3 with hva_ hvn_ hvc_
                  rw [hva_] at ge292_3
                  rw [hvc_] at ul292_3
                  have HL292_3 := Aside0.mk (show Kd.V (Kd.int .i64) 3 _ w.heap.size _ _ ((rd_T82 x9_67 x10_45).f3) from Kd.V_mk ul292_3 ge292_3)
                  clear hva_ hvn_ hvc_ ge292_3 ul292_3
                  clear hcc292 hce292
                  have HR292_2 := Aside0.mk hi292_2
                  have HC292_2 := Aside0.mk hl292_2
                  clear hi292_2 hl292_2
                  have HR292_3 := Aside0.mk hi292_3
                  have HC292_3 := Aside0.mk hl292_3
                  clear hi292_3 hl292_3
                  replace p292 := eq_true p292
                  replace q292 := eq_true q292
                  go_wp2_with (first | ((with_reducible refine gate_callee (f := 113) rfl ?_); refine goesL_ (some 164) rfl rfl Try.func113 B7x13_ rfl #[.agg #[.int .i64 ((rd_T82 x9_67 x10_45).f0), .int .i64 ((rd_T82 x9_67 x10_45).f1), .slice A292_2 ((rd_T82 x9_67 x10_45).f2).length c292_2, .slice A292_3 ((rd_T82 x9_67 x10_45).f3).length c292_3, .int .i64 ((rd_T82 x9_67 x10_45).f4), .int .i64 ((rd_T82 x9_67 x10_45).f5)]] rfl B7x8_ ?_; (with_reducible refine (spec_l11Whole.calls kj67 ((rd_T82 x9_67 x10_45).f0) ((rd_T82 x9_67 x10_45).f1) _ _ ((rd_T82 x9_67 x10_45).f2) _ _ ((rd_T82 x9_67 x10_45).f3) ((rd_T82 x9_67 x10_45).f4) ((rd_T82 x9_67 x10_45).f5) t293 false _ ?side1 ?side2 ?side3 ?side4 A129.out).mono ?_); (case side1 => exact B7x40_); (case side2 => exact HC292_2.out); (case side3 => exact B7x41_); (case side4 => exact HC292_3.out); rintro e w156 ⟨rfl, hb⟩; refine ⟨_, rfl, ?_⟩; replace HO_9 := Aside0.mk (Kd.N_below B7x12_ hb); replace HL292_2 := Aside0.mk (Kd.V_below B7x18_ hb); replace HL292_3 := Aside0.mk (Kd.V_below B7x19_ hb); replace BK258 := Aside0.mk (bb BK258.out hb); replace BK259 := Aside0.mk (bb BK259.out hb); replace HR292_2 := Aside0.mk (Kd.C_below B7x10_ hb); (try (replace HX292_2 := Aside0.mk (pw_cell_below hb HX292_2.out))); replace HR292_3 := Aside0.mk (Kd.C_below B7x11_ hb); (try (replace HX292_3 := Aside0.mk (pw_cell_below hb HX292_3.out))); replace HB := Aside0.mk (below_step B7x0_ hb); (try clear hb); (try clear hl); have hnb157 := NB259_258.out; have hnc157 := NB258_259.out; obtain ⟨hcz158_0, hcz158_1, hcz158_2, hcz158_3, hcz158_4, hcz158_5⟩ := cl6 BK259.out; obtain ⟨hfz158_0, hfz158_1, hfz158_2, hfz158_3, hfz158_4, hfz158_5⟩ := fr6 BK259.out) | ((with_reducible refine gate_store (t := 62) (p := 7) rfl ?_); refine store_event (t := 62) (p := 7) (v := ?vo_w159) (w1 := ((((((w156.setCell ⟨gb259, 0, none⟩ (.int .i64 0)).setCell ⟨gb259, 1, none⟩ (.int .i64 0)).setCell ⟨gb259, 2, none⟩ (.int .i64 0)).setCell ⟨gb259, 3, none⟩ (.int .i64 0)).setCell ⟨gb259, 4, none⟩ (.bool false)).setCell ⟨gb259, 5, none⟩ (.string (⟨#[]⟩ : ByteArray)))) ?hg ?ho ?hn ?hr ?_; (case ho => rfl); (case hg => rfl); (case hn => rfl); (case hr => exact B7x32_); intro w159 hw; replace HO_9 : Aside0 (Kd.N k82 82 w159 w.heap.size (fun k_ => (w.heap.size ≤ k_) ∧ k_ ≠ gb258 ∧ k_ ≠ gb259) (.slice (some ad277) x9_67.length co69) x9_67) := ⟨(by rw [hw]; exact (by (with_reducible repeat (first | apply Kd.N_alloc | apply Kd.N_drewN | apply Kd.N_drew)); exact Kd.N_mono (Kd.N_far (p := ⟨gb259, 5, none⟩) (Kd.N_far (p := ⟨gb259, 4, none⟩) (Kd.N_far (p := ⟨gb259, 3, none⟩) (Kd.N_far (p := ⟨gb259, 2, none⟩) (Kd.N_far (p := ⟨gb259, 1, none⟩) (Kd.N_far (p := ⟨gb259, 0, none⟩) (Kd.N_mono HO_9.out (fun k_ hk => (⟨hk, hk.2.2⟩ : _ ∧ k_ ≠ gb259))) (fun _ hk => hk.2) (.int .i64 0)) (fun _ hk => hk.2) (.int .i64 0)) (fun _ hk => hk.2) (.int .i64 0)) (fun _ hk => hk.2) (.int .i64 0)) (fun _ hk => hk.2) (.bool false)) (fun _ hk => hk.2) (.string (⟨#[]⟩ : ByteArray))) (fun _ hk => ⟨hk.1.1, ⟨hk.1.2.1, hk.1.2.2⟩⟩)))⟩; replace HL292_2 : Aside0 (Kd.V Kd.string 9 w159 w.heap.size (fun k_ => (w.heap.size ≤ k_) ∧ some k_ ≠ (.slice (some ad277) x9_67.length co69 : Value).ownBlock ∧ k_ ≠ gb258 ∧ k_ ≠ gb259) (.slice A292_2 ((rd_T82 x9_67 x10_45).f2).length c292_2) ((rd_T82 x9_67 x10_45).f2)) := ⟨(by rw [hw]; exact (by (with_reducible repeat (first | apply Kd.V_alloc | apply Kd.V_drewN | apply Kd.V_drew)); exact Kd.V_mono (Kd.V_far (p := ⟨gb259, 5, none⟩) (Kd.V_far (p := ⟨gb259, 4, none⟩) (Kd.V_far (p := ⟨gb259, 3, none⟩) (Kd.V_far (p := ⟨gb259, 2, none⟩) (Kd.V_far (p := ⟨gb259, 1, none⟩) (Kd.V_far (p := ⟨gb259, 0, none⟩) (Kd.V_mono HL292_2.out (fun k_ hk => (⟨hk, hk.1.2.2⟩ : _ ∧ k_ ≠ gb259))) (fun _ hk => hk.2) (.int .i64 0)) (fun _ hk => hk.2) (.int .i64 0)) (fun _ hk => hk.2) (.int .i64 0)) (fun _ hk => hk.2) (.int .i64 0)) (fun _ hk => hk.2) (.bool false)) (fun _ hk => hk.2) (.string (⟨#[]⟩ : ByteArray))) (fun _ hk => ⟨hk.1.1.1, ⟨hk.1.2, ⟨hk.1.1.2.1, hk.1.1.2.2⟩⟩⟩)))⟩; replace HL292_3 : Aside0 (Kd.V (Kd.int .i64) 3 w159 w.heap.size (fun k_ => (w.heap.size ≤ k_) ∧ some k_ ≠ (.slice (some ad277) x9_67.length co69 : Value).ownBlock ∧ k_ ≠ gb258 ∧ k_ ≠ gb259) (.slice A292_3 ((rd_T82 x9_67 x10_45).f3).length c292_3) ((rd_T82 x9_67 x10_45).f3)) := ⟨(by rw [hw]; exact (by (with_reducible repeat (first | apply Kd.V_alloc | apply Kd.V_drewN | apply Kd.V_drew)); exact Kd.V_mono (Kd.V_far (p := ⟨gb259, 5, none⟩) (Kd.V_far (p := ⟨gb259, 4, none⟩) (Kd.V_far (p := ⟨gb259, 3, none⟩) (Kd.V_far (p := ⟨gb259, 2, none⟩) (Kd.V_far (p := ⟨gb259, 1, none⟩) (Kd.V_far (p := ⟨gb259, 0, none⟩) (Kd.V_mono HL292_3.out (fun k_ hk => (⟨hk, hk.1.2.2⟩ : _ ∧ k_ ≠ gb259))) (fun _ hk => hk.2) (.int .i64 0)) (fun _ hk => hk.2) (.int .i64 0)) (fun _ hk => hk.2) (.int .i64 0)) (fun _ hk => hk.2) (.int .i64 0)) (fun _ hk => hk.2) (.bool false)) (fun _ hk => hk.2) (.string (⟨#[]⟩ : ByteArray))) (fun _ hk => ⟨hk.1.1.1, ⟨hk.1.2, ⟨hk.1.1.2.1, hk.1.1.2.2⟩⟩⟩)))⟩; replace BK258 : Aside0 (w159.heap[gb258]? = some (.cells #[.int .i64 a1_0, .int .i64 a1_1, .int .i64 a1_2, .int .i64 a1_3, .bool a1_4, .string a1_5] 62 (0, 0))) := ⟨B7x23_⟩; replace BK259 : Aside0 (w159.heap[gb259]? = some (.cells #[.int .i64 0, .int .i64 0, .int .i64 0, .int .i64 0, .bool false, .string (⟨#[]⟩ : ByteArray)] 62 (0, 0))) := ⟨(by rw [hw]; exact B7x9_)⟩; replace HB : Aside0 (Below w.heap.size w w159) := ⟨(by rw [hw]; exact B7x0_)⟩; clear hw))
                  refine bodyPost_ret (results_list (rs := [.tmp 6, .cell 7 62, .tmp 8]) rfl (by simp) (.tmp (.cell gb259 62 #[.int .i64 0, .int .i64 0, .int .i64 0, .int .i64 0, .bool false, .string (⟨#[]⟩ : ByteArray)] (0, 0) _ rfl B7x5_ Try.underlying62 rfl B7x13_ (.tmp .nil)))) rfl ?_
                  exact ⟨_, by first | rfl | (simp [errW_none, errW_some] <;> rfl) | (simp [*, errW_none, errW_some] <;> rfl), by (with_reducible repeat (first | apply Kd.N_alloc | apply Kd.N_drewN | apply Kd.N_drew)); exact Kd.N_mono HO_9.out (fun _ hk => hk.1), by repeat (first | (with_reducible first | exact HB.out | apply below_alloc | apply pw_below_drewN | apply below_drew1 | refine below_set ?_ GE258.out | refine below_set ?_ GE259.out) | exact HB.out)⟩

end Go.Proofs.Ytmknnoeggkgkgaa.QFnBits
