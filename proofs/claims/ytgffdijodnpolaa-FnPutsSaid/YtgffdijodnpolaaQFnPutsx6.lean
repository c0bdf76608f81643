/- Functions that a law reaches, as functions of Lean, and the walks that show that the calls come to their answers: written by a program of this project out of the translation. No condition. -/
import Derived.Test.YtgffdijodnpolaaQFnPutsx0
import Derived.Test.YtgffdijodnpolaaQFnPutsx2
import Derived.Test.YtgffdijodnpolaaQFnPutsx5
import Derived.Test.YtgffdijodnpolaaVFnPutsShort4
import Derived.Test.YtgffdijodnpolaaVFnPutshort3
import Derived.Test.YtgffdijodnpolaaVFnPutsShort2
import Derived.Test.YtgffdijodnpolaaVFnPutsShort
namespace Go.Proofs.Ytgffdijodnpolaa.QFnPuts
open Go.RowKit Go.Proofs.YtgffdijodnpolaaW.PrintWords Go.Proofs.YtgffdijodnpolaaW.PrintLast Go.Proofs.YtgffdijodnpolaaW.PrintMore Go.Proofs.Ytgffdijodnpolaa.Short
attribute [local go_sem] max2_int min2_int max_two min_two max_three min_three max_four min_four   -- for this text's walks alone
set_option linter.unusedVariables false
set_option linter.unusedSimpArgs false

theorem B6x0_ {p : Prop} (h : p := by repeat (first | (with_reducible first | exact HI0.out | apply IsS107.alloc | apply IsS107.drewN | apply IsS107.drew | apply IsS107.set_1 | apply IsS107.set_2 | refine IsS107.far ?_ NB0_187.out _ | refine IsS107.far ?_ NB0_188.out _ | refine IsS107.far ?_ NB0_201.out _ | refine IsS107.far ?_ NB0_206.out _) | exact HI0.out)) : p := h
theorem B6x1_ {p : Prop} (h : p := by repeat (first | (with_reducible first | exact HB.out | apply below_alloc | apply pw_below_drewN | apply below_drew1 | refine below_set ?_ (IsS107.ge HI0.out) | refine below_set ?_ GE187.out | refine below_set ?_ GE188.out | refine below_set ?_ GE201.out | refine below_set ?_ GE206.out) | exact HB.out)) : p := h
theorem B6x2_ {p : Prop} (h : p := by repeat (first | (with_reducible first | exact HK.out | apply KeepBut.set_ | apply keep_drewN | apply keep_drew | apply keep_alloc | refine keep_far ?_ GW187.out _ | refine keep_far ?_ GW188.out _ | refine keep_far ?_ GW201.out _ | refine keep_far ?_ GW206.out _) | exact HK.out)) : p := h
theorem B6x3_ {p : Prop} (h : p := by repeat (first | (with_reducible first | exact HI0.out | apply IsS107.alloc | apply IsS107.drewN | apply IsS107.drew | apply IsS107.set_1 | apply IsS107.set_2 | refine IsS107.far ?_ NB0_187.out _ | refine IsS107.far ?_ NB0_188.out _) | exact HI0.out)) : p := h
theorem B6x4_ {p : Prop} (h : p := by (repeat (with_reducible (first | exact BK188.out | apply blk_drewN | apply blk_drew | apply blk_alloc | apply blk_put | apply bf NB188_201.out))); repeat (first | exact BK188.out | (simp only [List.setIfInBounds_toArray, List.set_cons_zero, List.set_cons_succ]; with_reducible rfl) | rfl)) : p := h
theorem B6x5_ {p : Prop} (h : p := by repeat (first | (with_reducible first | exact HK.out | apply KeepBut.set_ | apply keep_drewN | apply keep_drew | apply keep_alloc | refine keep_far ?_ GW187.out _ | refine keep_far ?_ GW188.out _) | exact HK.out)) : p := h
theorem B6x6_ {p : Prop} (h : p := by repeat (first | (with_reducible first | exact HB.out | apply below_alloc | apply pw_below_drewN | apply below_drew1 | refine below_set ?_ (IsS107.ge HI0.out) | refine below_set ?_ GE187.out | refine below_set ?_ GE188.out) | exact HB.out)) : p := h
theorem B6x7_ {p : Prop} (h : p := by (repeat (with_reducible (first | exact BK187.out | apply blk_drewN | apply blk_drew | apply blk_alloc | apply blk_put | apply bf NB187_201.out))); repeat (first | exact BK187.out | (simp only [List.setIfInBounds_toArray, List.set_cons_zero, List.set_cons_succ]; with_reducible rfl) | rfl)) : p := h
theorem B6x8_ {p : Prop} (h : p := by (try simp only [List.map_toArray, List.map_cons, List.map_nil]); first | done | rfl | (simp only [List.length_drop, List.length_take]; rfl)) : p := h
theorem B6x9_ {p : Prop} (h : p := by (repeat (with_reducible (first | exact BK201.out | apply blk_drewN | apply blk_drew | apply blk_alloc | apply blk_put))); repeat (first | exact BK201.out | (simp only [List.setIfInBounds_toArray, List.set_cons_zero, List.set_cons_succ]; with_reducible rfl) | rfl)) : p := h
theorem B6x10_ {p : Prop} (h : p := by repeat (first | (with_reducible first | exact HK.out | apply KeepBut.set_ | apply keep_drewN | apply keep_drew | apply keep_alloc | refine keep_far ?_ GW187.out _ | refine keep_far ?_ GW188.out _ | refine keep_far ?_ GW201.out _) | exact HK.out)) : p := h
theorem B6x11_ {p : Prop} (h : p := by (repeat (with_reducible (first | exact BK206.out | apply blk_drewN | apply blk_drew | apply blk_alloc | apply blk_put | apply bf NB206_201.out))); repeat (first | exact BK206.out | (simp only [List.setIfInBounds_toArray, List.set_cons_zero, List.set_cons_succ]; with_reducible rfl) | rfl)) : p := h
theorem B6x12_ {p : Prop} (h : p := by (with_reducible repeat (first | apply Kd.R_alloc | apply Kd.R_drewN | apply Kd.R_drew)); exact HO191.out) : p := h
theorem B6x13_ {p : Prop} (h : p := by (repeat (with_reducible (first | exact BK187.out | apply blk_drewN | apply blk_drew | apply blk_alloc | apply blk_put | apply bf NB187_206.out))); repeat (first | exact BK187.out | (simp only [List.setIfInBounds_toArray, List.set_cons_zero, List.set_cons_succ]; with_reducible rfl) | rfl)) : p := h
theorem B6x14_ {p : Prop} (h : p := by (repeat (with_reducible (first | exact BK188.out | apply blk_drewN | apply blk_drew | apply blk_alloc | apply blk_put | apply bf NB188_206.out))); repeat (first | exact BK188.out | (simp only [List.setIfInBounds_toArray, List.set_cons_zero, List.set_cons_succ]; with_reducible rfl) | rfl)) : p := h
theorem B6x15_ {p : Prop} (h : p := by (repeat (with_reducible (first | exact BK201.out | apply blk_drewN | apply blk_drew | apply blk_alloc | apply blk_put | apply bf NB201_206.out))); repeat (first | exact BK201.out | (simp only [List.setIfInBounds_toArray, List.set_cons_zero, List.set_cons_succ]; with_reducible rfl) | rfl)) : p := h
theorem B6x16_ {p : Prop} (h : p := by repeat (first | (with_reducible first | exact HI0.out | apply IsS107.alloc | apply IsS107.drewN | apply IsS107.drew | apply IsS107.set_1 | apply IsS107.set_2 | refine IsS107.far ?_ NB0_187.out _ | refine IsS107.far ?_ NB0_188.out _ | refine IsS107.far ?_ NB0_201.out _) | exact HI0.out)) : p := h
theorem B6x17_ {p : Prop} (h : p := by first | rfl | (simp [errW_none, errW_some] <;> rfl) | (simp [*, errW_none, errW_some] <;> rfl)) : p := h
theorem B6x18_ {p : Prop} (h : p := by repeat (first | (with_reducible first | exact HB.out | apply below_alloc | apply pw_below_drewN | apply below_drew1 | refine below_set ?_ (IsS107.ge HI0.out) | refine below_set ?_ GE187.out | refine below_set ?_ GE188.out | refine below_set ?_ GE201.out) | exact HB.out)) : p := h
theorem B6x19_ {p : Prop} (h : p := by (repeat (with_reducible (first | exact BK188.out | apply blk_drewN | apply blk_drew | apply blk_alloc | apply blk_put))); repeat (first | exact BK188.out | (simp only [List.setIfInBounds_toArray, List.set_cons_zero, List.set_cons_succ]; with_reducible rfl) | rfl)) : p := h
theorem B6x20_ {p : Prop} (h : p := by (repeat (with_reducible (first | exact BK206.out | apply blk_drewN | apply blk_drew | apply blk_alloc | apply blk_put))); repeat (first | exact BK206.out | (simp only [List.setIfInBounds_toArray, List.set_cons_zero, List.set_cons_succ]; with_reducible rfl) | rfl)) : p := h
theorem B6x21_ {p : Prop} (h : p := by first | (go_simp; done) | (go_simp; rfl)) : p := h
theorem B6x22_ {p : Prop} (h : p := by (with_reducible repeat (first | apply Kd.R_alloc | apply Kd.R_drewN | apply Kd.R_drew)); exact HO197.out) : p := h
theorem B6x23_ {p : Prop} (h : p := by kernel_rfl) : p := h
theorem B6x24_ {p : Prop} (h : p := by have := HJ5.out; first | omega | exact Nat.le_refl _) : p := h
/-! ### spec_l15Of: function 105 -/
mutual
def spec_l15Of.j0 : Nat → Bool → Bool → List Int → Int → Int → Int → Int → Int → ByteArray → ByteArray → Int → ByteArray → ByteArray → Int → Option (Int × Int × Int × ByteArray × ByteArray × Int × Int × Int)
 | 0, _, _, _, _, _, _, _, _, _, _, _, _, _, _ => none
 | k + 1, x7, x29, x1000, x1001, x1002, x202000, x202001, x202002, x202003, x202004, x202005, x207000, x207001, x207002 => if x29 = true then ((spec_l01Pick.f x1000 x1001 x1002 (([(⟨#[]⟩ : ByteArray), (⟨#[49]⟩ : ByteArray), (⟨#[116, 119, 111]⟩ : ByteArray), (⟨#[116, 104, 114, 101, 101]⟩ : ByteArray)] : List ByteArray))).bind fun bt210 => (spec_l15Of.j1 k x7 x1000 bt210.2.1 bt210.2.2 x202000 x202001 x202002 x202003 bt210.1 x202005 x207000 x207001 x207002)) else (spec_l15Of.j1 k x7 x1000 x1001 x1002 x202000 x202001 x202002 x202003 x202004 x202005 x207000 x207001 x207002)
def spec_l15Of.j1 : Nat → Bool → List Int → Int → Int → Int → Int → Int → ByteArray → ByteArray → Int → ByteArray → ByteArray → Int → Option (Int × Int × Int × ByteArray × ByteArray × Int × Int × Int)
 | 0, _, _, _, _, _, _, _, _, _, _, _, _, _ => none
 | k + 1, x7, x1000, x1001, x1002, x202000, x202001, x202002, x202003, x202004, x202005, x207000, x207001, x207002 => if x202000 = 5 then ((spec_l01Below.f x1000 x1001 x1002 20).bind fun bt213 => (if x7 = true then ((spec_l01Once.f x1000 bt213.2.1 bt213.2.2 3).bind fun bt216 => (if bt216.1 = true then (some (x202000, x202001, x202002, x202003, x202004, wrap64 (1 + bt213.1), bt216.2.1, bt216.2.2)) else (some (x202000, x202001, x202002, x202003, x202004, x207002, bt216.2.1, bt216.2.2)))) else (some (x202000, x202001, x202002, x202003, x202004, wrap64 (1 + bt213.1), bt213.2.1, bt213.2.2)))) else (some (x202000, x202001, x202002, x202003, x202004, x202005, x1001, x1002))
end
def spec_l15Of.f (k : Nat) (s0_0 : List Int) (s0_1 : Int) (s0_2 : Int) (l1_0 : List (S83)) (l1_1 : List (S81)) : Option (Int × Int × Int × ByteArray × ByteArray × Int × Int × Int) := (spec_l01PickInt.f s0_0 s0_1 s0_2 (([2, 2, 2, 3, 3, 4, 5, 5] : List Int))).bind fun bt192 => ((spec_l01Pick.f s0_0 bt192.2.1 bt192.2.2 (([(⟨#[97]⟩ : ByteArray), (⟨#[98]⟩ : ByteArray), (⟨#[99]⟩ : ByteArray), (⟨#[114, 111, 111, 116]⟩ : ByteArray), (⟨#[120, 49]⟩ : ByteArray)] : List ByteArray))).bind fun bt198 => ((spec_ItemOf.f k l1_0 l1_1 bt198.1).bind fun bt202 => (if bt192.1 = 2 then (spec_l15Of.j0 k bt202.2.2.2 true s0_0 bt198.2.1 bt198.2.2 bt192.1 0 0 bt198.1 (⟨#[]⟩ : ByteArray) 0 bt202.1 bt202.2.1 bt202.2.2.1) else (spec_l15Of.j0 k bt202.2.2.2 (bt192.1 == 5) s0_0 bt198.2.1 bt198.2.2 bt192.1 0 0 bt198.1 (⟨#[]⟩ : ByteArray) 0 bt202.1 bt202.2.1 bt202.2.2.1))))
theorem spec_l15Of.mono_l : ∀ k, (∀ y0 y1 y2 y3 y4 y5 y6 y7 y8 y9 y10 y11 y12 y13, LeO (spec_l15Of.j0 k y0 y1 y2 y3 y4 y5 y6 y7 y8 y9 y10 y11 y12 y13) (spec_l15Of.j0 (k + 1) y0 y1 y2 y3 y4 y5 y6 y7 y8 y9 y10 y11 y12 y13)) ∧ (∀ y0 y1 y2 y3 y4 y5 y6 y7 y8 y9 y10 y11 y12, LeO (spec_l15Of.j1 k y0 y1 y2 y3 y4 y5 y6 y7 y8 y9 y10 y11 y12) (spec_l15Of.j1 (k + 1) y0 y1 y2 y3 y4 y5 y6 y7 y8 y9 y10 y11 y12))
 | 0 => ⟨fun _ _ _ _ _ _ _ _ _ _ _ _ _ _ r h => by simp [spec_l15Of.j0] at h, fun _ _ _ _ _ _ _ _ _ _ _ _ _ r h => by simp [spec_l15Of.j1] at h⟩
 | k + 1 => by
  obtain ⟨ih0, ih1⟩ := spec_l15Of.mono_l k
  refine ⟨?_, ?_⟩
  ·intro y0 y1 y2 y3 y4 y5 y6 y7 y8 y9 y10 y11 y12 y13
   unfold spec_l15Of.j0
   repeat' first
   | (with_reducible exact ih0 _ _ _ _ _ _ _ _ _ _ _ _ _ _)
   | (with_reducible exact ih1 _ _ _ _ _ _ _ _ _ _ _ _ _)
   | (with_reducible exact spec_ItemOf.mono _ _ _ _)
   | (with_reducible first | exact LeO.refl _ | exact LeO.none _ | refine LeO.ite ?_ ?_ | refine LeO.bind ?_ (fun _ => ?_))
   | exact ih0 _ _ _ _ _ _ _ _ _ _ _ _ _ _
   | exact ih1 _ _ _ _ _ _ _ _ _ _ _ _ _
   | exact spec_ItemOf.mono _ _ _ _
  ·intro y0 y1 y2 y3 y4 y5 y6 y7 y8 y9 y10 y11 y12
   unfold spec_l15Of.j1
   repeat' first
   | (with_reducible exact ih0 _ _ _ _ _ _ _ _ _ _ _ _ _ _)
   | (with_reducible exact ih1 _ _ _ _ _ _ _ _ _ _ _ _ _)
   | (with_reducible exact spec_ItemOf.mono _ _ _ _)
   | (with_reducible first | exact LeO.refl _ | exact LeO.none _ | refine LeO.ite ?_ ?_ | refine LeO.bind ?_ (fun _ => ?_))
   | exact ih0 _ _ _ _ _ _ _ _ _ _ _ _ _ _
   | exact ih1 _ _ _ _ _ _ _ _ _ _ _ _ _
   | exact spec_ItemOf.mono _ _ _ _
theorem spec_l15Of.mono : ∀ a0 a1 a2 a3 a4 k, LeO (spec_l15Of.f k a0 a1 a2 a3 a4) (spec_l15Of.f (k + 1) a0 a1 a2 a3 a4) := by
 intro a0 a1 a2 a3 a4 k
 obtain ⟨ih0, ih1⟩ := spec_l15Of.mono_l k
 unfold spec_l15Of.f
 repeat' first
   | (with_reducible exact ih0 _ _ _ _ _ _ _ _ _ _ _ _ _ _)
   | (with_reducible exact ih1 _ _ _ _ _ _ _ _ _ _ _ _ _)
   | (with_reducible exact spec_ItemOf.mono _ _ _ _)
   | (with_reducible first | exact LeO.refl _ | exact LeO.none _ | refine LeO.ite ?_ ?_ | refine LeO.bind ?_ (fun _ => ?_))
   | exact ih0 _ _ _ _ _ _ _ _ _ _ _ _ _ _
   | exact ih1 _ _ _ _ _ _ _ _ _ _ _ _ _
   | exact spec_ItemOf.mono _ _ _ _
set_option maxHeartbeats 8000000 in
set_option maxRecDepth 100000 in
theorem spec_l15Of.calls (k : Nat) (g : Nat) (s0_0 : List Int) (s0_1 : Int) (s0_2 : Int) (A1_0 : Option Addr) (c1_0 : Nat) (l1_0 : List (S83)) (A1_1 : Option Addr) (c1_1 : Nat) (l1_1 : List (S81)) (r1 : Int) (r2 : Int) (r3 : Int) (r4 : ByteArray) (r5 : ByteArray) (r6 : Int) (r7 : Int) (r8 : Int) (w0 w : World) (hI : IsS107 w0 w g s0_0 s0_1 s0_2) (hB : Below w0.heap.size w0 w) (hr1_0 : ∀ W_, KeepBut w W_ g none → Kd.C k83 W_ A1_0 l1_0.length l1_0) (hc1_0 : l1_0.length ≤ c1_0) (hr1_1 : ∀ W_, KeepBut w W_ g none → Kd.C k81 W_ A1_1 l1_1.length l1_1) (hc1_1 : l1_1.length ≤ c1_1) (h : spec_l15Of.f k s0_0 s0_1 s0_2 l1_0 l1_1 = some (r1, r2, r3, r4, r5, r6, r7, r8)) :
  Calls Try.prog 105 #[.pointer (some ⟨g, 0, none⟩), .agg #[.slice A1_0 l1_0.length c1_0, .slice A1_1 l1_1.length c1_1]] w fun e w' => e = .returned (.agg #[.int .i64 r1, .int .i64 r2, .int .i64 r3, .string r4, .string r5, .int .i64 r6]) ∧ IsS107 w0 w' g s0_0 r7 r8 ∧ Below w0.heap.size w0 w' ∧ KeepBut w w' g none := by
 have hu47 := Try.underlying47
 have hu59 := Try.underlying59
 have hu81 := Try.underlying81
 have HR1_0 := Aside0.mk hr1_0
 have HC1_0 := Aside0.mk hc1_0
 clear hr1_0 hc1_0
 have HR1_1 := Aside0.mk hr1_1
 have HC1_1 := Aside0.mk hc1_1
 clear hr1_1 hc1_1
 have HI0 := Aside0.mk hI
 have HK := Aside0.mk (KeepBut.refl w g none)
 have HL := Aside0.mk hB.size
 clear hI
 have HW0 := Aside0.mk hB.size
 have HB := Aside0.mk hB
 clear hB
 have H : ((spec_l01PickInt.f s0_0 s0_1 s0_2 (([2, 2, 2, 3, 3, 4, 5, 5] : List Int))).bind fun bt192 => ((spec_l01Pick.f s0_0 bt192.2.1 bt192.2.2 (([(⟨#[97]⟩ : ByteArray), (⟨#[98]⟩ : ByteArray), (⟨#[99]⟩ : ByteArray), (⟨#[114, 111, 111, 116]⟩ : ByteArray), (⟨#[120, 49]⟩ : ByteArray)] : List ByteArray))).bind fun bt198 => ((spec_ItemOf.f k l1_0 l1_1 bt198.1).bind fun bt202 => (if bt192.1 = 2 then (spec_l15Of.j0 k bt202.2.2.2 true s0_0 bt198.2.1 bt198.2.2 bt192.1 0 0 bt198.1 (⟨#[]⟩ : ByteArray) 0 bt202.1 bt202.2.1 bt202.2.2.1) else (spec_l15Of.j0 k bt202.2.2.2 (bt192.1 == 5) s0_0 bt198.2.1 bt198.2.2 bt192.1 0 0 bt198.1 (⟨#[]⟩ : ByteArray) 0 bt202.1 bt202.2.1 bt202.2.2.1))))) = some (r1, r2, r3, r4, r5, r6, r7, r8) := h
 clear h
 obtain ⟨y189, hy189⟩ : ∃ y_ : List Int, y_ = (([2, 2, 2, 3, 3, 4, 5, 5] : List Int)) := ⟨_, rfl⟩
 replace H : ((spec_l01PickInt.f s0_0 s0_1 s0_2 y189).bind fun bt192 => ((spec_l01Pick.f s0_0 bt192.2.1 bt192.2.2 (([(⟨#[97]⟩ : ByteArray), (⟨#[98]⟩ : ByteArray), (⟨#[99]⟩ : ByteArray), (⟨#[114, 111, 111, 116]⟩ : ByteArray), (⟨#[120, 49]⟩ : ByteArray)] : List ByteArray))).bind fun bt198 => ((spec_ItemOf.f k l1_0 l1_1 bt198.1).bind fun bt202 => (if bt192.1 = 2 then (spec_l15Of.j0 k bt202.2.2.2 true s0_0 bt198.2.1 bt198.2.2 bt192.1 0 0 bt198.1 (⟨#[]⟩ : ByteArray) 0 bt202.1 bt202.2.1 bt202.2.2.1) else (spec_l15Of.j0 k bt202.2.2.2 (bt192.1 == 5) s0_0 bt198.2.1 bt198.2.2 bt192.1 0 0 bt198.1 (⟨#[]⟩ : ByteArray) 0 bt202.1 bt202.2.1 bt202.2.2.1))))) = some (r1, r2, r3, r4, r5, r6, r7, r8) := by first | (rw [hy189]; with_reducible exact H) | (have H2_ := (Option.bind_some _ _).symm.trans H; rw [hy189]; with_reducible exact H2_) | (have H2_ := (Option.bind_some _ _).symm.trans H; with_reducible exact H2_) | with_reducible exact H | (rw [hy189]; exact H) | exact H
 have Ny189 := Aside0.mk hy189
 clear hy189
 replace H := bsi H
 obtain ⟨⟨t192, t193, t194⟩, A3, H⟩ := H
 (try dsimp only at H)
 obtain ⟨y195, hy195⟩ : ∃ y_ : List ByteArray, y_ = (([(⟨#[97]⟩ : ByteArray), (⟨#[98]⟩ : ByteArray), (⟨#[99]⟩ : ByteArray), (⟨#[114, 111, 111, 116]⟩ : ByteArray), (⟨#[120, 49]⟩ : ByteArray)] : List ByteArray)) := ⟨_, rfl⟩
 replace H : ((spec_l01Pick.f s0_0 t193 t194 y195).bind fun bt198 => ((spec_ItemOf.f k l1_0 l1_1 bt198.1).bind fun bt202 => (if t192 = 2 then (spec_l15Of.j0 k bt202.2.2.2 true s0_0 bt198.2.1 bt198.2.2 t192 0 0 bt198.1 (⟨#[]⟩ : ByteArray) 0 bt202.1 bt202.2.1 bt202.2.2.1) else (spec_l15Of.j0 k bt202.2.2.2 (t192 == 5) s0_0 bt198.2.1 bt198.2.2 t192 0 0 bt198.1 (⟨#[]⟩ : ByteArray) 0 bt202.1 bt202.2.1 bt202.2.2.1)))) = some (r1, r2, r3, r4, r5, r6, r7, r8) := by first | (rw [hy195]; with_reducible exact H) | (have H2_ := (Option.bind_some _ _).symm.trans H; rw [hy195]; with_reducible exact H2_) | (have H2_ := (Option.bind_some _ _).symm.trans H; with_reducible exact H2_) | with_reducible exact H | (rw [hy195]; exact H) | exact H
 have Ny195 := Aside0.mk hy195
 clear hy195
 replace H := bsi H
 obtain ⟨⟨t198, t199, t200⟩, A4, H⟩ := H
 (try dsimp only at H)
 replace H := bsi H
 obtain ⟨⟨t202, t203, t204, t205⟩, A5, H⟩ := H
 (try dsimp only at H)
 have HC6 := Aside0.mk H
 clear H
 go_enter Try.func105, Try.ntmps105
 go_upto_region 3 with (first | ((with_reducible refine gate_dst (N := 3) rfl ?_); refine box_event ?hg (N := 3) ?hd (cs := #[.slice A1_0 l1_0.length c1_0, .slice A1_1 l1_1.length c1_1]) (t := 47) ?hr ?_; (case hd => rfl); (case hg => rfl); (case hr => exact B6x21_); intro gb187 hg w7 hbox hb; replace HB := Aside0.mk (below_step (by repeat (first | (with_reducible first | exact HB.out | apply below_alloc | apply pw_below_drewN | apply below_drew1 | refine below_set ?_ (IsS107.ge HI0.out)) | exact HB.out)) hb); have BK187 := Aside0.mk (hbox); have GW187 := Aside0.mk ((bs hg (keep_size HK.out))); have GE187 := Aside0.mk ((Nat.le_trans HW0.out (bs hg (keep_size HK.out)) : w0.heap.size ≤ gb187)); replace HK := Aside0.mk (KeepBut.trans (by repeat (first | (with_reducible first | exact HK.out | apply KeepBut.set_ | apply keep_drewN | apply keep_drew | apply keep_alloc) | exact HK.out)) (KeepBut.of_below hb g none) (.inl rfl)); have NB0_187 := Aside0.mk ((nl hg (IsS107.lt HI0.out))); have NB187_0 := Aside0.mk ((ng hg (IsS107.lt HI0.out))); replace HI0 := Aside0.mk (IsS107.below (by repeat (first | (with_reducible first | exact HI0.out | apply IsS107.alloc | apply IsS107.drewN | apply IsS107.drew | apply IsS107.set_1 | apply IsS107.set_2) | exact HI0.out)) hb); clear hb hbox hg) | ((with_reducible refine gate_dst (N := 4) rfl ?_); refine box_event ?hg (N := 4) ?hd (cs := #[.int .i64 0, .int .i64 0, .int .i64 0, .string (⟨#[]⟩ : ByteArray), .string (⟨#[]⟩ : ByteArray), .int .i64 0]) (t := 59) ?hr ?_; (case hd => rfl); (case hg => rfl); (case hr => exact B6x21_); intro gb188 hg w8 hbox hb; replace HB := Aside0.mk (below_step (by repeat (first | (with_reducible first | exact HB.out | apply below_alloc | apply pw_below_drewN | apply below_drew1 | refine below_set ?_ (IsS107.ge HI0.out) | refine below_set ?_ GE187.out) | exact HB.out)) hb); have BK188 := Aside0.mk (hbox); have GW188 := Aside0.mk ((bs hg (keep_size HK.out))); have GE188 := Aside0.mk ((Nat.le_trans HW0.out (bs hg (keep_size HK.out)) : w0.heap.size ≤ gb188)); replace HK := Aside0.mk (KeepBut.trans (by repeat (first | (with_reducible first | exact HK.out | apply KeepBut.set_ | apply keep_drewN | apply keep_drew | apply keep_alloc | refine keep_far ?_ GW187.out _) | exact HK.out)) (KeepBut.of_below hb g none) (.inl rfl)); have NB187_188 := Aside0.mk ((nl hg (blk_lt BK187.out))); have NB188_187 := Aside0.mk ((ng hg (blk_lt BK187.out))); replace BK187 := Aside0.mk (bb BK187.out hb); have NB0_188 := Aside0.mk ((nl hg (IsS107.lt HI0.out))); have NB188_0 := Aside0.mk ((ng hg (IsS107.lt HI0.out))); replace HI0 := Aside0.mk (IsS107.below (by repeat (first | (with_reducible first | exact HI0.out | apply IsS107.alloc | apply IsS107.drewN | apply IsS107.drew | apply IsS107.set_1 | apply IsS107.set_2 | refine IsS107.far ?_ NB0_187.out _) | exact HI0.out)) hb); clear hb hbox hg) | ((with_reducible refine gate_dst (N := 9) rfl ?_); refine Kd.R_lit (Kd.int .i64) _ 3 ?hg (N := 9) ?hd (xs := ([2, 2, 2, 3, 3, 4, 5, 5] : List Int)) (inner := [.int .i64 2, .int .i64 2, .int .i64 2, .int .i64 3, .int .i64 3, .int .i64 4, .int .i64 5, .int .i64 5]) (ok := fun _ => True) (okp := fun _ => True) ?hr ?hp (fun _ hk => hk) trivial (Below.refl _ _) (Nat.le_refl _) (by simp) ?_; (case hd => rfl); (case hg => rfl); (case hr => exact B6x21_); (case hp => exact (Reps.one (show Kd.M (Kd.int .i64) _ _ _ 2 [.int .i64 2] from rfl) (Reps.one (show Kd.M (Kd.int .i64) _ _ _ 2 [.int .i64 2] from rfl) (Reps.one (show Kd.M (Kd.int .i64) _ _ _ 2 [.int .i64 2] from rfl) (Reps.one (show Kd.M (Kd.int .i64) _ _ _ 3 [.int .i64 3] from rfl) (Reps.one (show Kd.M (Kd.int .i64) _ _ _ 3 [.int .i64 3] from rfl) (Reps.one (show Kd.M (Kd.int .i64) _ _ _ 4 [.int .i64 4] from rfl) (Reps.one (show Kd.M (Kd.int .i64) _ _ _ 5 [.int .i64 5] from rfl) (Reps.one (show Kd.M (Kd.int .i64) _ _ _ 5 [.int .i64 5] from rfl) (Reps.none _ _)))))))))); intro v190 w9 ho10 hb hg_ hnew_; clear hg_ hnew_; (first | rw [← Ny189.out] at ho10 | (simp only [Int.reduceToNat] at ho10; rw [← Ny189.out] at ho10)); have HO191 := Aside0.mk (Kd.R_lower ho10 (keep_size (w := w) (g := g) (row := none) B6x5_)); replace BK187 := Aside0.mk (bb BK187.out hb); replace BK188 := Aside0.mk (bb BK188.out hb); replace HK := Aside0.mk (KeepBut.trans B6x5_ (KeepBut.of_below hb g none) (.inl rfl)); replace HB := Aside0.mk (below_step B6x6_ hb); replace HI0 := Aside0.mk (IsS107.below B6x3_ hb); clear hb ho10; obtain ⟨Ao11, co11, eo11⟩ := Kd.R_slice HO191.out; subst eo11) | ((with_reducible refine gate_callee (f := 80) rfl ?_); refine goesL_ (some 10) rfl rfl Try.func80 B6x23_ rfl #[.pointer (some ⟨g, 0, none⟩), .slice Ao11 y189.length co11] rfl B6x8_ ?_; (with_reducible refine (spec_l01PickInt.calls g s0_0 s0_1 s0_2 _ _ y189 t192 t193 t194 w0 _ ?side1 ?side2 ?side3 ?side4 ?side5 A3.out).mono ?_); (case side1 => exact B6x3_); (case side2 => exact B6x6_); (case side3 => repeat (first | exact (Kd.R_reads' HO191.out).2.2 | (with_reducible refine Kd.C_alloc ?_ _) | (with_reducible refine Kd.C_drewN ?_ _) | (with_reducible refine Kd.C_drew ?_))); (case side4 => exact (Kd.R_reads' HO191.out).2.1); (case side5 => exact far_slice (IsS107.own_ne HI0.out HO191.out (by decide))); rintro e w12 ⟨rfl, hi, hb, hk⟩; refine ⟨_, rfl, ?_⟩; replace BK187 := Aside0.mk (kb hk BK187.out NB187_0.out); replace BK188 := Aside0.mk (kb hk BK188.out NB188_0.out); replace HO191 := Aside0.mk (Kd.R_mono (Kd.R_keep (IsS107.apart (show IsS107 w0 _ g s0_0 s0_1 s0_2 from B6x3_) B6x12_ (by decide)) hk (fun _ h => h.2)) (fun _ h => h.1)); replace HK := Aside0.mk (KeepBut.trans B6x5_ hk (.inl rfl)); replace HB := Aside0.mk (hb); replace HI0 := Aside0.mk (hi); (try clear hb hk hi)) | ((with_reducible refine gate_dst (N := 12) rfl ?_); refine Kd.R_lit Kd.string _ 9 ?hg (N := 12) ?hd (xs := ([(⟨#[97]⟩ : ByteArray), (⟨#[98]⟩ : ByteArray), (⟨#[99]⟩ : ByteArray), (⟨#[114, 111, 111, 116]⟩ : ByteArray), (⟨#[120, 49]⟩ : ByteArray)] : List ByteArray)) (inner := [.string (⟨#[97]⟩ : ByteArray), .string (⟨#[98]⟩ : ByteArray), .string (⟨#[99]⟩ : ByteArray), .string (⟨#[114, 111, 111, 116]⟩ : ByteArray), .string (⟨#[120, 49]⟩ : ByteArray)]) (ok := fun _ => True) (okp := fun _ => True) ?hr ?hp (fun _ hk => hk) trivial (Below.refl _ _) (Nat.le_refl _) (by simp) ?_; (case hd => rfl); (case hg => rfl); (case hr => exact B6x21_); (case hp => exact (Reps.one (show Kd.M Kd.string _ _ _ (⟨#[97]⟩ : ByteArray) [.string (⟨#[97]⟩ : ByteArray)] from rfl) (Reps.one (show Kd.M Kd.string _ _ _ (⟨#[98]⟩ : ByteArray) [.string (⟨#[98]⟩ : ByteArray)] from rfl) (Reps.one (show Kd.M Kd.string _ _ _ (⟨#[99]⟩ : ByteArray) [.string (⟨#[99]⟩ : ByteArray)] from rfl) (Reps.one (show Kd.M Kd.string _ _ _ (⟨#[114, 111, 111, 116]⟩ : ByteArray) [.string (⟨#[114, 111, 111, 116]⟩ : ByteArray)] from rfl) (Reps.one (show Kd.M Kd.string _ _ _ (⟨#[120, 49]⟩ : ByteArray) [.string (⟨#[120, 49]⟩ : ByteArray)] from rfl) (Reps.none _ _))))))); intro v196 w13 ho14 hb hg_ hnew_; clear hg_ hnew_; (first | rw [← Ny195.out] at ho14 | (simp only [Int.reduceToNat] at ho14; rw [← Ny195.out] at ho14)); replace HO191 := Aside0.mk (Kd.R_below B6x12_ hb); have HO197 := Aside0.mk (Kd.R_lower ho14 (keep_size (w := w) (g := g) (row := none) B6x5_)); replace BK187 := Aside0.mk (bb BK187.out hb); replace BK188 := Aside0.mk (bb BK188.out hb); replace HK := Aside0.mk (KeepBut.trans B6x5_ (KeepBut.of_below hb g none) (.inl rfl)); replace HB := Aside0.mk (below_step B6x6_ hb); replace HI0 := Aside0.mk (IsS107.below B6x3_ hb); clear hb ho14; obtain ⟨Ao15, co15, eo15⟩ := Kd.R_slice HO197.out; subst eo15) | ((with_reducible refine gate_callee (f := 88) rfl ?_); refine goesL_ (some 13) rfl rfl Try.func88 B6x23_ rfl #[.pointer (some ⟨g, 0, none⟩), .slice Ao15 y195.length co15] rfl B6x8_ ?_; (with_reducible refine (spec_l01Pick.calls g s0_0 t193 t194 _ _ y195 t198 t199 t200 w0 _ ?side1 ?side2 ?side3 ?side4 ?side5 A4.out).mono ?_); (case side1 => exact B6x3_); (case side2 => exact B6x6_); (case side3 => repeat (first | exact (Kd.R_reads' HO197.out).2.2 | (with_reducible refine Kd.C_alloc ?_ _) | (with_reducible refine Kd.C_drewN ?_ _) | (with_reducible refine Kd.C_drew ?_))); (case side4 => exact (Kd.R_reads' HO197.out).2.1); (case side5 => exact far_slice (IsS107.own_ne HI0.out HO197.out (by decide))); rintro e w16 ⟨rfl, hi, hb, hk⟩; refine ⟨_, rfl, ?_⟩; replace BK187 := Aside0.mk (kb hk BK187.out NB187_0.out); replace BK188 := Aside0.mk (kb hk BK188.out NB188_0.out); replace HO191 := Aside0.mk (Kd.R_mono (Kd.R_keep (IsS107.apart (show IsS107 w0 _ g s0_0 t193 t194 from B6x3_) B6x12_ (by decide)) hk (fun _ h => h.2)) (fun _ h => h.1)); replace HO197 := Aside0.mk (Kd.R_mono (Kd.R_keep (IsS107.apart (show IsS107 w0 _ g s0_0 t193 t194 from B6x3_) B6x22_ (by decide)) hk (fun _ h => h.2)) (fun _ h => h.1)); replace HK := Aside0.mk (KeepBut.trans B6x5_ hk (.inl rfl)); replace HB := Aside0.mk (hb); replace HI0 := Aside0.mk (hi); (try clear hb hk hi)) | ((with_reducible refine gate_dst (N := 5) rfl ?_); refine box_event ?hg (N := 5) ?hd (cs := #[.int .i64 0, .int .i64 0, .int .i64 0, .string (⟨#[]⟩ : ByteArray), .string (⟨#[]⟩ : ByteArray), .int .i64 0]) (t := 59) ?hr ?_; (case hd => rfl); (case hg => rfl); (case hr => exact B6x21_); intro gb201 hg w17 hbox hb; replace HO191 := Aside0.mk (Kd.R_below B6x12_ hb); replace HO197 := Aside0.mk (Kd.R_below B6x22_ hb); replace HB := Aside0.mk (below_step B6x6_ hb); have BK201 := Aside0.mk (hbox); have GW201 := Aside0.mk ((bs hg (keep_size HK.out))); have GE201 := Aside0.mk ((Nat.le_trans HW0.out (bs hg (keep_size HK.out)) : w0.heap.size ≤ gb201)); replace HK := Aside0.mk (KeepBut.trans B6x5_ (KeepBut.of_below hb g none) (.inl rfl)); have NB187_201 := Aside0.mk ((nl hg (blk_lt BK187.out))); have NB201_187 := Aside0.mk ((ng hg (blk_lt BK187.out))); replace BK187 := Aside0.mk (bb BK187.out hb); have NB188_201 := Aside0.mk ((nl hg (blk_lt BK188.out))); have NB201_188 := Aside0.mk ((ng hg (blk_lt BK188.out))); replace BK188 := Aside0.mk (bb BK188.out hb); have NB0_201 := Aside0.mk ((nl hg (IsS107.lt HI0.out))); have NB201_0 := Aside0.mk ((ng hg (IsS107.lt HI0.out))); replace HI0 := Aside0.mk (IsS107.below B6x3_ hb); clear hb hbox hg; have hnb18 := NB201_187.out; have hnc18 := NB187_201.out; have hnb19 := NB201_188.out; have hnc19 := NB188_201.out; have hnb20 := NB201_0.out; have hnc20 := NB0_201.out; obtain ⟨hcz21_0, hcz21_1, hcz21_2, hcz21_3, hcz21_4, hcz21_5⟩ := cl6 BK201.out; obtain ⟨hfz21_0, hfz21_1, hfz21_2, hfz21_3, hfz21_4, hfz21_5⟩ := fr6 BK201.out; have hnb22 := NB187_188.out; have hnc22 := NB188_187.out; have hnb23 := NB187_0.out; have hnc23 := NB0_187.out; obtain ⟨hcz24_0, hcz24_1⟩ := cl2 BK187.out; obtain ⟨hfz24_0, hfz24_1⟩ := fr2 BK187.out) | ((with_reducible refine gate_callee (f := 110) rfl ?_); refine goesL_ (some 19) rfl rfl Try.func110 B6x23_ rfl #[.agg #[.slice A1_0 l1_0.length c1_0, .slice A1_1 l1_1.length c1_1], .string t198] rfl B6x8_ ?_; (with_reducible refine (spec_ItemOf.calls k _ _ l1_0 _ _ l1_1 t198 t202 t203 t204 t205 _ ?side1 ?side2 ?side3 ?side4 A5.out).mono ?_); (case side1 => exact Kd.C_foot_now HR1_0.out B6x10_); (case side2 => exact HC1_0.out); (case side3 => exact Kd.C_foot_now HR1_1.out B6x10_); (case side4 => exact HC1_1.out); rintro e w25 ⟨rfl, hb⟩; refine ⟨_, rfl, ?_⟩; replace HO191 := Aside0.mk (Kd.R_below (by (with_reducible repeat (first | apply Kd.R_alloc | apply Kd.R_drewN | apply Kd.R_drew)); exact (Kd.R_mono (Kd.R_far (p := ⟨gb201, 5, none⟩) (Kd.R_far (p := ⟨gb201, 4, none⟩) (Kd.R_far (p := ⟨gb201, 3, none⟩) (Kd.R_far (p := ⟨gb201, 2, none⟩) (Kd.R_far (p := ⟨gb201, 1, none⟩) (Kd.R_far (p := ⟨gb201, 0, none⟩) (Kd.R_types HO191.out BK201.out (by decide)) (fun _ hk => hk.2) (.int .i64 t192)) (fun _ hk => hk.2) (.int .i64 0)) (fun _ hk => hk.2) (.int .i64 0)) (fun _ hk => hk.2) (.string t198)) (fun _ hk => hk.2) (.string (⟨#[]⟩ : ByteArray))) (fun _ hk => hk.2) (.int .i64 0)) (fun _ h_ => h_.1))) hb); replace HO197 := Aside0.mk (Kd.R_below (by (with_reducible repeat (first | apply Kd.R_alloc | apply Kd.R_drewN | apply Kd.R_drew)); exact (Kd.R_mono (Kd.R_far (p := ⟨gb201, 5, none⟩) (Kd.R_far (p := ⟨gb201, 4, none⟩) (Kd.R_far (p := ⟨gb201, 3, none⟩) (Kd.R_far (p := ⟨gb201, 2, none⟩) (Kd.R_far (p := ⟨gb201, 1, none⟩) (Kd.R_far (p := ⟨gb201, 0, none⟩) (Kd.R_types HO197.out BK201.out (by decide)) (fun _ hk => hk.2) (.int .i64 t192)) (fun _ hk => hk.2) (.int .i64 0)) (fun _ hk => hk.2) (.int .i64 0)) (fun _ hk => hk.2) (.string t198)) (fun _ hk => hk.2) (.string (⟨#[]⟩ : ByteArray))) (fun _ hk => hk.2) (.int .i64 0)) (fun _ h_ => h_.1))) hb); replace BK187 := Aside0.mk (blk_below (g := gb187) (o := .cells #[.slice A1_0 l1_0.length c1_0, .slice A1_1 l1_1.length c1_1] 47 (0, 0)) B6x7_ hb); replace BK188 := Aside0.mk (blk_below (g := gb188) (o := .cells #[.int .i64 0, .int .i64 0, .int .i64 0, .string (⟨#[]⟩ : ByteArray), .string (⟨#[]⟩ : ByteArray), .int .i64 0] 59 (0, 0)) B6x4_ hb); replace BK201 := Aside0.mk (blk_below (g := gb201) (o := .cells #[.int .i64 t192, .int .i64 0, .int .i64 0, .string t198, .string (⟨#[]⟩ : ByteArray), .int .i64 0] 59 (0, 0)) B6x9_ hb); replace HK := Aside0.mk (KeepBut.trans B6x10_ (KeepBut.of_below hb g none) (.inl rfl)); replace HB := Aside0.mk (below_step B6x18_ hb); replace HI0 := Aside0.mk (IsS107.below (show IsS107 w0 ((((((w17.setCell ⟨gb201, 0, none⟩ (.int .i64 t192)).setCell ⟨gb201, 1, none⟩ (.int .i64 0)).setCell ⟨gb201, 2, none⟩ (.int .i64 0)).setCell ⟨gb201, 3, none⟩ (.string t198)).setCell ⟨gb201, 4, none⟩ (.string (⟨#[]⟩ : ByteArray))).setCell ⟨gb201, 5, none⟩ (.int .i64 0)) g s0_0 t199 t200 from B6x16_) hb); (try clear hb)) | ((with_reducible refine gate_dst (N := 6) rfl ?_); refine box_event ?hg (N := 6) ?hd (cs := #[.string (⟨#[]⟩ : ByteArray), .string (⟨#[]⟩ : ByteArray), .int .i64 0]) (t := 81) ?hr ?_; (case hd => rfl); (case hg => rfl); (case hr => exact B6x21_); intro gb206 hg w26 hbox hb; replace HO191 := Aside0.mk (Kd.R_below B6x12_ hb); replace HO197 := Aside0.mk (Kd.R_below B6x22_ hb); replace HB := Aside0.mk (below_step B6x18_ hb); have BK206 := Aside0.mk (hbox); have GW206 := Aside0.mk ((bs hg (keep_size HK.out))); have GE206 := Aside0.mk ((Nat.le_trans HW0.out (bs hg (keep_size HK.out)) : w0.heap.size ≤ gb206)); replace HK := Aside0.mk (KeepBut.trans B6x10_ (KeepBut.of_below hb g none) (.inl rfl)); have NB187_206 := Aside0.mk ((nl hg (blk_lt BK187.out))); have NB206_187 := Aside0.mk ((ng hg (blk_lt BK187.out))); replace BK187 := Aside0.mk (bb BK187.out hb); have NB188_206 := Aside0.mk ((nl hg (blk_lt BK188.out))); have NB206_188 := Aside0.mk ((ng hg (blk_lt BK188.out))); replace BK188 := Aside0.mk (bb BK188.out hb); have NB201_206 := Aside0.mk ((nl hg (blk_lt BK201.out))); have NB206_201 := Aside0.mk ((ng hg (blk_lt BK201.out))); replace BK201 := Aside0.mk (bb BK201.out hb); have NB0_206 := Aside0.mk ((nl hg (IsS107.lt HI0.out))); have NB206_0 := Aside0.mk ((ng hg (IsS107.lt HI0.out))); replace HI0 := Aside0.mk (IsS107.below B6x16_ hb); clear hb hbox hg; have hnb27 := NB206_187.out; have hnc27 := NB187_206.out; have hnb28 := NB206_188.out; have hnc28 := NB188_206.out; have hnb29 := NB206_201.out; have hnc29 := NB201_206.out; have hnb30 := NB206_0.out; have hnc30 := NB0_206.out; obtain ⟨hcz31_0, hcz31_1, hcz31_2⟩ := cl3 BK206.out; obtain ⟨hfz31_0, hfz31_1, hfz31_2⟩ := fr3 BK206.out))
 (try simp only [Act.put, List.setIfInBounds_toArray, List.set_cons_zero, List.set_cons_succ])
 go_cut [29] (fun v29 wc => ∃ (kq : Nat) (x29_5 : Bool), v29 = .bool x29_5 ∧ Aside0 (spec_l15Of.j0 kq t205 x29_5 s0_0 t199 t200 t192 0 0 t198 (⟨#[]⟩ : ByteArray) 0 t202 t203 t204 = some (r1, r2, r3, r4, r5, r6, r7, r8)) ∧ Aside0 (kq ≤ k) ∧ Aside0 (wc.heap[gb187]? = some (.cells #[(.slice A1_0 l1_0.length c1_0), (.slice A1_1 l1_1.length c1_1)] 47 (0, 0))) ∧ Aside0 (wc.heap[gb188]? = some (.cells #[.int .i64 0, .int .i64 0, .int .i64 0, .string (⟨#[]⟩ : ByteArray), .string (⟨#[]⟩ : ByteArray), .int .i64 0] 59 (0, 0))) ∧ Aside0 (wc.heap[gb201]? = some (.cells #[.int .i64 t192, .int .i64 0, .int .i64 0, .string t198, .string (⟨#[]⟩ : ByteArray), .int .i64 0] 59 (0, 0))) ∧ Aside0 (wc.heap[gb206]? = some (.cells #[.string t202, .string t203, .int .i64 t204] 81 (0, 0))) ∧ Aside0 (IsS107 w0 wc g s0_0 t199 t200) ∧ Aside0 (KeepBut w wc g none) ∧ Aside0 (Below w0.heap.size w0 wc))
 case first =>
  have H := HC6.out
  clear HC6
  by_cases c32 : t192 = 2
  ·rw [if_pos c32] at H
   have c32b0 := beq_iff_eq.mpr c32
   have c32b1 := bne_eq_false_iff_eq.mpr c32
   clear c32
   (first | rw [c32b0] | (simp only [i64_w, i32_w]; rw [c32b0]) | skip)
   have H' := Aside0.mk H
   clear H
   have hnb33 := NB201_187.out
   have hnc33 := NB187_201.out
   have hnb34 := NB201_188.out
   have hnc34 := NB188_201.out
   have hnb35 := NB201_206.out
   have hnc35 := NB206_201.out
   have hnb36 := NB201_0.out
   have hnc36 := NB0_201.out
   obtain ⟨hcz37_0, hcz37_1, hcz37_2, hcz37_3, hcz37_4, hcz37_5⟩ := cl6 BK201.out
   obtain ⟨hfz37_0, hfz37_1, hfz37_2, hfz37_3, hfz37_4, hfz37_5⟩ := fr6 BK201.out
   go_wp2
   go_meet
   case rel => exact ⟨_, (true), (be_), H', ⟨(by first | omega | exact Nat.le_refl _)⟩, ⟨B6x13_⟩, ⟨B6x14_⟩, ⟨B6x15_⟩, ⟨B6x20_⟩, ⟨B6x0_⟩, ⟨B6x2_⟩, ⟨B6x1_⟩⟩
  ·rw [if_neg c32] at H
   have c32b0 := beq_eq_false_iff_ne.mpr c32
   have c32b1 := bne_iff_ne.mpr c32
   (first | rw [c32b0] | (simp only [i64_w, i32_w]; rw [c32b0]) | skip)
   have H' := Aside0.mk H
   clear H
   have hnb38 := NB201_187.out
   have hnc38 := NB187_201.out
   have hnb39 := NB201_188.out
   have hnc39 := NB188_201.out
   have hnb40 := NB201_206.out
   have hnc40 := NB206_201.out
   have hnb41 := NB201_0.out
   have hnc41 := NB0_201.out
   obtain ⟨hcz42_0, hcz42_1, hcz42_2, hcz42_3, hcz42_4, hcz42_5⟩ := cl6 BK201.out
   obtain ⟨hfz42_0, hfz42_1, hfz42_2, hfz42_3, hfz42_4, hfz42_5⟩ := fr6 BK201.out
   go_wp2
   go_meet
   case rel => exact ⟨_, ((t192 == 5)), (be_), H', ⟨(by first | omega | exact Nat.le_refl _)⟩, ⟨B6x13_⟩, ⟨B6x14_⟩, ⟨B6x15_⟩, ⟨B6x20_⟩, ⟨B6x0_⟩, ⟨B6x2_⟩, ⟨B6x1_⟩⟩
 case rest =>
  clear HC6
  try clear hcz21_0
  try clear hcz21_1
  try clear hcz21_2
  try clear hcz21_3
  try clear hcz21_4
  try clear hcz21_5
  try clear hcz24_0
  try clear hcz24_1
  try clear hcz31_0
  try clear hcz31_1
  try clear hcz31_2
  try clear hfz21_0
  try clear hfz21_1
  try clear hfz21_2
  try clear hfz21_3
  try clear hfz21_4
  try clear hfz21_5
  try clear hfz24_0
  try clear hfz24_1
  try clear hfz31_0
  try clear hfz31_1
  try clear hfz31_2
  obtain ⟨kq, x29_5, rfl, HA, HJ5, BK187, BK188, BK201, BK206, HI0, HK, HB⟩ := hcut
  cases kq with
  | zero => exact absurd HA.out (by simp [spec_l15Of.j0])
  | succ kj5 =>
   have H := HA.out
   clear HA
   simp only [spec_l15Of.j0] at H
   have HC43 := Aside0.mk H
   clear H
   go_upto_if 29 with (fail)
   go_cut [] (fun wc => ∃ (kq : Nat) (x1001_42 : Int) (x1002_42 : Int) (x202004_42 : ByteArray), Aside0 (spec_l15Of.j1 kq t205 s0_0 x1001_42 x1002_42 t192 0 0 t198 x202004_42 0 t202 t203 t204 = some (r1, r2, r3, r4, r5, r6, r7, r8)) ∧ Aside0 (kq ≤ kj5) ∧ Aside0 (wc.heap[gb187]? = some (.cells #[(.slice A1_0 l1_0.length c1_0), (.slice A1_1 l1_1.length c1_1)] 47 (0, 0))) ∧ Aside0 (wc.heap[gb188]? = some (.cells #[.int .i64 0, .int .i64 0, .int .i64 0, .string (⟨#[]⟩ : ByteArray), .string (⟨#[]⟩ : ByteArray), .int .i64 0] 59 (0, 0))) ∧ Aside0 (wc.heap[gb201]? = some (.cells #[.int .i64 t192, .int .i64 0, .int .i64 0, .string t198, .string x202004_42, .int .i64 0] 59 (0, 0))) ∧ Aside0 (wc.heap[gb206]? = some (.cells #[.string t202, .string t203, .int .i64 t204] 81 (0, 0))) ∧ Aside0 (IsS107 w0 wc g s0_0 x1001_42 x1002_42) ∧ Aside0 (KeepBut w wc g none) ∧ Aside0 (Below w0.heap.size w0 wc))
   case first =>
    have H := HC43.out
    clear HC43
    by_cases c44 : x29_5 = true
    ·subst c44
     rw [if_pos rfl] at H
     obtain ⟨y207, hy207⟩ : ∃ y_ : List ByteArray, y_ = (([(⟨#[]⟩ : ByteArray), (⟨#[49]⟩ : ByteArray), (⟨#[116, 119, 111]⟩ : ByteArray), (⟨#[116, 104, 114, 101, 101]⟩ : ByteArray)] : List ByteArray)) := ⟨_, rfl⟩
     replace H : ((spec_l01Pick.f s0_0 t199 t200 y207).bind fun bt210 => (spec_l15Of.j1 kj5 t205 s0_0 bt210.2.1 bt210.2.2 t192 0 0 t198 bt210.1 0 t202 t203 t204)) = some (r1, r2, r3, r4, r5, r6, r7, r8) := by first | (rw [hy207]; with_reducible exact H) | (have H2_ := (Option.bind_some _ _).symm.trans H; rw [hy207]; with_reducible exact H2_) | (have H2_ := (Option.bind_some _ _).symm.trans H; with_reducible exact H2_) | with_reducible exact H | (rw [hy207]; exact H) | exact H
     have Ny207 := Aside0.mk hy207
     clear hy207
     replace H := bsi H
     obtain ⟨⟨t210, t211, t212⟩, A45, H⟩ := H
     (try dsimp only at H)
     have H' := Aside0.mk H
     clear H
     go_wp2_with (first | ((with_reducible refine gate_dst (N := 31) rfl ?_); refine Kd.R_lit Kd.string _ 9 ?hg (N := 31) ?hd (xs := ([(⟨#[]⟩ : ByteArray), (⟨#[49]⟩ : ByteArray), (⟨#[116, 119, 111]⟩ : ByteArray), (⟨#[116, 104, 114, 101, 101]⟩ : ByteArray)] : List ByteArray)) (inner := [.string (⟨#[]⟩ : ByteArray), .string (⟨#[49]⟩ : ByteArray), .string (⟨#[116, 119, 111]⟩ : ByteArray), .string (⟨#[116, 104, 114, 101, 101]⟩ : ByteArray)]) (ok := fun _ => True) (okp := fun _ => True) ?hr ?hp (fun _ hk => hk) trivial (Below.refl _ _) (Nat.le_refl _) (by simp) ?_; (case hd => rfl); (case hg => rfl); (case hr => exact B6x21_); (case hp => exact (Reps.one (show Kd.M Kd.string _ _ _ (⟨#[]⟩ : ByteArray) [.string (⟨#[]⟩ : ByteArray)] from rfl) (Reps.one (show Kd.M Kd.string _ _ _ (⟨#[49]⟩ : ByteArray) [.string (⟨#[49]⟩ : ByteArray)] from rfl) (Reps.one (show Kd.M Kd.string _ _ _ (⟨#[116, 119, 111]⟩ : ByteArray) [.string (⟨#[116, 119, 111]⟩ : ByteArray)] from rfl) (Reps.one (show Kd.M Kd.string _ _ _ (⟨#[116, 104, 114, 101, 101]⟩ : ByteArray) [.string (⟨#[116, 104, 114, 101, 101]⟩ : ByteArray)] from rfl) (Reps.none _ _)))))); intro v208 w46 ho47 hb hg_ hnew_; clear hg_ hnew_; (first | rw [← Ny207.out] at ho47 | (simp only [Int.reduceToNat] at ho47; rw [← Ny207.out] at ho47)); have HO209 := Aside0.mk (Kd.R_lower ho47 (keep_size (w := w) (g := g) (row := none) B6x2_)); replace BK187 := Aside0.mk (bb BK187.out hb); replace BK188 := Aside0.mk (bb BK188.out hb); replace BK201 := Aside0.mk (bb BK201.out hb); replace BK206 := Aside0.mk (bb BK206.out hb); replace HK := Aside0.mk (KeepBut.trans B6x2_ (KeepBut.of_below hb g none) (.inl rfl)); replace HB := Aside0.mk (below_step B6x1_ hb); replace HI0 := Aside0.mk (IsS107.below B6x0_ hb); clear hb ho47; obtain ⟨Ao48, co48, eo48⟩ := Kd.R_slice HO209.out; subst eo48) | ((with_reducible refine gate_callee (f := 88) rfl ?_); refine goesL_ (some 32) rfl rfl Try.func88 B6x23_ rfl #[.pointer (some ⟨g, 0, none⟩), .slice Ao48 y207.length co48] rfl B6x8_ ?_; (with_reducible refine (spec_l01Pick.calls g s0_0 t199 t200 _ _ y207 t210 t211 t212 w0 _ ?side1 ?side2 ?side3 ?side4 ?side5 A45.out).mono ?_); (case side1 => exact B6x0_); (case side2 => exact B6x1_); (case side3 => repeat (first | exact (Kd.R_reads' HO209.out).2.2 | (with_reducible refine Kd.C_alloc ?_ _) | (with_reducible refine Kd.C_drewN ?_ _) | (with_reducible refine Kd.C_drew ?_))); (case side4 => exact (Kd.R_reads' HO209.out).2.1); (case side5 => exact far_slice (IsS107.own_ne HI0.out HO209.out (by decide))); rintro e w49 ⟨rfl, hi, hb, hk⟩; refine ⟨_, rfl, ?_⟩; replace BK187 := Aside0.mk (kb hk BK187.out NB187_0.out); replace BK188 := Aside0.mk (kb hk BK188.out NB188_0.out); replace BK201 := Aside0.mk (kb hk BK201.out NB201_0.out); replace BK206 := Aside0.mk (kb hk BK206.out NB206_0.out); replace HO209 := Aside0.mk (Kd.R_mono (Kd.R_keep (IsS107.apart (show IsS107 w0 _ g s0_0 t199 t200 from B6x0_) (by (with_reducible repeat (first | apply Kd.R_alloc | apply Kd.R_drewN | apply Kd.R_drew)); exact HO209.out) (by decide)) hk (fun _ h => h.2)) (fun _ h => h.1)); replace HK := Aside0.mk (KeepBut.trans B6x2_ hk (.inl rfl)); replace HB := Aside0.mk (hb); replace HI0 := Aside0.mk (hi); (try clear hb hk hi); have hnb50 := NB201_187.out; have hnc50 := NB187_201.out; have hnb51 := NB201_188.out; have hnc51 := NB188_201.out; have hnb52 := NB201_206.out; have hnc52 := NB206_201.out; have hnb53 := NB201_0.out; have hnc53 := NB0_201.out; obtain ⟨hcz54_0, hcz54_1, hcz54_2, hcz54_3, hcz54_4, hcz54_5⟩ := cl6 BK201.out; obtain ⟨hfz54_0, hfz54_1, hfz54_2, hfz54_3, hfz54_4, hfz54_5⟩ := fr6 BK201.out))
     go_meet
     case rel => exact ⟨_, (t211), (t212), (t210), H', ⟨B6x24_⟩, ⟨B6x7_⟩, ⟨B6x4_⟩, ⟨B6x9_⟩, ⟨B6x11_⟩, ⟨B6x0_⟩, ⟨B6x2_⟩, ⟨B6x1_⟩⟩
    ·replace c44 := Bool.eq_false_iff.mpr c44
     subst c44
     rw [if_neg (show ¬ (false = true) by decide)] at H
     have H' := Aside0.mk H
     clear H
     go_wp2
     go_meet
     case rel => exact ⟨_, (t199), (t200), ((⟨#[]⟩ : ByteArray)), H', ⟨B6x24_⟩, ⟨(by (with_reducible repeat (first | refine blk_drewN ?_ _ | refine blk_drew ?_ | refine blk_alloc ?_ _)); exact BK187.out)⟩, ⟨(by (with_reducible repeat (first | refine blk_drewN ?_ _ | refine blk_drew ?_ | refine blk_alloc ?_ _)); exact BK188.out)⟩, ⟨(by (with_reducible repeat (first | refine blk_drewN ?_ _ | refine blk_drew ?_ | refine blk_alloc ?_ _)); exact BK201.out)⟩, ⟨(by (with_reducible repeat (first | refine blk_drewN ?_ _ | refine blk_drew ?_ | refine blk_alloc ?_ _)); exact BK206.out)⟩, ⟨B6x0_⟩, ⟨B6x2_⟩, ⟨B6x1_⟩⟩
   case rest =>
    clear HC43
    try clear hcz21_0
    try clear hcz21_1
    try clear hcz21_2
    try clear hcz21_3
    try clear hcz21_4
    try clear hcz21_5
    try clear hcz24_0
    try clear hcz24_1
    try clear hcz31_0
    try clear hcz31_1
    try clear hcz31_2
    try clear hfz21_0
    try clear hfz21_1
    try clear hfz21_2
    try clear hfz21_3
    try clear hfz21_4
    try clear hfz21_5
    try clear hfz24_0
    try clear hfz24_1
    try clear hfz31_0
    try clear hfz31_1
    try clear hfz31_2
    obtain ⟨kq, x1001_42, x1002_42, x202004_42, HA, HJ42, BK187, BK188, BK201, BK206, HI0, HK, HB⟩ := hcut
    cases kq with
    | zero => exact absurd HA.out (by simp [spec_l15Of.j1])
    | succ kj42 =>
     have H := HA.out
     clear HA
     simp only [spec_l15Of.j1] at H
     by_cases c55 : t192 = 5
     ·rw [if_pos c55] at H
      have c55b0 := beq_iff_eq.mpr c55
      have c55b1 := bne_eq_false_iff_eq.mpr c55
      clear c55
      replace H := bsi H
      obtain ⟨⟨t213, t214, t215⟩, A56, H⟩ := H
      (try dsimp only at H)
      by_cases c57 : t205 = true
      ·subst c57
       rw [if_pos rfl] at H
       replace H := bsi H
       obtain ⟨⟨t216, t217, t218⟩, A58, H⟩ := H
       (try dsimp only at H)
       by_cases c59 : t216 = true
       ·subst c59
        rw [if_pos rfl] at H
        simp only [Option.some.injEq, Prod.mk.injEq] at H
        obtain ⟨rfl, rfl, rfl, rfl, rfl, rfl, rfl, rfl⟩ := H
        have hnb60 := NB201_187.out
        have hnc60 := NB187_201.out
        have hnb61 := NB201_188.out
        have hnc61 := NB188_201.out
        have hnb62 := NB201_206.out
        have hnc62 := NB206_201.out
        have hnb63 := NB201_0.out
        have hnc63 := NB0_201.out
        obtain ⟨hcz64_0, hcz64_1, hcz64_2, hcz64_3, hcz64_4, hcz64_5⟩ := cl6 BK201.out
        obtain ⟨hfz64_0, hfz64_1, hfz64_2, hfz64_3, hfz64_4, hfz64_5⟩ := fr6 BK201.out
        go_wp2_with (first | ((with_reducible refine gate_callee (f := 41) rfl ?_); refine goesL_ (some 38) rfl rfl Try.func41 B6x23_ rfl #[.pointer (some ⟨g, 0, none⟩), .int .i64 20] rfl B6x8_ ?_; (with_reducible refine (spec_l01Below.calls g s0_0 x1001_42 x1002_42 20 t213 t214 t215 w0 _ ?side1 ?side2 A56.out).mono ?_); (case side1 => exact B6x0_); (case side2 => exact B6x1_); rintro e w65 ⟨rfl, hi, hb, hk⟩; refine ⟨_, rfl, ?_⟩; replace BK187 := Aside0.mk (kb hk BK187.out NB187_0.out); replace BK188 := Aside0.mk (kb hk BK188.out NB188_0.out); replace BK201 := Aside0.mk (kb hk BK201.out NB201_0.out); replace BK206 := Aside0.mk (kb hk BK206.out NB206_0.out); replace HK := Aside0.mk (KeepBut.trans B6x2_ hk (.inl rfl)); replace HB := Aside0.mk (hb); replace HI0 := Aside0.mk (hi); (try clear hb hk hi); obtain ⟨hcz66_0, hcz66_1, hcz66_2, hcz66_3, hcz66_4, hcz66_5⟩ := cl6 BK201.out; obtain ⟨hfz66_0, hfz66_1, hfz66_2, hfz66_3, hfz66_4, hfz66_5⟩ := fr6 BK201.out) | (go_at_call 42; (with_reducible refine (spec_l01Once.calls g s0_0 t214 t215 3 true t217 t218 w0 _ ?side1 ?side2 A58.out).mono ?_); (case side1 => exact B6x0_); (case side2 => exact B6x1_); rintro e w67 ⟨rfl, hi, hb, hk⟩; replace BK187 := Aside0.mk (KeepBut.blk hk (g' := gb187) (o := .cells #[.slice A1_0 l1_0.length c1_0, .slice A1_1 l1_1.length c1_1] 47 (0, 0)) B6x7_ NB187_0.out (by simp)); replace BK188 := Aside0.mk (KeepBut.blk hk (g' := gb188) (o := .cells #[.int .i64 0, .int .i64 0, .int .i64 0, .string (⟨#[]⟩ : ByteArray), .string (⟨#[]⟩ : ByteArray), .int .i64 0] 59 (0, 0)) B6x4_ NB188_0.out (by simp)); replace BK201 := Aside0.mk (KeepBut.blk hk (g' := gb201) (o := .cells #[.int .i64 t192, .int .i64 0, .int .i64 0, .string t198, .string x202004_42, .int .i64 (wrap64 (1 + t213))] 59 (0, 0)) B6x9_ NB201_0.out (by simp)); replace BK206 := Aside0.mk (KeepBut.blk hk (g' := gb206) (o := .cells #[.string t202, .string t203, .int .i64 t204] 81 (0, 0)) B6x11_ NB206_0.out (by simp)); replace HK := Aside0.mk (KeepBut.trans B6x2_ hk (.inl rfl)); replace HB := Aside0.mk (hb); replace HI0 := Aside0.mk (hi); (try clear hb hk hi); obtain ⟨hcz68_0, hcz68_1, hcz68_2, hcz68_3, hcz68_4, hcz68_5⟩ := cl6 BK201.out; obtain ⟨hfz68_0, hfz68_1, hfz68_2, hfz68_3, hfz68_4, hfz68_5⟩ := fr6 BK201.out; have hnb69 := NB188_187.out; have hnc69 := NB187_188.out; have hnb70 := NB188_206.out; have hnc70 := NB206_188.out; have hnb71 := NB188_0.out; have hnc71 := NB0_188.out; obtain ⟨hcz72_0, hcz72_1, hcz72_2, hcz72_3, hcz72_4, hcz72_5⟩ := cl6 BK188.out; obtain ⟨hfz72_0, hfz72_1, hfz72_2, hfz72_3, hfz72_4, hfz72_5⟩ := fr6 BK188.out))
        refine bodyPost_ret (results_cell_row rfl _ _ gb188 59 #[.int .i64 t192, .int .i64 0, .int .i64 0, .string t198, .string x202004_42, .int .i64 (wrap64 (1 + t213))] (0, 0) _ rfl B6x19_ Try.underlying59 rfl B6x23_) rfl ?_
        exact ⟨B6x17_, B6x0_, B6x1_, B6x2_⟩
       ·replace c59 := Bool.eq_false_iff.mpr c59
        subst c59
        rw [if_neg (show ¬ (false = true) by decide)] at H
        simp only [Option.some.injEq, Prod.mk.injEq] at H
        obtain ⟨rfl, rfl, rfl, rfl, rfl, rfl, rfl, rfl⟩ := H
        have hnb73 := NB201_187.out
        have hnc73 := NB187_201.out
        have hnb74 := NB201_188.out
        have hnc74 := NB188_201.out
        have hnb75 := NB201_206.out
        have hnc75 := NB206_201.out
        have hnb76 := NB201_0.out
        have hnc76 := NB0_201.out
        obtain ⟨hcz77_0, hcz77_1, hcz77_2, hcz77_3, hcz77_4, hcz77_5⟩ := cl6 BK201.out
        obtain ⟨hfz77_0, hfz77_1, hfz77_2, hfz77_3, hfz77_4, hfz77_5⟩ := fr6 BK201.out
        go_wp2_with (first | ((with_reducible refine gate_callee (f := 41) rfl ?_); refine goesL_ (some 38) rfl rfl Try.func41 B6x23_ rfl #[.pointer (some ⟨g, 0, none⟩), .int .i64 20] rfl B6x8_ ?_; (with_reducible refine (spec_l01Below.calls g s0_0 x1001_42 x1002_42 20 t213 t214 t215 w0 _ ?side1 ?side2 A56.out).mono ?_); (case side1 => exact B6x0_); (case side2 => exact B6x1_); rintro e w78 ⟨rfl, hi, hb, hk⟩; refine ⟨_, rfl, ?_⟩; replace BK187 := Aside0.mk (kb hk BK187.out NB187_0.out); replace BK188 := Aside0.mk (kb hk BK188.out NB188_0.out); replace BK201 := Aside0.mk (kb hk BK201.out NB201_0.out); replace BK206 := Aside0.mk (kb hk BK206.out NB206_0.out); replace HK := Aside0.mk (KeepBut.trans B6x2_ hk (.inl rfl)); replace HB := Aside0.mk (hb); replace HI0 := Aside0.mk (hi); (try clear hb hk hi); obtain ⟨hcz79_0, hcz79_1, hcz79_2, hcz79_3, hcz79_4, hcz79_5⟩ := cl6 BK201.out; obtain ⟨hfz79_0, hfz79_1, hfz79_2, hfz79_3, hfz79_4, hfz79_5⟩ := fr6 BK201.out) | (go_at_call 42; (with_reducible refine (spec_l01Once.calls g s0_0 t214 t215 3 false t217 t218 w0 _ ?side1 ?side2 A58.out).mono ?_); (case side1 => exact B6x0_); (case side2 => exact B6x1_); rintro e w80 ⟨rfl, hi, hb, hk⟩; replace BK187 := Aside0.mk (KeepBut.blk hk (g' := gb187) (o := .cells #[.slice A1_0 l1_0.length c1_0, .slice A1_1 l1_1.length c1_1] 47 (0, 0)) B6x7_ NB187_0.out (by simp)); replace BK188 := Aside0.mk (KeepBut.blk hk (g' := gb188) (o := .cells #[.int .i64 0, .int .i64 0, .int .i64 0, .string (⟨#[]⟩ : ByteArray), .string (⟨#[]⟩ : ByteArray), .int .i64 0] 59 (0, 0)) B6x4_ NB188_0.out (by simp)); replace BK201 := Aside0.mk (KeepBut.blk hk (g' := gb201) (o := .cells #[.int .i64 t192, .int .i64 0, .int .i64 0, .string t198, .string x202004_42, .int .i64 (wrap64 (1 + t213))] 59 (0, 0)) B6x9_ NB201_0.out (by simp)); replace BK206 := Aside0.mk (KeepBut.blk hk (g' := gb206) (o := .cells #[.string t202, .string t203, .int .i64 t204] 81 (0, 0)) B6x11_ NB206_0.out (by simp)); replace HK := Aside0.mk (KeepBut.trans B6x2_ hk (.inl rfl)); replace HB := Aside0.mk (hb); replace HI0 := Aside0.mk (hi); (try clear hb hk hi); have hnb81 := NB206_187.out; have hnc81 := NB187_206.out; have hnb82 := NB206_188.out; have hnc82 := NB188_206.out; have hnb83 := NB206_0.out; have hnc83 := NB0_206.out; obtain ⟨hcz84_0, hcz84_1, hcz84_2⟩ := cl3 BK206.out; obtain ⟨hfz84_0, hfz84_1, hfz84_2⟩ := fr3 BK206.out; obtain ⟨hcz85_0, hcz85_1, hcz85_2, hcz85_3, hcz85_4, hcz85_5⟩ := cl6 BK201.out; obtain ⟨hfz85_0, hfz85_1, hfz85_2, hfz85_3, hfz85_4, hfz85_5⟩ := fr6 BK201.out; have hnb86 := NB188_187.out; have hnc86 := NB187_188.out; have hnb87 := NB188_0.out; have hnc87 := NB0_188.out; obtain ⟨hcz88_0, hcz88_1, hcz88_2, hcz88_3, hcz88_4, hcz88_5⟩ := cl6 BK188.out; obtain ⟨hfz88_0, hfz88_1, hfz88_2, hfz88_3, hfz88_4, hfz88_5⟩ := fr6 BK188.out))
        refine bodyPost_ret (results_cell_row rfl _ _ gb188 59 #[.int .i64 t192, .int .i64 0, .int .i64 0, .string t198, .string x202004_42, .int .i64 t204] (0, 0) _ rfl B6x4_ Try.underlying59 rfl B6x23_) rfl ?_
        exact ⟨B6x17_, B6x0_, B6x1_, B6x2_⟩
      ·replace c57 := Bool.eq_false_iff.mpr c57
       subst c57
       rw [if_neg (show ¬ (false = true) by decide)] at H
       simp only [Option.some.injEq, Prod.mk.injEq] at H
       obtain ⟨rfl, rfl, rfl, rfl, rfl, rfl, rfl, rfl⟩ := H
       have hnb89 := NB201_187.out
       have hnc89 := NB187_201.out
       have hnb90 := NB201_188.out
       have hnc90 := NB188_201.out
       have hnb91 := NB201_206.out
       have hnc91 := NB206_201.out
       have hnb92 := NB201_0.out
       have hnc92 := NB0_201.out
       obtain ⟨hcz93_0, hcz93_1, hcz93_2, hcz93_3, hcz93_4, hcz93_5⟩ := cl6 BK201.out
       obtain ⟨hfz93_0, hfz93_1, hfz93_2, hfz93_3, hfz93_4, hfz93_5⟩ := fr6 BK201.out
       go_wp2_with (first | ((with_reducible refine gate_callee (f := 41) rfl ?_); refine goesL_ (some 38) rfl rfl Try.func41 B6x23_ rfl #[.pointer (some ⟨g, 0, none⟩), .int .i64 20] rfl B6x8_ ?_; (with_reducible refine (spec_l01Below.calls g s0_0 x1001_42 x1002_42 20 t213 t214 t215 w0 _ ?side1 ?side2 A56.out).mono ?_); (case side1 => exact B6x0_); (case side2 => exact B6x1_); rintro e w94 ⟨rfl, hi, hb, hk⟩; refine ⟨_, rfl, ?_⟩; replace BK187 := Aside0.mk (kb hk BK187.out NB187_0.out); replace BK188 := Aside0.mk (kb hk BK188.out NB188_0.out); replace BK201 := Aside0.mk (kb hk BK201.out NB201_0.out); replace BK206 := Aside0.mk (kb hk BK206.out NB206_0.out); replace HK := Aside0.mk (KeepBut.trans B6x2_ hk (.inl rfl)); replace HB := Aside0.mk (hb); replace HI0 := Aside0.mk (hi); (try clear hb hk hi); obtain ⟨hcz95_0, hcz95_1, hcz95_2, hcz95_3, hcz95_4, hcz95_5⟩ := cl6 BK201.out; obtain ⟨hfz95_0, hfz95_1, hfz95_2, hfz95_3, hfz95_4, hfz95_5⟩ := fr6 BK201.out; have hnb96 := NB188_187.out; have hnc96 := NB187_188.out; have hnb97 := NB188_206.out; have hnc97 := NB206_188.out; have hnb98 := NB188_0.out; have hnc98 := NB0_188.out; obtain ⟨hcz99_0, hcz99_1, hcz99_2, hcz99_3, hcz99_4, hcz99_5⟩ := cl6 BK188.out; obtain ⟨hfz99_0, hfz99_1, hfz99_2, hfz99_3, hfz99_4, hfz99_5⟩ := fr6 BK188.out))
       refine bodyPost_ret (results_cell_row rfl _ _ gb188 59 #[.int .i64 t192, .int .i64 0, .int .i64 0, .string t198, .string x202004_42, .int .i64 (wrap64 (1 + t213))] (0, 0) _ rfl B6x4_ Try.underlying59 rfl B6x23_) rfl ?_
       exact ⟨B6x17_, B6x0_, B6x1_, B6x2_⟩
     ·rw [if_neg c55] at H
      have c55b0 := beq_eq_false_iff_ne.mpr c55
      have c55b1 := bne_iff_ne.mpr c55
      simp only [Option.some.injEq, Prod.mk.injEq] at H
      obtain ⟨rfl, rfl, rfl, rfl, rfl, rfl, rfl, rfl⟩ := H
      have hnb100 := NB201_187.out
      have hnc100 := NB187_201.out
      have hnb101 := NB201_188.out
      have hnc101 := NB188_201.out
      have hnb102 := NB201_206.out
      have hnc102 := NB206_201.out
      have hnb103 := NB201_0.out
      have hnc103 := NB0_201.out
      obtain ⟨hcz104_0, hcz104_1, hcz104_2, hcz104_3, hcz104_4, hcz104_5⟩ := cl6 BK201.out
      obtain ⟨hfz104_0, hfz104_1, hfz104_2, hfz104_3, hfz104_4, hfz104_5⟩ := fr6 BK201.out
      have hnb105 := NB188_187.out
      have hnc105 := NB187_188.out
      have hnb106 := NB188_206.out
      have hnc106 := NB206_188.out
      have hnb107 := NB188_0.out
      have hnc107 := NB0_188.out
      obtain ⟨hcz108_0, hcz108_1, hcz108_2, hcz108_3, hcz108_4, hcz108_5⟩ := cl6 BK188.out
      obtain ⟨hfz108_0, hfz108_1, hfz108_2, hfz108_3, hfz108_4, hfz108_5⟩ := fr6 BK188.out
      go_wp2
      refine bodyPost_ret (results_cell_row rfl _ _ gb188 59 #[.int .i64 t192, .int .i64 0, .int .i64 0, .string t198, .string x202004_42, .int .i64 0] (0, 0) _ rfl B6x19_ Try.underlying59 rfl B6x23_) rfl ?_
      exact ⟨B6x17_, B6x0_, B6x1_, B6x2_⟩

end Go.Proofs.Ytgffdijodnpolaa.QFnPuts
