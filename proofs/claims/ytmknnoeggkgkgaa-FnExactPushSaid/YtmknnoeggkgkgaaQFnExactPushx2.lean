/- Functions that a law reaches, as functions of Lean, and the walks that show that the calls come to their answers: written by a program of this project out of the translation. No condition. -/
import Derived.Test.YtmknnoeggkgkgaaQFnExactPushx0
import Derived.Test.YtmknnoeggkgkgaaQFnExactPushx1
import Derived.Test.YtmknnoeggkgkgaaVFnExactPushShort4
import Derived.Test.YtmknnoeggkgkgaaVFnExactPushhort3
import Derived.Test.YtmknnoeggkgkgaaVFnExactPushShort2
import Derived.Test.YtmknnoeggkgkgaaVFnExactPushShort
namespace Go.Proofs.Ytmknnoeggkgkgaa.QFnExactPush
open Go.RowKit Go.Proofs.YtmknnoeggkgkgaaW.PrintWords Go.Proofs.YtmknnoeggkgkgaaW.PrintLast Go.Proofs.YtmknnoeggkgkgaaW.PrintMore Go.Proofs.Ytmknnoeggkgkgaa.Short
attribute [local go_sem] max2_int min2_int max_two min_two max_three min_three max_four min_four   -- for this text's walks alone
set_option linter.unusedVariables false
set_option linter.unusedSimpArgs false

theorem B2x0_ {p : Prop} (h : p := by repeat (first | (with_reducible first | exact HB.out | apply below_alloc | apply pw_below_drewN | apply below_drew1 | refine below_set ?_ GE114.out) | exact HB.out)) : p := h
theorem B2x1_ {p : Prop} (h : p := by (try simp only [List.map_toArray, List.map_cons, List.map_nil]); first | done | rfl | (simp only [List.length_drop, List.length_take]; rfl)) : p := h
theorem B2x2_ {p : Prop} (h : p := by (with_reducible repeat (first | refine blk_drewN ?_ _ | refine blk_drew ?_ | refine blk_alloc ?_ _)); exact BK114.out) : p := h
theorem B2x3_ {p : Prop} (h : p := by have := HJ1.out; first | omega | exact Nat.le_refl _) : p := h
theorem B2x4_ {p : Prop} (h : p := by kernel_rfl) : p := h
theorem B2x5_ {p : Prop} (h : p := by first | (with_reducible assumption) | assumption) : p := h
theorem B2x6_ {p : Prop} (h : p := by first | rfl | (simp [errW_none, errW_some] <;> rfl) | (simp [*, errW_none, errW_some] <;> rfl)) : p := h
theorem B2x7_ {p : Prop} (h : p := by first | omega | exact Nat.le_refl _) : p := h
/-! ### spec_StreamOk: function 68 -/
mutual
def spec_StreamOk.j0 : Nat → Bool → Int → Int → Int → Int → ByteArray → Int → Int → Bool → ByteArray → List (S143) → Bool → Int → Int → Option (Bool)
 | 0, _, _, _, _, _, _, _, _, _, _, _, _, _, _ => none
 | k + 1, x47, x115000, x115001, x115002, x115003, x115004, x115005, x115006, x115007, x115008, x115009, x115010, x115011, x115012 => if x47 = true then (some false) else (if x115006 = 2 then (if x115005 = (x115004.size : Int) then (if x115006 = 3 then (if x115004.toList = ([] : List UInt8) then (if (x115008.size : Int) > 1000 then (spec_StreamOk.j1 k true x115000 x115001 x115002 x115003 x115004 x115005 x115006 x115007 x115008 x115009 x115010 x115011 x115012) else (if (x115009.length : Int) > 8 then (spec_StreamOk.j1 k true x115000 x115001 x115002 x115003 x115004 x115005 x115006 x115007 x115008 x115009 x115010 x115011 x115012) else ((spec_l01In.f x115011 0 1000000000).bind fun t122 => (if t122 = true then ((spec_l01In.f x115012 0 12).bind fun t123 => (spec_StreamOk.j1 k (!t123) x115000 x115001 x115002 x115003 x115004 x115005 x115006 x115007 x115008 x115009 x115010 x115011 x115012)) else (spec_StreamOk.j1 k true x115000 x115001 x115002 x115003 x115004 x115005 x115006 x115007 x115008 x115009 x115010 x115011 x115012))))) else (spec_StreamOk.j1 k true x115000 x115001 x115002 x115003 x115004 x115005 x115006 x115007 x115008 x115009 x115010 x115011 x115012)) else (if (x115008.size : Int) > 1000 then (spec_StreamOk.j1 k true x115000 x115001 x115002 x115003 x115004 x115005 x115006 x115007 x115008 x115009 x115010 x115011 x115012) else (if (x115009.length : Int) > 8 then (spec_StreamOk.j1 k true x115000 x115001 x115002 x115003 x115004 x115005 x115006 x115007 x115008 x115009 x115010 x115011 x115012) else ((spec_l01In.f x115011 0 1000000000).bind fun t124 => (if t124 = true then ((spec_l01In.f x115012 0 12).bind fun t125 => (spec_StreamOk.j1 k (!t125) x115000 x115001 x115002 x115003 x115004 x115005 x115006 x115007 x115008 x115009 x115010 x115011 x115012)) else (spec_StreamOk.j1 k true x115000 x115001 x115002 x115003 x115004 x115005 x115006 x115007 x115008 x115009 x115010 x115011 x115012)))))) else (spec_StreamOk.j1 k true x115000 x115001 x115002 x115003 x115004 x115005 x115006 x115007 x115008 x115009 x115010 x115011 x115012)) else (if x115006 = 3 then (if x115004.toList = ([] : List UInt8) then (if (x115008.size : Int) > 1000 then (spec_StreamOk.j1 k true x115000 x115001 x115002 x115003 x115004 x115005 x115006 x115007 x115008 x115009 x115010 x115011 x115012) else (if (x115009.length : Int) > 8 then (spec_StreamOk.j1 k true x115000 x115001 x115002 x115003 x115004 x115005 x115006 x115007 x115008 x115009 x115010 x115011 x115012) else ((spec_l01In.f x115011 0 1000000000).bind fun t126 => (if t126 = true then ((spec_l01In.f x115012 0 12).bind fun t127 => (spec_StreamOk.j1 k (!t127) x115000 x115001 x115002 x115003 x115004 x115005 x115006 x115007 x115008 x115009 x115010 x115011 x115012)) else (spec_StreamOk.j1 k true x115000 x115001 x115002 x115003 x115004 x115005 x115006 x115007 x115008 x115009 x115010 x115011 x115012))))) else (spec_StreamOk.j1 k true x115000 x115001 x115002 x115003 x115004 x115005 x115006 x115007 x115008 x115009 x115010 x115011 x115012)) else (if (x115008.size : Int) > 1000 then (spec_StreamOk.j1 k true x115000 x115001 x115002 x115003 x115004 x115005 x115006 x115007 x115008 x115009 x115010 x115011 x115012) else (if (x115009.length : Int) > 8 then (spec_StreamOk.j1 k true x115000 x115001 x115002 x115003 x115004 x115005 x115006 x115007 x115008 x115009 x115010 x115011 x115012) else ((spec_l01In.f x115011 0 1000000000).bind fun t128 => (if t128 = true then ((spec_l01In.f x115012 0 12).bind fun t129 => (spec_StreamOk.j1 k (!t129) x115000 x115001 x115002 x115003 x115004 x115005 x115006 x115007 x115008 x115009 x115010 x115011 x115012)) else (spec_StreamOk.j1 k true x115000 x115001 x115002 x115003 x115004 x115005 x115006 x115007 x115008 x115009 x115010 x115011 x115012)))))))
def spec_StreamOk.j1 : Nat → Bool → Int → Int → Int → Int → ByteArray → Int → Int → Bool → ByteArray → List (S143) → Bool → Int → Int → Option (Bool)
 | 0, _, _, _, _, _, _, _, _, _, _, _, _, _, _ => none
 | k + 1, x92, x115000, x115001, x115002, x115003, x115004, x115005, x115006, x115007, x115008, x115009, x115010, x115011, x115012 => if x92 = true then (some false) else (spec_StreamOk.l0 k 0 x115000 x115001 x115002 x115003 x115004 x115005 x115006 x115007 x115008 x115009 x115010 x115011 x115012)
def spec_StreamOk.l0 : Nat → Int → Int → Int → Int → Int → ByteArray → Int → Int → Bool → ByteArray → List (S143) → Bool → Int → Int → Option (Bool)
 | 0, _, _, _, _, _, _, _, _, _, _, _, _, _, _ => none
 | k + 1, x3, x115000, x115001, x115002, x115003, x115004, x115005, x115006, x115007, x115008, x115009, x115010, x115011, x115012 => if x3 < (x115009.length : Int) then (if 0 ≤ x3 then ((spec_l01In.f ((rd_T143 x115009 x3).f0) 0 65535).bind fun t131 => (if t131 = true then ((spec_l01In.f (((rd_T143 x115009 x3).f1).size : Int) 1 8).bind fun t133 => (if t133 = true then (spec_StreamOk.l0 k (wrap64 (x3 + 1)) x115000 x115001 x115002 x115003 x115004 x115005 x115006 x115007 x115008 x115009 x115010 x115011 x115012) else (some false))) else (some false))) else (none)) else (some true)
end
def spec_StreamOk.f (k : Nat) (a0_0 : Int) (a0_1 : Int) (a0_2 : Int) (a0_3 : Int) (a0_4 : ByteArray) (a0_5 : Int) (a0_6 : Int) (a0_7 : Bool) (a0_8 : ByteArray) (l0_9 : List (S143)) (a0_10 : Bool) (a0_11 : Int) (a0_12 : Int) : Option (Bool) := (spec_l01In.f a0_0 0 4).bind fun t115 => (if t115 = true then ((spec_l01In.f a0_1 0 65535).bind fun t116 => (if t116 = true then ((spec_l01In.f a0_2 0 65535).bind fun t117 => (if t117 = true then ((spec_l01In.f a0_3 0 65535).bind fun t118 => (if t118 = true then (if (a0_4.size : Int) > 200 then (spec_StreamOk.j0 k true a0_0 a0_1 a0_2 a0_3 a0_4 a0_5 a0_6 a0_7 a0_8 l0_9 a0_10 a0_11 a0_12) else ((spec_l13Less.f (a0_4.size : Int) 24).bind fun t119 => ((spec_l01In.f a0_5 0 t119).bind fun t120 => (if t120 = true then ((spec_l01In.f a0_6 0 3).bind fun t121 => (spec_StreamOk.j0 k (!t121) a0_0 a0_1 a0_2 a0_3 a0_4 a0_5 a0_6 a0_7 a0_8 l0_9 a0_10 a0_11 a0_12)) else (spec_StreamOk.j0 k true a0_0 a0_1 a0_2 a0_3 a0_4 a0_5 a0_6 a0_7 a0_8 l0_9 a0_10 a0_11 a0_12))))) else (spec_StreamOk.j0 k true a0_0 a0_1 a0_2 a0_3 a0_4 a0_5 a0_6 a0_7 a0_8 l0_9 a0_10 a0_11 a0_12))) else (spec_StreamOk.j0 k true a0_0 a0_1 a0_2 a0_3 a0_4 a0_5 a0_6 a0_7 a0_8 l0_9 a0_10 a0_11 a0_12))) else (spec_StreamOk.j0 k true a0_0 a0_1 a0_2 a0_3 a0_4 a0_5 a0_6 a0_7 a0_8 l0_9 a0_10 a0_11 a0_12))) else (spec_StreamOk.j0 k true a0_0 a0_1 a0_2 a0_3 a0_4 a0_5 a0_6 a0_7 a0_8 l0_9 a0_10 a0_11 a0_12))
theorem spec_StreamOk.mono_l : ∀ k, (∀ y0 y1 y2 y3 y4 y5 y6 y7 y8 y9 y10 y11 y12 y13, LeO (spec_StreamOk.j0 k y0 y1 y2 y3 y4 y5 y6 y7 y8 y9 y10 y11 y12 y13) (spec_StreamOk.j0 (k + 1) y0 y1 y2 y3 y4 y5 y6 y7 y8 y9 y10 y11 y12 y13)) ∧ (∀ y0 y1 y2 y3 y4 y5 y6 y7 y8 y9 y10 y11 y12 y13, LeO (spec_StreamOk.j1 k y0 y1 y2 y3 y4 y5 y6 y7 y8 y9 y10 y11 y12 y13) (spec_StreamOk.j1 (k + 1) y0 y1 y2 y3 y4 y5 y6 y7 y8 y9 y10 y11 y12 y13)) ∧ (∀ y0 y1 y2 y3 y4 y5 y6 y7 y8 y9 y10 y11 y12 y13, LeO (spec_StreamOk.l0 k y0 y1 y2 y3 y4 y5 y6 y7 y8 y9 y10 y11 y12 y13) (spec_StreamOk.l0 (k + 1) y0 y1 y2 y3 y4 y5 y6 y7 y8 y9 y10 y11 y12 y13))
 | 0 => ⟨fun _ _ _ _ _ _ _ _ _ _ _ _ _ _ r h => by simp [spec_StreamOk.j0] at h, fun _ _ _ _ _ _ _ _ _ _ _ _ _ _ r h => by simp [spec_StreamOk.j1] at h, fun _ _ _ _ _ _ _ _ _ _ _ _ _ _ r h => by simp [spec_StreamOk.l0] at h⟩
 | k + 1 => by
  obtain ⟨ih0, ih1, ih2⟩ := spec_StreamOk.mono_l k
  refine ⟨?_, ?_, ?_⟩
  ·intro y0 y1 y2 y3 y4 y5 y6 y7 y8 y9 y10 y11 y12 y13
   unfold spec_StreamOk.j0
   repeat' first
   | (with_reducible exact ih0 _ _ _ _ _ _ _ _ _ _ _ _ _ _)
   | (with_reducible exact ih1 _ _ _ _ _ _ _ _ _ _ _ _ _ _)
   | (with_reducible exact ih2 _ _ _ _ _ _ _ _ _ _ _ _ _ _)
   | (with_reducible first | exact LeO.refl _ | exact LeO.none _ | refine LeO.ite ?_ ?_ | refine LeO.bind ?_ (fun _ => ?_))
   | exact ih0 _ _ _ _ _ _ _ _ _ _ _ _ _ _
   | exact ih1 _ _ _ _ _ _ _ _ _ _ _ _ _ _
   | exact ih2 _ _ _ _ _ _ _ _ _ _ _ _ _ _
  ·intro y0 y1 y2 y3 y4 y5 y6 y7 y8 y9 y10 y11 y12 y13
   unfold spec_StreamOk.j1
   repeat' first
   | (with_reducible exact ih0 _ _ _ _ _ _ _ _ _ _ _ _ _ _)
   | (with_reducible exact ih1 _ _ _ _ _ _ _ _ _ _ _ _ _ _)
   | (with_reducible exact ih2 _ _ _ _ _ _ _ _ _ _ _ _ _ _)
   | (with_reducible first | exact LeO.refl _ | exact LeO.none _ | refine LeO.ite ?_ ?_ | refine LeO.bind ?_ (fun _ => ?_))
   | exact ih0 _ _ _ _ _ _ _ _ _ _ _ _ _ _
   | exact ih1 _ _ _ _ _ _ _ _ _ _ _ _ _ _
   | exact ih2 _ _ _ _ _ _ _ _ _ _ _ _ _ _
  ·intro y0 y1 y2 y3 y4 y5 y6 y7 y8 y9 y10 y11 y12 y13
   unfold spec_StreamOk.l0
   repeat' first
   | (with_reducible exact ih0 _ _ _ _ _ _ _ _ _ _ _ _ _ _)
   | (with_reducible exact ih1 _ _ _ _ _ _ _ _ _ _ _ _ _ _)
   | (with_reducible exact ih2 _ _ _ _ _ _ _ _ _ _ _ _ _ _)
   | (with_reducible first | exact LeO.refl _ | exact LeO.none _ | refine LeO.ite ?_ ?_ | refine LeO.bind ?_ (fun _ => ?_))
   | exact ih0 _ _ _ _ _ _ _ _ _ _ _ _ _ _
   | exact ih1 _ _ _ _ _ _ _ _ _ _ _ _ _ _
   | exact ih2 _ _ _ _ _ _ _ _ _ _ _ _ _ _
theorem spec_StreamOk.mono : ∀ a0 a1 a2 a3 a4 a5 a6 a7 a8 a9 a10 a11 a12 k, LeO (spec_StreamOk.f k a0 a1 a2 a3 a4 a5 a6 a7 a8 a9 a10 a11 a12) (spec_StreamOk.f (k + 1) a0 a1 a2 a3 a4 a5 a6 a7 a8 a9 a10 a11 a12) := by
 intro a0 a1 a2 a3 a4 a5 a6 a7 a8 a9 a10 a11 a12 k
 obtain ⟨ih0, ih1, ih2⟩ := spec_StreamOk.mono_l k
 unfold spec_StreamOk.f
 repeat' first
   | (with_reducible exact ih0 _ _ _ _ _ _ _ _ _ _ _ _ _ _)
   | (with_reducible exact ih1 _ _ _ _ _ _ _ _ _ _ _ _ _ _)
   | (with_reducible exact ih2 _ _ _ _ _ _ _ _ _ _ _ _ _ _)
   | (with_reducible first | exact LeO.refl _ | exact LeO.none _ | refine LeO.ite ?_ ?_ | refine LeO.bind ?_ (fun _ => ?_))
   | exact ih0 _ _ _ _ _ _ _ _ _ _ _ _ _ _
   | exact ih1 _ _ _ _ _ _ _ _ _ _ _ _ _ _
   | exact ih2 _ _ _ _ _ _ _ _ _ _ _ _ _ _
def spec_StreamOk.T1 : Bool × List (List Nat × List Nat) := (true, [([], []), ([0], [0]), ([1], [1]), ([2], [2]), ([3, 2], [3]), ([4], [4]), ([5, 4], [4, 5]), ([6, 4, 4], [4, 6]), ([7, 4], [4, 7]), ([4, 8], [4, 8]), ([9, 7], [9]), ([10], [10]), ([11, 10], [10, 11]), ([12, 10, 10], [10, 12]), ([13, 10], [10, 13]), ([10, 14], [10, 14]), ([15, 13], [15]), ([16], [16]), ([17, 16], [16, 17]), ([18, 16, 16], [16, 18]), ([19, 16], [16, 19]), ([16, 20], [16, 20]), ([21, 19], [21]), ([22], [22]), ([23, 22], [22, 23]), ([24, 22], [22, 24]), ([25, 22], [22, 25]), ([22, 26], [22, 26]), ([27, 22], [27]), ([28], [28]), ([29, 28], [28, 29]), ([28], [28]), ([31, 28], [28, 31]), ([32, 28], [28, 32]), ([33, 28, 28], [28, 33]), ([30, 34, 34, 28], [28, 30, 34]), ([35, 28], [28, 35]), ([28, 36], [28, 36]), ([37, 35], [37]), ([38], [38]), ([39, 38], [38, 39]), ([40, 38, 38], [38, 40]), ([41, 38], [38, 41]), ([38, 42], [38, 42])])
def spec_StreamOk.B1 : List Nat := [0, 1, 3, 7, 15, 31, 63, 127, 255, 511, 1023, 2047, 4095, 8191, 16383, 32767, 65535, 131071, 262143, 524287, 1048575, 2097151, 4194303, 8388607, 16777215, 33554431, 67108863, 134217727, 268435455, 536870911, 1073741823, 536870911, 2684354559, 6979321855, 15569256447, 34359738367, 68719476735, 137438953471, 274877906943, 549755813887, 1099511627775, 2199023255551, 4398046511103, 8796093022207]
theorem spec_StreamOk.tab1 : rtab .any (opsOf Try.f68 1) = spec_StreamOk.T1 := by kernel_rfl
theorem spec_StreamOk.bits1 : waitsOk spec_StreamOk.T1.2 spec_StreamOk.B1 = true := by kernel_rfl
set_option maxHeartbeats 8000000 in
set_option maxRecDepth 100000 in
theorem spec_StreamOk.calls (k : Nat) (a0_0 : Int) (a0_1 : Int) (a0_2 : Int) (a0_3 : Int) (a0_4 : ByteArray) (a0_5 : Int) (a0_6 : Int) (a0_7 : Bool) (a0_8 : ByteArray) (A0_9 : Option Addr) (c0_9 : Nat) (l0_9 : List (S143)) (a0_10 : Bool) (a0_11 : Int) (a0_12 : Int) (r : Bool) (w : World) (hr0_9 : Kd.C k143 w A0_9 l0_9.length l0_9) (hc0_9 : l0_9.length ≤ c0_9) (h : spec_StreamOk.f k a0_0 a0_1 a0_2 a0_3 a0_4 a0_5 a0_6 a0_7 a0_8 l0_9 a0_10 a0_11 a0_12 = some r) :
  Calls Try.prog 68 #[.agg #[.int .i64 a0_0, .int .i64 a0_1, .int .i64 a0_2, .int .i64 a0_3, .string a0_4, .int .i64 a0_5, .int .i64 a0_6, .bool a0_7, .string a0_8, .slice A0_9 l0_9.length c0_9, .bool a0_10, .int .i64 a0_11, .int .i64 a0_12]] w fun e w' => e = .returned (.bool r) ∧ Below w.heap.size w w' := by
 have hu39 := Try.underlying39
 have HR0_9 := Aside0.mk hr0_9
 have HC0_9 := Aside0.mk hc0_9
 clear hr0_9 hc0_9
 have HB := Aside0.mk (Below.refl w.heap.size w)
 have H : ((spec_l01In.f a0_0 0 4).bind fun t115 => (if t115 = true then ((spec_l01In.f a0_1 0 65535).bind fun t116 => (if t116 = true then ((spec_l01In.f a0_2 0 65535).bind fun t117 => (if t117 = true then ((spec_l01In.f a0_3 0 65535).bind fun t118 => (if t118 = true then (if (a0_4.size : Int) > 200 then (spec_StreamOk.j0 k true a0_0 a0_1 a0_2 a0_3 a0_4 a0_5 a0_6 a0_7 a0_8 l0_9 a0_10 a0_11 a0_12) else ((spec_l13Less.f (a0_4.size : Int) 24).bind fun t119 => ((spec_l01In.f a0_5 0 t119).bind fun t120 => (if t120 = true then ((spec_l01In.f a0_6 0 3).bind fun t121 => (spec_StreamOk.j0 k (!t121) a0_0 a0_1 a0_2 a0_3 a0_4 a0_5 a0_6 a0_7 a0_8 l0_9 a0_10 a0_11 a0_12)) else (spec_StreamOk.j0 k true a0_0 a0_1 a0_2 a0_3 a0_4 a0_5 a0_6 a0_7 a0_8 l0_9 a0_10 a0_11 a0_12))))) else (spec_StreamOk.j0 k true a0_0 a0_1 a0_2 a0_3 a0_4 a0_5 a0_6 a0_7 a0_8 l0_9 a0_10 a0_11 a0_12))) else (spec_StreamOk.j0 k true a0_0 a0_1 a0_2 a0_3 a0_4 a0_5 a0_6 a0_7 a0_8 l0_9 a0_10 a0_11 a0_12))) else (spec_StreamOk.j0 k true a0_0 a0_1 a0_2 a0_3 a0_4 a0_5 a0_6 a0_7 a0_8 l0_9 a0_10 a0_11 a0_12))) else (spec_StreamOk.j0 k true a0_0 a0_1 a0_2 a0_3 a0_4 a0_5 a0_6 a0_7 a0_8 l0_9 a0_10 a0_11 a0_12))) = some r := h
 clear h
 have HC2 := Aside0.mk H
 clear H
 go_enter Try.func68, Try.ntmps68
 go_upto_region 1 with (first | ((with_reducible refine gate_dst (N := 1) rfl ?_); (try (refine gate_guard (by rfl) ?_; dsimp only)); refine box_event ?hg (N := 1) ?hd (cs := #[.int .i64 a0_0, .int .i64 a0_1, .int .i64 a0_2, .int .i64 a0_3, .string a0_4, .int .i64 a0_5, .int .i64 a0_6, .bool a0_7, .string a0_8, .slice A0_9 l0_9.length c0_9, .bool a0_10, .int .i64 a0_11, .int .i64 a0_12]) (t := 39) ?hr ?_; (case hd => rfl); (case hg => rfl); (case hr => first | (go_simp; done) | (go_simp; rfl)); intro gb114 hg w3 hbox hb; have BK114 := Aside0.mk (hbox); have GW114 := Aside0.mk ((bs hg (below_size HB.out))); have GE114 := Aside0.mk ((bs hg (below_size HB.out))); replace HB := Aside0.mk (below_step (by repeat (first | (with_reducible first | exact HB.out | apply below_alloc | apply pw_below_drewN | apply below_drew1) | exact HB.out)) hb); clear hb hbox hg))
 (try simp only [Act.put, List.setIfInBounds_toArray, List.set_cons_zero, List.set_cons_succ])
 go_cut [47] (fun v47 wc => ∃ (kq : Nat) (x47_1 : Bool), v47 = .bool x47_1 ∧ Aside0 (spec_StreamOk.j0 kq x47_1 a0_0 a0_1 a0_2 a0_3 a0_4 a0_5 a0_6 a0_7 a0_8 l0_9 a0_10 a0_11 a0_12 = some r) ∧ Aside0 (kq ≤ k) ∧ Aside0 (wc.heap[gb114]? = some (.cells #[.int .i64 a0_0, .int .i64 a0_1, .int .i64 a0_2, .int .i64 a0_3, .string a0_4, .int .i64 a0_5, .int .i64 a0_6, .bool a0_7, .string a0_8, (.slice A0_9 l0_9.length c0_9), .bool a0_10, .int .i64 a0_11, .int .i64 a0_12] 39 (0, 0))) ∧ Aside0 (Below w.heap.size w wc))
 case first =>
  have H := HC2.out
  clear HC2
  replace H := bsi H
  obtain ⟨t115, A4, H⟩ := H
  (try dsimp only at H)
  by_cases c5 : t115 = true
  ·subst c5
   rw [if_pos rfl] at H
   replace H := bsi H
   obtain ⟨t116, A6, H⟩ := H
   (try dsimp only at H)
   by_cases c7 : t116 = true
   ·subst c7
    rw [if_pos rfl] at H
    replace H := bsi H
    obtain ⟨t117, A8, H⟩ := H
    (try dsimp only at H)
    by_cases c9 : t117 = true
    ·subst c9
     rw [if_pos rfl] at H
     replace H := bsi H
     obtain ⟨t118, A10, H⟩ := H
     (try dsimp only at H)
     by_cases c11 : t118 = true
     ·subst c11
      rw [if_pos rfl] at H
      by_cases c12 : (a0_4.size : Int) > 200
      ·rw [if_pos c12] at H
       have c12b0 : decide (200 < (a0_4.size : Int)) = true := decide_eq_true c12
       have c12b1 : decide (200 < a0_4.size) = true := decide_eq_true (by omega)
       clear c12
       (first | rw [c12b0] | (simp only [i64_w, i32_w]; rw [c12b0]) | skip)
       have H' := Aside0.mk H
       clear H
       try go_wp2
       replace BK114 := Aside0.mk (blk_drew BK114.out)
       replace HB := Aside0.mk (below_drew1 HB.out)
       refine start_ (n := 44) (S := fun w' => w'.cell? ⟨gb114, 0, none⟩ = some (.int .i64 a0_0) ∧ w'.cell? ⟨gb114, 1, none⟩ = some (.int .i64 a0_1) ∧ w'.cell? ⟨gb114, 2, none⟩ = some (.int .i64 a0_2) ∧ w'.cell? ⟨gb114, 3, none⟩ = some (.int .i64 a0_3) ∧ w'.cell? ⟨gb114, 4, none⟩ = some (.string a0_4) ∧ w'.cell? ⟨gb114, 5, none⟩ = some (.int .i64 a0_5) ∧ w'.cell? ⟨gb114, 6, none⟩ = some (.int .i64 a0_6) ∧ w'.cell? ⟨gb114, 7, none⟩ = some (.bool a0_7) ∧ w'.cell? ⟨gb114, 8, none⟩ = some (.string a0_8) ∧ w'.cell? ⟨gb114, 9, none⟩ = some (.slice A0_9 l0_9.length c0_9) ∧ w'.cell? ⟨gb114, 10, none⟩ = some (.bool a0_10) ∧ w'.cell? ⟨gb114, 11, none⟩ = some (.int .i64 a0_11) ∧ w'.cell? ⟨gb114, 12, none⟩ = some (.int .i64 a0_12)) (ds := []) #[false, false, false, false, false, false, false, false, false, false, false, false, false, false, false, false, false, false, false, false, false, false, false, false, false, false, false, false, false, false, false, false, false, false, false, false, false, false, false, false, false, false, false, false] B2x4_ rfl rfl ⟨(blk_cell BK114.out 0).trans rfl, (blk_cell BK114.out 1).trans rfl, (blk_cell BK114.out 2).trans rfl, (blk_cell BK114.out 3).trans rfl, (blk_cell BK114.out 4).trans rfl, (blk_cell BK114.out 5).trans rfl, (blk_cell BK114.out 6).trans rfl, (blk_cell BK114.out 7).trans rfl, (blk_cell BK114.out 8).trans rfl, (blk_cell BK114.out 9).trans rfl, (blk_cell BK114.out 10).trans rfl, (blk_cell BK114.out 11).trans rfl, (blk_cell BK114.out 12).trans rfl⟩ (fun hHeld => ?_); refine with_tabW spec_StreamOk.tab1 spec_StreamOk.bits1 (fun HT_ HW_ => ?_)
       generalize w3.drew = w13 at BK114 HB hHeld ⊢
       refine pu_ 0 4 HT_ ?_
       refine ta_ 1 5 HT_ HW_ hHeld ?_
       refine one_ (i := 2) (N := some 6) #[true, true, true, false, false, false, false, false, false, false, false, false, false, false, false, false, false, false, false, false, false, false, false, false, false, false, false, false, false, false, false, false, false, false, false, false, false, false, false, false, false, false, false, false] rfl rfl (one_of HT_.out B2x4_) (by decide) (fun K hK => ?_)
       refine goes_ Try.func69 B2x4_ rfl #[.int .i64 a0_0, .int .i64 0, .int .i64 4] (by rfl) rfl rfl B2x1_ ?_
       with_reducible refine (spec_l01In.calls a0_0 0 4 true _ A4.out).mono ?_
       rintro e w' ⟨rfl, ⟨nd, rfl⟩⟩
       refine ⟨_, rfl, ?_⟩
       refine hK.out _ _ ⟨(blk_cell BK114.out 0).trans rfl, (blk_cell BK114.out 1).trans rfl, (blk_cell BK114.out 2).trans rfl, (blk_cell BK114.out 3).trans rfl, (blk_cell BK114.out 4).trans rfl, (blk_cell BK114.out 5).trans rfl, (blk_cell BK114.out 6).trans rfl, (blk_cell BK114.out 7).trans rfl, (blk_cell BK114.out 8).trans rfl, (blk_cell BK114.out 9).trans rfl, (blk_cell BK114.out 10).trans rfl, (blk_cell BK114.out 11).trans rfl, (blk_cell BK114.out 12).trans rfl⟩ (fun hHeld => ?_)
       clear hK K
       refine norm_ (a' := ?_) ?_ ?_
       rotate_left
       ·show Act.put _ (some 6) _ = _
        simp only [Act.put, List.setIfInBounds_toArray, List.set_cons_zero, List.set_cons_succ, i64_w, i32_w]
        rfl
       refine pu_ 3 7 HT_ ?_
       refine pu_ 4 8 HT_ ?_
       refine pu_ 5 9 HT_ ?_
       refine ta_ 6 10 HT_ HW_ hHeld ?_
       refine one_ (i := 7) (N := some 11) #[true, true, true, true, true, true, true, true, false, false, false, false, false, false, false, false, false, false, false, false, false, false, false, false, false, false, false, false, false, false, false, false, false, false, false, false, false, false, false, false, false, false, false, false] rfl rfl (one_of HT_.out B2x4_) (by decide) (fun K hK => ?_)
       refine goes_ Try.func69 B2x4_ rfl #[.int .i64 a0_1, .int .i64 0, .int .i64 65535] (by rfl) rfl rfl B2x1_ ?_
       with_reducible refine (spec_l01In.calls a0_1 0 65535 true _ A6.out).mono ?_
       rintro e w' ⟨rfl, ⟨nd, rfl⟩⟩
       refine ⟨_, rfl, ?_⟩
       refine hK.out _ _ ⟨(blk_cell BK114.out 0).trans rfl, (blk_cell BK114.out 1).trans rfl, (blk_cell BK114.out 2).trans rfl, (blk_cell BK114.out 3).trans rfl, (blk_cell BK114.out 4).trans rfl, (blk_cell BK114.out 5).trans rfl, (blk_cell BK114.out 6).trans rfl, (blk_cell BK114.out 7).trans rfl, (blk_cell BK114.out 8).trans rfl, (blk_cell BK114.out 9).trans rfl, (blk_cell BK114.out 10).trans rfl, (blk_cell BK114.out 11).trans rfl, (blk_cell BK114.out 12).trans rfl⟩ (fun hHeld => ?_)
       clear hK K
       refine norm_ (a' := ?_) ?_ ?_
       rotate_left
       ·show Act.put _ (some 11) _ = _
        simp only [Act.put, List.setIfInBounds_toArray, List.set_cons_zero, List.set_cons_succ, i64_w, i32_w]
        rfl
       refine pu_ 8 12 HT_ ?_
       refine pu_ 9 13 HT_ ?_
       refine pu_ 10 14 HT_ ?_
       refine pu_ 11 15 HT_ ?_
       refine ta_ 12 16 HT_ HW_ hHeld ?_
       refine one_ (i := 13) (N := some 17) #[true, true, true, true, true, true, true, true, true, true, true, true, true, true, false, false, false, false, false, false, false, false, false, false, false, false, false, false, false, false, false, false, false, false, false, false, false, false, false, false, false, false, false, false] rfl rfl (one_of HT_.out B2x4_) (by decide) (fun K hK => ?_)
       refine goes_ Try.func69 B2x4_ rfl #[.int .i64 a0_2, .int .i64 0, .int .i64 65535] (by rfl) rfl rfl B2x1_ ?_
       with_reducible refine (spec_l01In.calls a0_2 0 65535 true _ A8.out).mono ?_
       rintro e w' ⟨rfl, ⟨nd, rfl⟩⟩
       refine ⟨_, rfl, ?_⟩
       refine hK.out _ _ ⟨(blk_cell BK114.out 0).trans rfl, (blk_cell BK114.out 1).trans rfl, (blk_cell BK114.out 2).trans rfl, (blk_cell BK114.out 3).trans rfl, (blk_cell BK114.out 4).trans rfl, (blk_cell BK114.out 5).trans rfl, (blk_cell BK114.out 6).trans rfl, (blk_cell BK114.out 7).trans rfl, (blk_cell BK114.out 8).trans rfl, (blk_cell BK114.out 9).trans rfl, (blk_cell BK114.out 10).trans rfl, (blk_cell BK114.out 11).trans rfl, (blk_cell BK114.out 12).trans rfl⟩ (fun hHeld => ?_)
       clear hK K
       refine norm_ (a' := ?_) ?_ ?_
       rotate_left
       ·show Act.put _ (some 17) _ = _
        simp only [Act.put, List.setIfInBounds_toArray, List.set_cons_zero, List.set_cons_succ, i64_w, i32_w]
        rfl
       refine pu_ 14 18 HT_ ?_
       refine pu_ 15 19 HT_ ?_
       refine pu_ 16 20 HT_ ?_
       refine pu_ 17 21 HT_ ?_
       refine ta_ 18 22 HT_ HW_ hHeld ?_
       refine one_ (i := 19) (N := some 23) #[true, true, true, true, true, true, true, true, true, true, true, true, true, true, true, true, true, true, true, true, false, false, false, false, false, false, false, false, false, false, false, false, false, false, false, false, false, false, false, false, false, false, false, false] rfl rfl (one_of HT_.out B2x4_) (by decide) (fun K hK => ?_)
       refine goes_ Try.func69 B2x4_ rfl #[.int .i64 a0_3, .int .i64 0, .int .i64 65535] (by rfl) rfl rfl B2x1_ ?_
       with_reducible refine (spec_l01In.calls a0_3 0 65535 true _ A10.out).mono ?_
       rintro e w' ⟨rfl, ⟨nd, rfl⟩⟩
       refine ⟨_, rfl, ?_⟩
       refine hK.out _ _ ⟨(blk_cell BK114.out 0).trans rfl, (blk_cell BK114.out 1).trans rfl, (blk_cell BK114.out 2).trans rfl, (blk_cell BK114.out 3).trans rfl, (blk_cell BK114.out 4).trans rfl, (blk_cell BK114.out 5).trans rfl, (blk_cell BK114.out 6).trans rfl, (blk_cell BK114.out 7).trans rfl, (blk_cell BK114.out 8).trans rfl, (blk_cell BK114.out 9).trans rfl, (blk_cell BK114.out 10).trans rfl, (blk_cell BK114.out 11).trans rfl, (blk_cell BK114.out 12).trans rfl⟩ (fun hHeld => ?_)
       clear hK K
       refine norm_ (a' := ?_) ?_ ?_
       rotate_left
       ·show Act.put _ (some 23) _ = _
        simp only [Act.put, List.setIfInBounds_toArray, List.set_cons_zero, List.set_cons_succ, i64_w, i32_w]
        rfl
       refine pu_ 20 24 HT_ ?_
       refine pu_ 21 25 HT_ ?_
       refine pu_ 22 26 HT_ ?_
       refine pu_ 23 27 HT_ ?_
       refine ta_ 24 28 HT_ HW_ hHeld ?_
       refine pu_ 25 29 HT_ ?_
       refine pu_ 26 30 HT_ ?_
       refine pu_ 27 31 HT_ ?_
       refine pu_ 28 32 HT_ ?_
       refine of_ 29 33 HT_ ?_
       refine of_ 30 34 HT_ ?_
       refine of_ 31 35 HT_ ?_
       refine of_ 32 36 HT_ ?_
       refine of_ 33 37 HT_ ?_
       refine of_ 34 38 HT_ ?_
       refine of_ 35 39 HT_ ?_
       refine of_ 36 40 HT_ ?_
       refine pu_ 37 41 HT_ ?_
       refine pu_ 38 42 HT_ ?_
       refine of_ 39 43 HT_ ?_
       refine of_ 40 44 HT_ ?_
       refine of_ 41 45 HT_ ?_
       refine of_ 42 46 HT_ ?_
       refine pu_ 43 47 HT_ ?_
       refine done_ (done_of HT_.out B2x4_) ?_
       try go_wp2
       go_meet
       case rel => exact ⟨_, (true), (be_), H', ⟨B2x7_⟩, ⟨B2x2_⟩, ⟨B2x0_⟩⟩
      ·rw [if_neg c12] at H
       have c12b0 : decide (200 < (a0_4.size : Int)) = false := decide_eq_false c12
       have c12b1 : decide (200 < a0_4.size) = false := decide_eq_false (by omega)
       clear c12
       (first | rw [c12b0] | (simp only [i64_w, i32_w]; rw [c12b0]) | skip)
       replace H := bsi H
       obtain ⟨t119, A14, H⟩ := H
       (try dsimp only at H)
       replace H := bsi H
       obtain ⟨t120, A15, H⟩ := H
       (try dsimp only at H)
       by_cases c16 : t120 = true
       ·subst c16
        rw [if_pos rfl] at H
        replace H := bsi H
        obtain ⟨t121, A17, H⟩ := H
        (try dsimp only at H)
        have H' := Aside0.mk H
        clear H
        try go_wp2
        replace BK114 := Aside0.mk (blk_drew BK114.out)
        replace HB := Aside0.mk (below_drew1 HB.out)
        refine start_ (n := 44) (S := fun w' => w'.cell? ⟨gb114, 0, none⟩ = some (.int .i64 a0_0) ∧ w'.cell? ⟨gb114, 1, none⟩ = some (.int .i64 a0_1) ∧ w'.cell? ⟨gb114, 2, none⟩ = some (.int .i64 a0_2) ∧ w'.cell? ⟨gb114, 3, none⟩ = some (.int .i64 a0_3) ∧ w'.cell? ⟨gb114, 4, none⟩ = some (.string a0_4) ∧ w'.cell? ⟨gb114, 5, none⟩ = some (.int .i64 a0_5) ∧ w'.cell? ⟨gb114, 6, none⟩ = some (.int .i64 a0_6) ∧ w'.cell? ⟨gb114, 7, none⟩ = some (.bool a0_7) ∧ w'.cell? ⟨gb114, 8, none⟩ = some (.string a0_8) ∧ w'.cell? ⟨gb114, 9, none⟩ = some (.slice A0_9 l0_9.length c0_9) ∧ w'.cell? ⟨gb114, 10, none⟩ = some (.bool a0_10) ∧ w'.cell? ⟨gb114, 11, none⟩ = some (.int .i64 a0_11) ∧ w'.cell? ⟨gb114, 12, none⟩ = some (.int .i64 a0_12)) (ds := []) #[false, false, false, false, false, false, false, false, false, false, false, false, false, false, false, false, false, false, false, false, false, false, false, false, false, false, false, false, false, false, false, false, false, false, false, false, false, false, false, false, false, false, false, false] B2x4_ rfl rfl ⟨(blk_cell BK114.out 0).trans rfl, (blk_cell BK114.out 1).trans rfl, (blk_cell BK114.out 2).trans rfl, (blk_cell BK114.out 3).trans rfl, (blk_cell BK114.out 4).trans rfl, (blk_cell BK114.out 5).trans rfl, (blk_cell BK114.out 6).trans rfl, (blk_cell BK114.out 7).trans rfl, (blk_cell BK114.out 8).trans rfl, (blk_cell BK114.out 9).trans rfl, (blk_cell BK114.out 10).trans rfl, (blk_cell BK114.out 11).trans rfl, (blk_cell BK114.out 12).trans rfl⟩ (fun hHeld => ?_); refine with_tabW spec_StreamOk.tab1 spec_StreamOk.bits1 (fun HT_ HW_ => ?_)
        generalize w3.drew = w18 at BK114 HB hHeld ⊢
        refine pu_ 0 4 HT_ ?_
        refine ta_ 1 5 HT_ HW_ hHeld ?_
        refine one_ (i := 2) (N := some 6) #[true, true, true, false, false, false, false, false, false, false, false, false, false, false, false, false, false, false, false, false, false, false, false, false, false, false, false, false, false, false, false, false, false, false, false, false, false, false, false, false, false, false, false, false] rfl rfl (one_of HT_.out B2x4_) (by decide) (fun K hK => ?_)
        refine goes_ Try.func69 B2x4_ rfl #[.int .i64 a0_0, .int .i64 0, .int .i64 4] (by rfl) rfl rfl B2x1_ ?_
        with_reducible refine (spec_l01In.calls a0_0 0 4 true _ A4.out).mono ?_
        rintro e w' ⟨rfl, ⟨nd, rfl⟩⟩
        refine ⟨_, rfl, ?_⟩
        refine hK.out _ _ ⟨(blk_cell BK114.out 0).trans rfl, (blk_cell BK114.out 1).trans rfl, (blk_cell BK114.out 2).trans rfl, (blk_cell BK114.out 3).trans rfl, (blk_cell BK114.out 4).trans rfl, (blk_cell BK114.out 5).trans rfl, (blk_cell BK114.out 6).trans rfl, (blk_cell BK114.out 7).trans rfl, (blk_cell BK114.out 8).trans rfl, (blk_cell BK114.out 9).trans rfl, (blk_cell BK114.out 10).trans rfl, (blk_cell BK114.out 11).trans rfl, (blk_cell BK114.out 12).trans rfl⟩ (fun hHeld => ?_)
        clear hK K
        refine norm_ (a' := ?_) ?_ ?_
        rotate_left
        ·show Act.put _ (some 6) _ = _
         simp only [Act.put, List.setIfInBounds_toArray, List.set_cons_zero, List.set_cons_succ, i64_w, i32_w]
         rfl
        refine pu_ 3 7 HT_ ?_
        refine pu_ 4 8 HT_ ?_
        refine pu_ 5 9 HT_ ?_
        refine ta_ 6 10 HT_ HW_ hHeld ?_
        refine one_ (i := 7) (N := some 11) #[true, true, true, true, true, true, true, true, false, false, false, false, false, false, false, false, false, false, false, false, false, false, false, false, false, false, false, false, false, false, false, false, false, false, false, false, false, false, false, false, false, false, false, false] rfl rfl (one_of HT_.out B2x4_) (by decide) (fun K hK => ?_)
        refine goes_ Try.func69 B2x4_ rfl #[.int .i64 a0_1, .int .i64 0, .int .i64 65535] (by rfl) rfl rfl B2x1_ ?_
        with_reducible refine (spec_l01In.calls a0_1 0 65535 true _ A6.out).mono ?_
        rintro e w' ⟨rfl, ⟨nd, rfl⟩⟩
        refine ⟨_, rfl, ?_⟩
        refine hK.out _ _ ⟨(blk_cell BK114.out 0).trans rfl, (blk_cell BK114.out 1).trans rfl, (blk_cell BK114.out 2).trans rfl, (blk_cell BK114.out 3).trans rfl, (blk_cell BK114.out 4).trans rfl, (blk_cell BK114.out 5).trans rfl, (blk_cell BK114.out 6).trans rfl, (blk_cell BK114.out 7).trans rfl, (blk_cell BK114.out 8).trans rfl, (blk_cell BK114.out 9).trans rfl, (blk_cell BK114.out 10).trans rfl, (blk_cell BK114.out 11).trans rfl, (blk_cell BK114.out 12).trans rfl⟩ (fun hHeld => ?_)
        clear hK K
        refine norm_ (a' := ?_) ?_ ?_
        rotate_left
        ·show Act.put _ (some 11) _ = _
         simp only [Act.put, List.setIfInBounds_toArray, List.set_cons_zero, List.set_cons_succ, i64_w, i32_w]
         rfl
        refine pu_ 8 12 HT_ ?_
        refine pu_ 9 13 HT_ ?_
        refine pu_ 10 14 HT_ ?_
        refine pu_ 11 15 HT_ ?_
        refine ta_ 12 16 HT_ HW_ hHeld ?_
        refine one_ (i := 13) (N := some 17) #[true, true, true, true, true, true, true, true, true, true, true, true, true, true, false, false, false, false, false, false, false, false, false, false, false, false, false, false, false, false, false, false, false, false, false, false, false, false, false, false, false, false, false, false] rfl rfl (one_of HT_.out B2x4_) (by decide) (fun K hK => ?_)
        refine goes_ Try.func69 B2x4_ rfl #[.int .i64 a0_2, .int .i64 0, .int .i64 65535] (by rfl) rfl rfl B2x1_ ?_
        with_reducible refine (spec_l01In.calls a0_2 0 65535 true _ A8.out).mono ?_
        rintro e w' ⟨rfl, ⟨nd, rfl⟩⟩
        refine ⟨_, rfl, ?_⟩
        refine hK.out _ _ ⟨(blk_cell BK114.out 0).trans rfl, (blk_cell BK114.out 1).trans rfl, (blk_cell BK114.out 2).trans rfl, (blk_cell BK114.out 3).trans rfl, (blk_cell BK114.out 4).trans rfl, (blk_cell BK114.out 5).trans rfl, (blk_cell BK114.out 6).trans rfl, (blk_cell BK114.out 7).trans rfl, (blk_cell BK114.out 8).trans rfl, (blk_cell BK114.out 9).trans rfl, (blk_cell BK114.out 10).trans rfl, (blk_cell BK114.out 11).trans rfl, (blk_cell BK114.out 12).trans rfl⟩ (fun hHeld => ?_)
        clear hK K
        refine norm_ (a' := ?_) ?_ ?_
        rotate_left
        ·show Act.put _ (some 17) _ = _
         simp only [Act.put, List.setIfInBounds_toArray, List.set_cons_zero, List.set_cons_succ, i64_w, i32_w]
         rfl
        refine pu_ 14 18 HT_ ?_
        refine pu_ 15 19 HT_ ?_
        refine pu_ 16 20 HT_ ?_
        refine pu_ 17 21 HT_ ?_
        refine ta_ 18 22 HT_ HW_ hHeld ?_
        refine one_ (i := 19) (N := some 23) #[true, true, true, true, true, true, true, true, true, true, true, true, true, true, true, true, true, true, true, true, false, false, false, false, false, false, false, false, false, false, false, false, false, false, false, false, false, false, false, false, false, false, false, false] rfl rfl (one_of HT_.out B2x4_) (by decide) (fun K hK => ?_)
        refine goes_ Try.func69 B2x4_ rfl #[.int .i64 a0_3, .int .i64 0, .int .i64 65535] (by rfl) rfl rfl B2x1_ ?_
        with_reducible refine (spec_l01In.calls a0_3 0 65535 true _ A10.out).mono ?_
        rintro e w' ⟨rfl, ⟨nd, rfl⟩⟩
        refine ⟨_, rfl, ?_⟩
        refine hK.out _ _ ⟨(blk_cell BK114.out 0).trans rfl, (blk_cell BK114.out 1).trans rfl, (blk_cell BK114.out 2).trans rfl, (blk_cell BK114.out 3).trans rfl, (blk_cell BK114.out 4).trans rfl, (blk_cell BK114.out 5).trans rfl, (blk_cell BK114.out 6).trans rfl, (blk_cell BK114.out 7).trans rfl, (blk_cell BK114.out 8).trans rfl, (blk_cell BK114.out 9).trans rfl, (blk_cell BK114.out 10).trans rfl, (blk_cell BK114.out 11).trans rfl, (blk_cell BK114.out 12).trans rfl⟩ (fun hHeld => ?_)
        clear hK K
        refine norm_ (a' := ?_) ?_ ?_
        rotate_left
        ·show Act.put _ (some 23) _ = _
         simp only [Act.put, List.setIfInBounds_toArray, List.set_cons_zero, List.set_cons_succ, i64_w, i32_w]
         rfl
        refine pu_ 20 24 HT_ ?_
        refine pu_ 21 25 HT_ ?_
        refine pu_ 22 26 HT_ ?_
        refine pu_ 23 27 HT_ ?_
        refine ta_ 24 28 HT_ HW_ hHeld ?_
        refine pu_ 25 29 HT_ ?_
        refine pu_ 26 30 HT_ ?_
        refine pu_ 27 31 HT_ ?_
        refine pu_ 28 32 HT_ ?_
        refine pu_ 29 33 HT_ ?_
        refine pu_ 31 35 HT_ ?_
        refine ta_ 30 34 HT_ HW_ hHeld ?_
        refine ta_ 32 36 HT_ HW_ hHeld ?_
        refine pu_ 33 37 HT_ ?_
        refine one_ (i := 34) (N := some 38) #[true, true, true, true, true, true, true, true, true, true, true, true, true, true, true, true, true, true, true, true, true, true, true, true, true, true, true, true, true, true, true, true, true, true, true, false, false, false, false, false, false, false, false, false] rfl rfl (one_of HT_.out B2x4_) (by decide) (fun K hK => ?_)
        refine goes_ Try.func131 B2x4_ rfl #[.int .i64 (a0_4.size : Int), .int .i64 24] (by rfl) rfl rfl B2x1_ ?_
        with_reducible refine (spec_l13Less.calls (a0_4.size : Int) 24 t119 _ A14.out).mono ?_
        rintro e w' ⟨rfl, ⟨nd, rfl⟩⟩
        refine ⟨_, rfl, ?_⟩
        refine hK.out _ _ ⟨(blk_cell BK114.out 0).trans rfl, (blk_cell BK114.out 1).trans rfl, (blk_cell BK114.out 2).trans rfl, (blk_cell BK114.out 3).trans rfl, (blk_cell BK114.out 4).trans rfl, (blk_cell BK114.out 5).trans rfl, (blk_cell BK114.out 6).trans rfl, (blk_cell BK114.out 7).trans rfl, (blk_cell BK114.out 8).trans rfl, (blk_cell BK114.out 9).trans rfl, (blk_cell BK114.out 10).trans rfl, (blk_cell BK114.out 11).trans rfl, (blk_cell BK114.out 12).trans rfl⟩ (fun hHeld => ?_)
        clear hK K
        refine norm_ (a' := ?_) ?_ ?_
        rotate_left
        ·show Act.put _ (some 38) _ = _
         simp only [Act.put, List.setIfInBounds_toArray, List.set_cons_zero, List.set_cons_succ, i64_w, i32_w]
         rfl
        refine one_ (i := 35) (N := some 39) #[true, true, true, true, true, true, true, true, true, true, true, true, true, true, true, true, true, true, true, true, true, true, true, true, true, true, true, true, true, true, true, true, true, true, true, true, false, false, false, false, false, false, false, false] rfl rfl (one_of HT_.out B2x4_) (by decide) (fun K hK => ?_)
        refine goes_ Try.func69 B2x4_ rfl #[.int .i64 a0_5, .int .i64 0, .int .i64 t119] (by rfl) rfl rfl B2x1_ ?_
        with_reducible refine (spec_l01In.calls a0_5 0 t119 true _ A15.out).mono ?_
        rintro e w' ⟨rfl, ⟨nd, rfl⟩⟩
        refine ⟨_, rfl, ?_⟩
        refine hK.out _ _ ⟨(blk_cell BK114.out 0).trans rfl, (blk_cell BK114.out 1).trans rfl, (blk_cell BK114.out 2).trans rfl, (blk_cell BK114.out 3).trans rfl, (blk_cell BK114.out 4).trans rfl, (blk_cell BK114.out 5).trans rfl, (blk_cell BK114.out 6).trans rfl, (blk_cell BK114.out 7).trans rfl, (blk_cell BK114.out 8).trans rfl, (blk_cell BK114.out 9).trans rfl, (blk_cell BK114.out 10).trans rfl, (blk_cell BK114.out 11).trans rfl, (blk_cell BK114.out 12).trans rfl⟩ (fun hHeld => ?_)
        clear hK K
        refine norm_ (a' := ?_) ?_ ?_
        rotate_left
        ·show Act.put _ (some 39) _ = _
         simp only [Act.put, List.setIfInBounds_toArray, List.set_cons_zero, List.set_cons_succ, i64_w, i32_w]
         rfl
        refine pu_ 36 40 HT_ ?_
        refine pu_ 37 41 HT_ ?_
        refine pu_ 38 42 HT_ ?_
        refine pu_ 39 43 HT_ ?_
        refine ta_ 40 44 HT_ HW_ hHeld ?_
        refine one_ (i := 41) (N := some 45) #[true, true, true, true, true, true, true, true, true, true, true, true, true, true, true, true, true, true, true, true, true, true, true, true, true, true, true, true, true, true, true, true, true, true, true, true, true, true, true, true, true, true, false, false] rfl rfl (one_of HT_.out B2x4_) (by decide) (fun K hK => ?_)
        refine goes_ Try.func69 B2x4_ rfl #[.int .i64 a0_6, .int .i64 0, .int .i64 3] (by rfl) rfl rfl B2x1_ ?_
        with_reducible refine (spec_l01In.calls a0_6 0 3 t121 _ A17.out).mono ?_
        rintro e w' ⟨rfl, ⟨nd, rfl⟩⟩
        refine ⟨_, rfl, ?_⟩
        refine hK.out _ _ ⟨(blk_cell BK114.out 0).trans rfl, (blk_cell BK114.out 1).trans rfl, (blk_cell BK114.out 2).trans rfl, (blk_cell BK114.out 3).trans rfl, (blk_cell BK114.out 4).trans rfl, (blk_cell BK114.out 5).trans rfl, (blk_cell BK114.out 6).trans rfl, (blk_cell BK114.out 7).trans rfl, (blk_cell BK114.out 8).trans rfl, (blk_cell BK114.out 9).trans rfl, (blk_cell BK114.out 10).trans rfl, (blk_cell BK114.out 11).trans rfl, (blk_cell BK114.out 12).trans rfl⟩ (fun hHeld => ?_)
        clear hK K
        refine norm_ (a' := ?_) ?_ ?_
        rotate_left
        ·show Act.put _ (some 45) _ = _
         simp only [Act.put, List.setIfInBounds_toArray, List.set_cons_zero, List.set_cons_succ, i64_w, i32_w]
         rfl
        refine pu_ 42 46 HT_ ?_
        refine pu_ 43 47 HT_ ?_
        refine done_ (done_of HT_.out B2x4_) ?_
        try go_wp2
        go_meet
        case rel => exact ⟨_, (!t121), (be_), H', ⟨B2x7_⟩, ⟨B2x2_⟩, ⟨B2x0_⟩⟩
       ·replace c16 := Bool.eq_false_iff.mpr c16
        subst c16
        rw [if_neg (show ¬ (false = true) by decide)] at H
        have H' := Aside0.mk H
        clear H
        try go_wp2
        replace BK114 := Aside0.mk (blk_drew BK114.out)
        replace HB := Aside0.mk (below_drew1 HB.out)
        refine start_ (n := 44) (S := fun w' => w'.cell? ⟨gb114, 0, none⟩ = some (.int .i64 a0_0) ∧ w'.cell? ⟨gb114, 1, none⟩ = some (.int .i64 a0_1) ∧ w'.cell? ⟨gb114, 2, none⟩ = some (.int .i64 a0_2) ∧ w'.cell? ⟨gb114, 3, none⟩ = some (.int .i64 a0_3) ∧ w'.cell? ⟨gb114, 4, none⟩ = some (.string a0_4) ∧ w'.cell? ⟨gb114, 5, none⟩ = some (.int .i64 a0_5) ∧ w'.cell? ⟨gb114, 6, none⟩ = some (.int .i64 a0_6) ∧ w'.cell? ⟨gb114, 7, none⟩ = some (.bool a0_7) ∧ w'.cell? ⟨gb114, 8, none⟩ = some (.string a0_8) ∧ w'.cell? ⟨gb114, 9, none⟩ = some (.slice A0_9 l0_9.length c0_9) ∧ w'.cell? ⟨gb114, 10, none⟩ = some (.bool a0_10) ∧ w'.cell? ⟨gb114, 11, none⟩ = some (.int .i64 a0_11) ∧ w'.cell? ⟨gb114, 12, none⟩ = some (.int .i64 a0_12)) (ds := []) #[false, false, false, false, false, false, false, false, false, false, false, false, false, false, false, false, false, false, false, false, false, false, false, false, false, false, false, false, false, false, false, false, false, false, false, false, false, false, false, false, false, false, false, false] B2x4_ rfl rfl ⟨(blk_cell BK114.out 0).trans rfl, (blk_cell BK114.out 1).trans rfl, (blk_cell BK114.out 2).trans rfl, (blk_cell BK114.out 3).trans rfl, (blk_cell BK114.out 4).trans rfl, (blk_cell BK114.out 5).trans rfl, (blk_cell BK114.out 6).trans rfl, (blk_cell BK114.out 7).trans rfl, (blk_cell BK114.out 8).trans rfl, (blk_cell BK114.out 9).trans rfl, (blk_cell BK114.out 10).trans rfl, (blk_cell BK114.out 11).trans rfl, (blk_cell BK114.out 12).trans rfl⟩ (fun hHeld => ?_); refine with_tabW spec_StreamOk.tab1 spec_StreamOk.bits1 (fun HT_ HW_ => ?_)
        generalize w3.drew = w19 at BK114 HB hHeld ⊢
        refine pu_ 0 4 HT_ ?_
        refine ta_ 1 5 HT_ HW_ hHeld ?_
        refine one_ (i := 2) (N := some 6) #[true, true, true, false, false, false, false, false, false, false, false, false, false, false, false, false, false, false, false, false, false, false, false, false, false, false, false, false, false, false, false, false, false, false, false, false, false, false, false, false, false, false, false, false] rfl rfl (one_of HT_.out B2x4_) (by decide) (fun K hK => ?_)
        refine goes_ Try.func69 B2x4_ rfl #[.int .i64 a0_0, .int .i64 0, .int .i64 4] (by rfl) rfl rfl B2x1_ ?_
        with_reducible refine (spec_l01In.calls a0_0 0 4 true _ A4.out).mono ?_
        rintro e w' ⟨rfl, ⟨nd, rfl⟩⟩
        refine ⟨_, rfl, ?_⟩
        refine hK.out _ _ ⟨(blk_cell BK114.out 0).trans rfl, (blk_cell BK114.out 1).trans rfl, (blk_cell BK114.out 2).trans rfl, (blk_cell BK114.out 3).trans rfl, (blk_cell BK114.out 4).trans rfl, (blk_cell BK114.out 5).trans rfl, (blk_cell BK114.out 6).trans rfl, (blk_cell BK114.out 7).trans rfl, (blk_cell BK114.out 8).trans rfl, (blk_cell BK114.out 9).trans rfl, (blk_cell BK114.out 10).trans rfl, (blk_cell BK114.out 11).trans rfl, (blk_cell BK114.out 12).trans rfl⟩ (fun hHeld => ?_)
        clear hK K
        refine norm_ (a' := ?_) ?_ ?_
        rotate_left
        ·show Act.put _ (some 6) _ = _
         simp only [Act.put, List.setIfInBounds_toArray, List.set_cons_zero, List.set_cons_succ, i64_w, i32_w]
         rfl
        refine pu_ 3 7 HT_ ?_
        refine pu_ 4 8 HT_ ?_
        refine pu_ 5 9 HT_ ?_
        refine ta_ 6 10 HT_ HW_ hHeld ?_
        refine one_ (i := 7) (N := some 11) #[true, true, true, true, true, true, true, true, false, false, false, false, false, false, false, false, false, false, false, false, false, false, false, false, false, false, false, false, false, false, false, false, false, false, false, false, false, false, false, false, false, false, false, false] rfl rfl (one_of HT_.out B2x4_) (by decide) (fun K hK => ?_)
        refine goes_ Try.func69 B2x4_ rfl #[.int .i64 a0_1, .int .i64 0, .int .i64 65535] (by rfl) rfl rfl B2x1_ ?_
        with_reducible refine (spec_l01In.calls a0_1 0 65535 true _ A6.out).mono ?_
        rintro e w' ⟨rfl, ⟨nd, rfl⟩⟩
        refine ⟨_, rfl, ?_⟩
        refine hK.out _ _ ⟨(blk_cell BK114.out 0).trans rfl, (blk_cell BK114.out 1).trans rfl, (blk_cell BK114.out 2).trans rfl, (blk_cell BK114.out 3).trans rfl, (blk_cell BK114.out 4).trans rfl, (blk_cell BK114.out 5).trans rfl, (blk_cell BK114.out 6).trans rfl, (blk_cell BK114.out 7).trans rfl, (blk_cell BK114.out 8).trans rfl, (blk_cell BK114.out 9).trans rfl, (blk_cell BK114.out 10).trans rfl, (blk_cell BK114.out 11).trans rfl, (blk_cell BK114.out 12).trans rfl⟩ (fun hHeld => ?_)
        clear hK K
        refine norm_ (a' := ?_) ?_ ?_
        rotate_left
        ·show Act.put _ (some 11) _ = _
         simp only [Act.put, List.setIfInBounds_toArray, List.set_cons_zero, List.set_cons_succ, i64_w, i32_w]
         rfl
        refine pu_ 8 12 HT_ ?_
        refine pu_ 9 13 HT_ ?_
        refine pu_ 10 14 HT_ ?_
        refine pu_ 11 15 HT_ ?_
        refine ta_ 12 16 HT_ HW_ hHeld ?_
        refine one_ (i := 13) (N := some 17) #[true, true, true, true, true, true, true, true, true, true, true, true, true, true, false, false, false, false, false, false, false, false, false, false, false, false, false, false, false, false, false, false, false, false, false, false, false, false, false, false, false, false, false, false] rfl rfl (one_of HT_.out B2x4_) (by decide) (fun K hK => ?_)
        refine goes_ Try.func69 B2x4_ rfl #[.int .i64 a0_2, .int .i64 0, .int .i64 65535] (by rfl) rfl rfl B2x1_ ?_
        with_reducible refine (spec_l01In.calls a0_2 0 65535 true _ A8.out).mono ?_
        rintro e w' ⟨rfl, ⟨nd, rfl⟩⟩
        refine ⟨_, rfl, ?_⟩
        refine hK.out _ _ ⟨(blk_cell BK114.out 0).trans rfl, (blk_cell BK114.out 1).trans rfl, (blk_cell BK114.out 2).trans rfl, (blk_cell BK114.out 3).trans rfl, (blk_cell BK114.out 4).trans rfl, (blk_cell BK114.out 5).trans rfl, (blk_cell BK114.out 6).trans rfl, (blk_cell BK114.out 7).trans rfl, (blk_cell BK114.out 8).trans rfl, (blk_cell BK114.out 9).trans rfl, (blk_cell BK114.out 10).trans rfl, (blk_cell BK114.out 11).trans rfl, (blk_cell BK114.out 12).trans rfl⟩ (fun hHeld => ?_)
        clear hK K
        refine norm_ (a' := ?_) ?_ ?_
        rotate_left
        ·show Act.put _ (some 17) _ = _
         simp only [Act.put, List.setIfInBounds_toArray, List.set_cons_zero, List.set_cons_succ, i64_w, i32_w]
         rfl
        refine pu_ 14 18 HT_ ?_
        refine pu_ 15 19 HT_ ?_
        refine pu_ 16 20 HT_ ?_
        refine pu_ 17 21 HT_ ?_
        refine ta_ 18 22 HT_ HW_ hHeld ?_
        refine one_ (i := 19) (N := some 23) #[true, true, true, true, true, true, true, true, true, true, true, true, true, true, true, true, true, true, true, true, false, false, false, false, false, false, false, false, false, false, false, false, false, false, false, false, false, false, false, false, false, false, false, false] rfl rfl (one_of HT_.out B2x4_) (by decide) (fun K hK => ?_)
        refine goes_ Try.func69 B2x4_ rfl #[.int .i64 a0_3, .int .i64 0, .int .i64 65535] (by rfl) rfl rfl B2x1_ ?_
        with_reducible refine (spec_l01In.calls a0_3 0 65535 true _ A10.out).mono ?_
        rintro e w' ⟨rfl, ⟨nd, rfl⟩⟩
        refine ⟨_, rfl, ?_⟩
        refine hK.out _ _ ⟨(blk_cell BK114.out 0).trans rfl, (blk_cell BK114.out 1).trans rfl, (blk_cell BK114.out 2).trans rfl, (blk_cell BK114.out 3).trans rfl, (blk_cell BK114.out 4).trans rfl, (blk_cell BK114.out 5).trans rfl, (blk_cell BK114.out 6).trans rfl, (blk_cell BK114.out 7).trans rfl, (blk_cell BK114.out 8).trans rfl, (blk_cell BK114.out 9).trans rfl, (blk_cell BK114.out 10).trans rfl, (blk_cell BK114.out 11).trans rfl, (blk_cell BK114.out 12).trans rfl⟩ (fun hHeld => ?_)
        clear hK K
        refine norm_ (a' := ?_) ?_ ?_
        rotate_left
        ·show Act.put _ (some 23) _ = _
         simp only [Act.put, List.setIfInBounds_toArray, List.set_cons_zero, List.set_cons_succ, i64_w, i32_w]
         rfl
        refine pu_ 20 24 HT_ ?_
        refine pu_ 21 25 HT_ ?_
        refine pu_ 22 26 HT_ ?_
        refine pu_ 23 27 HT_ ?_
        refine ta_ 24 28 HT_ HW_ hHeld ?_
        refine pu_ 25 29 HT_ ?_
        refine pu_ 26 30 HT_ ?_
        refine pu_ 27 31 HT_ ?_
        refine pu_ 28 32 HT_ ?_
        refine pu_ 29 33 HT_ ?_
        refine pu_ 31 35 HT_ ?_
        refine ta_ 30 34 HT_ HW_ hHeld ?_
        refine ta_ 32 36 HT_ HW_ hHeld ?_
        refine pu_ 33 37 HT_ ?_
        refine one_ (i := 34) (N := some 38) #[true, true, true, true, true, true, true, true, true, true, true, true, true, true, true, true, true, true, true, true, true, true, true, true, true, true, true, true, true, true, true, true, true, true, true, false, false, false, false, false, false, false, false, false] rfl rfl (one_of HT_.out B2x4_) (by decide) (fun K hK => ?_)
        refine goes_ Try.func131 B2x4_ rfl #[.int .i64 (a0_4.size : Int), .int .i64 24] (by rfl) rfl rfl B2x1_ ?_
        with_reducible refine (spec_l13Less.calls (a0_4.size : Int) 24 t119 _ A14.out).mono ?_
        rintro e w' ⟨rfl, ⟨nd, rfl⟩⟩
        refine ⟨_, rfl, ?_⟩
        refine hK.out _ _ ⟨(blk_cell BK114.out 0).trans rfl, (blk_cell BK114.out 1).trans rfl, (blk_cell BK114.out 2).trans rfl, (blk_cell BK114.out 3).trans rfl, (blk_cell BK114.out 4).trans rfl, (blk_cell BK114.out 5).trans rfl, (blk_cell BK114.out 6).trans rfl, (blk_cell BK114.out 7).trans rfl, (blk_cell BK114.out 8).trans rfl, (blk_cell BK114.out 9).trans rfl, (blk_cell BK114.out 10).trans rfl, (blk_cell BK114.out 11).trans rfl, (blk_cell BK114.out 12).trans rfl⟩ (fun hHeld => ?_)
        clear hK K
        refine norm_ (a' := ?_) ?_ ?_
        rotate_left
        ·show Act.put _ (some 38) _ = _
         simp only [Act.put, List.setIfInBounds_toArray, List.set_cons_zero, List.set_cons_succ, i64_w, i32_w]
         rfl
        refine one_ (i := 35) (N := some 39) #[true, true, true, true, true, true, true, true, true, true, true, true, true, true, true, true, true, true, true, true, true, true, true, true, true, true, true, true, true, true, true, true, true, true, true, true, false, false, false, false, false, false, false, false] rfl rfl (one_of HT_.out B2x4_) (by decide) (fun K hK => ?_)
        refine goes_ Try.func69 B2x4_ rfl #[.int .i64 a0_5, .int .i64 0, .int .i64 t119] (by rfl) rfl rfl B2x1_ ?_
        with_reducible refine (spec_l01In.calls a0_5 0 t119 false _ A15.out).mono ?_
        rintro e w' ⟨rfl, ⟨nd, rfl⟩⟩
        refine ⟨_, rfl, ?_⟩
        refine hK.out _ _ ⟨(blk_cell BK114.out 0).trans rfl, (blk_cell BK114.out 1).trans rfl, (blk_cell BK114.out 2).trans rfl, (blk_cell BK114.out 3).trans rfl, (blk_cell BK114.out 4).trans rfl, (blk_cell BK114.out 5).trans rfl, (blk_cell BK114.out 6).trans rfl, (blk_cell BK114.out 7).trans rfl, (blk_cell BK114.out 8).trans rfl, (blk_cell BK114.out 9).trans rfl, (blk_cell BK114.out 10).trans rfl, (blk_cell BK114.out 11).trans rfl, (blk_cell BK114.out 12).trans rfl⟩ (fun hHeld => ?_)
        clear hK K
        refine norm_ (a' := ?_) ?_ ?_
        rotate_left
        ·show Act.put _ (some 39) _ = _
         simp only [Act.put, List.setIfInBounds_toArray, List.set_cons_zero, List.set_cons_succ, i64_w, i32_w]
         rfl
        refine pu_ 36 40 HT_ ?_
        refine pu_ 37 41 HT_ ?_
        refine pu_ 38 42 HT_ ?_
        refine of_ 39 43 HT_ ?_
        refine of_ 40 44 HT_ ?_
        refine of_ 41 45 HT_ ?_
        refine of_ 42 46 HT_ ?_
        refine pu_ 43 47 HT_ ?_
        refine done_ (done_of HT_.out B2x4_) ?_
        try go_wp2
        go_meet
        case rel => exact ⟨_, (true), (be_), H', ⟨B2x7_⟩, ⟨B2x2_⟩, ⟨B2x0_⟩⟩
     ·replace c11 := Bool.eq_false_iff.mpr c11
      subst c11
      rw [if_neg (show ¬ (false = true) by decide)] at H
      have H' := Aside0.mk H
      clear H
      try go_wp2
      replace BK114 := Aside0.mk (blk_drew BK114.out)
      replace HB := Aside0.mk (below_drew1 HB.out)
      refine start_ (n := 44) (S := fun w' => w'.cell? ⟨gb114, 0, none⟩ = some (.int .i64 a0_0) ∧ w'.cell? ⟨gb114, 1, none⟩ = some (.int .i64 a0_1) ∧ w'.cell? ⟨gb114, 2, none⟩ = some (.int .i64 a0_2) ∧ w'.cell? ⟨gb114, 3, none⟩ = some (.int .i64 a0_3) ∧ w'.cell? ⟨gb114, 4, none⟩ = some (.string a0_4) ∧ w'.cell? ⟨gb114, 5, none⟩ = some (.int .i64 a0_5) ∧ w'.cell? ⟨gb114, 6, none⟩ = some (.int .i64 a0_6) ∧ w'.cell? ⟨gb114, 7, none⟩ = some (.bool a0_7) ∧ w'.cell? ⟨gb114, 8, none⟩ = some (.string a0_8) ∧ w'.cell? ⟨gb114, 9, none⟩ = some (.slice A0_9 l0_9.length c0_9) ∧ w'.cell? ⟨gb114, 10, none⟩ = some (.bool a0_10) ∧ w'.cell? ⟨gb114, 11, none⟩ = some (.int .i64 a0_11) ∧ w'.cell? ⟨gb114, 12, none⟩ = some (.int .i64 a0_12)) (ds := []) #[false, false, false, false, false, false, false, false, false, false, false, false, false, false, false, false, false, false, false, false, false, false, false, false, false, false, false, false, false, false, false, false, false, false, false, false, false, false, false, false, false, false, false, false] B2x4_ rfl rfl ⟨(blk_cell BK114.out 0).trans rfl, (blk_cell BK114.out 1).trans rfl, (blk_cell BK114.out 2).trans rfl, (blk_cell BK114.out 3).trans rfl, (blk_cell BK114.out 4).trans rfl, (blk_cell BK114.out 5).trans rfl, (blk_cell BK114.out 6).trans rfl, (blk_cell BK114.out 7).trans rfl, (blk_cell BK114.out 8).trans rfl, (blk_cell BK114.out 9).trans rfl, (blk_cell BK114.out 10).trans rfl, (blk_cell BK114.out 11).trans rfl, (blk_cell BK114.out 12).trans rfl⟩ (fun hHeld => ?_); refine with_tabW spec_StreamOk.tab1 spec_StreamOk.bits1 (fun HT_ HW_ => ?_)
      generalize w3.drew = w20 at BK114 HB hHeld ⊢
      refine pu_ 0 4 HT_ ?_
      refine ta_ 1 5 HT_ HW_ hHeld ?_
      refine one_ (i := 2) (N := some 6) #[true, true, true, false, false, false, false, false, false, false, false, false, false, false, false, false, false, false, false, false, false, false, false, false, false, false, false, false, false, false, false, false, false, false, false, false, false, false, false, false, false, false, false, false] rfl rfl (one_of HT_.out B2x4_) (by decide) (fun K hK => ?_)
      refine goes_ Try.func69 B2x4_ rfl #[.int .i64 a0_0, .int .i64 0, .int .i64 4] (by rfl) rfl rfl B2x1_ ?_
      with_reducible refine (spec_l01In.calls a0_0 0 4 true _ A4.out).mono ?_
      rintro e w' ⟨rfl, ⟨nd, rfl⟩⟩
      refine ⟨_, rfl, ?_⟩
      refine hK.out _ _ ⟨(blk_cell BK114.out 0).trans rfl, (blk_cell BK114.out 1).trans rfl, (blk_cell BK114.out 2).trans rfl, (blk_cell BK114.out 3).trans rfl, (blk_cell BK114.out 4).trans rfl, (blk_cell BK114.out 5).trans rfl, (blk_cell BK114.out 6).trans rfl, (blk_cell BK114.out 7).trans rfl, (blk_cell BK114.out 8).trans rfl, (blk_cell BK114.out 9).trans rfl, (blk_cell BK114.out 10).trans rfl, (blk_cell BK114.out 11).trans rfl, (blk_cell BK114.out 12).trans rfl⟩ (fun hHeld => ?_)
      clear hK K
      refine norm_ (a' := ?_) ?_ ?_
      rotate_left
      ·show Act.put _ (some 6) _ = _
       simp only [Act.put, List.setIfInBounds_toArray, List.set_cons_zero, List.set_cons_succ, i64_w, i32_w]
       rfl
      refine pu_ 3 7 HT_ ?_
      refine pu_ 4 8 HT_ ?_
      refine pu_ 5 9 HT_ ?_
      refine ta_ 6 10 HT_ HW_ hHeld ?_
      refine one_ (i := 7) (N := some 11) #[true, true, true, true, true, true, true, true, false, false, false, false, false, false, false, false, false, false, false, false, false, false, false, false, false, false, false, false, false, false, false, false, false, false, false, false, false, false, false, false, false, false, false, false] rfl rfl (one_of HT_.out B2x4_) (by decide) (fun K hK => ?_)
      refine goes_ Try.func69 B2x4_ rfl #[.int .i64 a0_1, .int .i64 0, .int .i64 65535] (by rfl) rfl rfl B2x1_ ?_
      with_reducible refine (spec_l01In.calls a0_1 0 65535 true _ A6.out).mono ?_
      rintro e w' ⟨rfl, ⟨nd, rfl⟩⟩
      refine ⟨_, rfl, ?_⟩
      refine hK.out _ _ ⟨(blk_cell BK114.out 0).trans rfl, (blk_cell BK114.out 1).trans rfl, (blk_cell BK114.out 2).trans rfl, (blk_cell BK114.out 3).trans rfl, (blk_cell BK114.out 4).trans rfl, (blk_cell BK114.out 5).trans rfl, (blk_cell BK114.out 6).trans rfl, (blk_cell BK114.out 7).trans rfl, (blk_cell BK114.out 8).trans rfl, (blk_cell BK114.out 9).trans rfl, (blk_cell BK114.out 10).trans rfl, (blk_cell BK114.out 11).trans rfl, (blk_cell BK114.out 12).trans rfl⟩ (fun hHeld => ?_)
      clear hK K
      refine norm_ (a' := ?_) ?_ ?_
      rotate_left
      ·show Act.put _ (some 11) _ = _
       simp only [Act.put, List.setIfInBounds_toArray, List.set_cons_zero, List.set_cons_succ, i64_w, i32_w]
       rfl
      refine pu_ 8 12 HT_ ?_
      refine pu_ 9 13 HT_ ?_
      refine pu_ 10 14 HT_ ?_
      refine pu_ 11 15 HT_ ?_
      refine ta_ 12 16 HT_ HW_ hHeld ?_
      refine one_ (i := 13) (N := some 17) #[true, true, true, true, true, true, true, true, true, true, true, true, true, true, false, false, false, false, false, false, false, false, false, false, false, false, false, false, false, false, false, false, false, false, false, false, false, false, false, false, false, false, false, false] rfl rfl (one_of HT_.out B2x4_) (by decide) (fun K hK => ?_)
      refine goes_ Try.func69 B2x4_ rfl #[.int .i64 a0_2, .int .i64 0, .int .i64 65535] (by rfl) rfl rfl B2x1_ ?_
      with_reducible refine (spec_l01In.calls a0_2 0 65535 true _ A8.out).mono ?_
      rintro e w' ⟨rfl, ⟨nd, rfl⟩⟩
      refine ⟨_, rfl, ?_⟩
      refine hK.out _ _ ⟨(blk_cell BK114.out 0).trans rfl, (blk_cell BK114.out 1).trans rfl, (blk_cell BK114.out 2).trans rfl, (blk_cell BK114.out 3).trans rfl, (blk_cell BK114.out 4).trans rfl, (blk_cell BK114.out 5).trans rfl, (blk_cell BK114.out 6).trans rfl, (blk_cell BK114.out 7).trans rfl, (blk_cell BK114.out 8).trans rfl, (blk_cell BK114.out 9).trans rfl, (blk_cell BK114.out 10).trans rfl, (blk_cell BK114.out 11).trans rfl, (blk_cell BK114.out 12).trans rfl⟩ (fun hHeld => ?_)
      clear hK K
      refine norm_ (a' := ?_) ?_ ?_
      rotate_left
      ·show Act.put _ (some 17) _ = _
       simp only [Act.put, List.setIfInBounds_toArray, List.set_cons_zero, List.set_cons_succ, i64_w, i32_w]
       rfl
      refine pu_ 14 18 HT_ ?_
      refine pu_ 15 19 HT_ ?_
      refine pu_ 16 20 HT_ ?_
      refine pu_ 17 21 HT_ ?_
      refine ta_ 18 22 HT_ HW_ hHeld ?_
      refine one_ (i := 19) (N := some 23) #[true, true, true, true, true, true, true, true, true, true, true, true, true, true, true, true, true, true, true, true, false, false, false, false, false, false, false, false, false, false, false, false, false, false, false, false, false, false, false, false, false, false, false, false] rfl rfl (one_of HT_.out B2x4_) (by decide) (fun K hK => ?_)
      refine goes_ Try.func69 B2x4_ rfl #[.int .i64 a0_3, .int .i64 0, .int .i64 65535] (by rfl) rfl rfl B2x1_ ?_
      with_reducible refine (spec_l01In.calls a0_3 0 65535 false _ A10.out).mono ?_
      rintro e w' ⟨rfl, ⟨nd, rfl⟩⟩
      refine ⟨_, rfl, ?_⟩
      refine hK.out _ _ ⟨(blk_cell BK114.out 0).trans rfl, (blk_cell BK114.out 1).trans rfl, (blk_cell BK114.out 2).trans rfl, (blk_cell BK114.out 3).trans rfl, (blk_cell BK114.out 4).trans rfl, (blk_cell BK114.out 5).trans rfl, (blk_cell BK114.out 6).trans rfl, (blk_cell BK114.out 7).trans rfl, (blk_cell BK114.out 8).trans rfl, (blk_cell BK114.out 9).trans rfl, (blk_cell BK114.out 10).trans rfl, (blk_cell BK114.out 11).trans rfl, (blk_cell BK114.out 12).trans rfl⟩ (fun hHeld => ?_)
      clear hK K
      refine norm_ (a' := ?_) ?_ ?_
      rotate_left
      ·show Act.put _ (some 23) _ = _
       simp only [Act.put, List.setIfInBounds_toArray, List.set_cons_zero, List.set_cons_succ, i64_w, i32_w]
       rfl
      refine pu_ 20 24 HT_ ?_
      refine pu_ 21 25 HT_ ?_
      refine pu_ 22 26 HT_ ?_
      refine of_ 23 27 HT_ ?_
      refine of_ 24 28 HT_ ?_
      refine of_ 25 29 HT_ ?_
      refine of_ 26 30 HT_ ?_
      refine pu_ 27 31 HT_ ?_
      refine pu_ 28 32 HT_ ?_
      refine of_ 29 33 HT_ ?_
      refine of_ 30 34 HT_ ?_
      refine of_ 31 35 HT_ ?_
      refine of_ 32 36 HT_ ?_
      refine of_ 33 37 HT_ ?_
      refine of_ 34 38 HT_ ?_
      refine of_ 35 39 HT_ ?_
      refine of_ 36 40 HT_ ?_
      refine pu_ 37 41 HT_ ?_
      refine pu_ 38 42 HT_ ?_
      refine of_ 39 43 HT_ ?_
      refine of_ 40 44 HT_ ?_
      refine of_ 41 45 HT_ ?_
      refine of_ 42 46 HT_ ?_
      refine pu_ 43 47 HT_ ?_
      refine done_ (done_of HT_.out B2x4_) ?_
      try go_wp2
      go_meet
      case rel => exact ⟨_, (true), (be_), H', ⟨B2x7_⟩, ⟨B2x2_⟩, ⟨B2x0_⟩⟩
    ·replace c9 := Bool.eq_false_iff.mpr c9
     subst c9
     rw [if_neg (show ¬ (false = true) by decide)] at H
     have H' := Aside0.mk H
     clear H
     try go_wp2
     replace BK114 := Aside0.mk (blk_drew BK114.out)
     replace HB := Aside0.mk (below_drew1 HB.out)
     refine start_ (n := 44) (S := fun w' => w'.cell? ⟨gb114, 0, none⟩ = some (.int .i64 a0_0) ∧ w'.cell? ⟨gb114, 1, none⟩ = some (.int .i64 a0_1) ∧ w'.cell? ⟨gb114, 2, none⟩ = some (.int .i64 a0_2) ∧ w'.cell? ⟨gb114, 3, none⟩ = some (.int .i64 a0_3) ∧ w'.cell? ⟨gb114, 4, none⟩ = some (.string a0_4) ∧ w'.cell? ⟨gb114, 5, none⟩ = some (.int .i64 a0_5) ∧ w'.cell? ⟨gb114, 6, none⟩ = some (.int .i64 a0_6) ∧ w'.cell? ⟨gb114, 7, none⟩ = some (.bool a0_7) ∧ w'.cell? ⟨gb114, 8, none⟩ = some (.string a0_8) ∧ w'.cell? ⟨gb114, 9, none⟩ = some (.slice A0_9 l0_9.length c0_9) ∧ w'.cell? ⟨gb114, 10, none⟩ = some (.bool a0_10) ∧ w'.cell? ⟨gb114, 11, none⟩ = some (.int .i64 a0_11) ∧ w'.cell? ⟨gb114, 12, none⟩ = some (.int .i64 a0_12)) (ds := []) #[false, false, false, false, false, false, false, false, false, false, false, false, false, false, false, false, false, false, false, false, false, false, false, false, false, false, false, false, false, false, false, false, false, false, false, false, false, false, false, false, false, false, false, false] B2x4_ rfl rfl ⟨(blk_cell BK114.out 0).trans rfl, (blk_cell BK114.out 1).trans rfl, (blk_cell BK114.out 2).trans rfl, (blk_cell BK114.out 3).trans rfl, (blk_cell BK114.out 4).trans rfl, (blk_cell BK114.out 5).trans rfl, (blk_cell BK114.out 6).trans rfl, (blk_cell BK114.out 7).trans rfl, (blk_cell BK114.out 8).trans rfl, (blk_cell BK114.out 9).trans rfl, (blk_cell BK114.out 10).trans rfl, (blk_cell BK114.out 11).trans rfl, (blk_cell BK114.out 12).trans rfl⟩ (fun hHeld => ?_); refine with_tabW spec_StreamOk.tab1 spec_StreamOk.bits1 (fun HT_ HW_ => ?_)
     generalize w3.drew = w21 at BK114 HB hHeld ⊢
     refine pu_ 0 4 HT_ ?_
     refine ta_ 1 5 HT_ HW_ hHeld ?_
     refine one_ (i := 2) (N := some 6) #[true, true, true, false, false, false, false, false, false, false, false, false, false, false, false, false, false, false, false, false, false, false, false, false, false, false, false, false, false, false, false, false, false, false, false, false, false, false, false, false, false, false, false, false] rfl rfl (one_of HT_.out B2x4_) (by decide) (fun K hK => ?_)
     refine goes_ Try.func69 B2x4_ rfl #[.int .i64 a0_0, .int .i64 0, .int .i64 4] (by rfl) rfl rfl B2x1_ ?_
     with_reducible refine (spec_l01In.calls a0_0 0 4 true _ A4.out).mono ?_
     rintro e w' ⟨rfl, ⟨nd, rfl⟩⟩
     refine ⟨_, rfl, ?_⟩
     refine hK.out _ _ ⟨(blk_cell BK114.out 0).trans rfl, (blk_cell BK114.out 1).trans rfl, (blk_cell BK114.out 2).trans rfl, (blk_cell BK114.out 3).trans rfl, (blk_cell BK114.out 4).trans rfl, (blk_cell BK114.out 5).trans rfl, (blk_cell BK114.out 6).trans rfl, (blk_cell BK114.out 7).trans rfl, (blk_cell BK114.out 8).trans rfl, (blk_cell BK114.out 9).trans rfl, (blk_cell BK114.out 10).trans rfl, (blk_cell BK114.out 11).trans rfl, (blk_cell BK114.out 12).trans rfl⟩ (fun hHeld => ?_)
     clear hK K
     refine norm_ (a' := ?_) ?_ ?_
     rotate_left
     ·show Act.put _ (some 6) _ = _
      simp only [Act.put, List.setIfInBounds_toArray, List.set_cons_zero, List.set_cons_succ, i64_w, i32_w]
      rfl
     refine pu_ 3 7 HT_ ?_
     refine pu_ 4 8 HT_ ?_
     refine pu_ 5 9 HT_ ?_
     refine ta_ 6 10 HT_ HW_ hHeld ?_
     refine one_ (i := 7) (N := some 11) #[true, true, true, true, true, true, true, true, false, false, false, false, false, false, false, false, false, false, false, false, false, false, false, false, false, false, false, false, false, false, false, false, false, false, false, false, false, false, false, false, false, false, false, false] rfl rfl (one_of HT_.out B2x4_) (by decide) (fun K hK => ?_)
     refine goes_ Try.func69 B2x4_ rfl #[.int .i64 a0_1, .int .i64 0, .int .i64 65535] (by rfl) rfl rfl B2x1_ ?_
     with_reducible refine (spec_l01In.calls a0_1 0 65535 true _ A6.out).mono ?_
     rintro e w' ⟨rfl, ⟨nd, rfl⟩⟩
     refine ⟨_, rfl, ?_⟩
     refine hK.out _ _ ⟨(blk_cell BK114.out 0).trans rfl, (blk_cell BK114.out 1).trans rfl, (blk_cell BK114.out 2).trans rfl, (blk_cell BK114.out 3).trans rfl, (blk_cell BK114.out 4).trans rfl, (blk_cell BK114.out 5).trans rfl, (blk_cell BK114.out 6).trans rfl, (blk_cell BK114.out 7).trans rfl, (blk_cell BK114.out 8).trans rfl, (blk_cell BK114.out 9).trans rfl, (blk_cell BK114.out 10).trans rfl, (blk_cell BK114.out 11).trans rfl, (blk_cell BK114.out 12).trans rfl⟩ (fun hHeld => ?_)
     clear hK K
     refine norm_ (a' := ?_) ?_ ?_
     rotate_left
     ·show Act.put _ (some 11) _ = _
      simp only [Act.put, List.setIfInBounds_toArray, List.set_cons_zero, List.set_cons_succ, i64_w, i32_w]
      rfl
     refine pu_ 8 12 HT_ ?_
     refine pu_ 9 13 HT_ ?_
     refine pu_ 10 14 HT_ ?_
     refine pu_ 11 15 HT_ ?_
     refine ta_ 12 16 HT_ HW_ hHeld ?_
     refine one_ (i := 13) (N := some 17) #[true, true, true, true, true, true, true, true, true, true, true, true, true, true, false, false, false, false, false, false, false, false, false, false, false, false, false, false, false, false, false, false, false, false, false, false, false, false, false, false, false, false, false, false] rfl rfl (one_of HT_.out B2x4_) (by decide) (fun K hK => ?_)
     refine goes_ Try.func69 B2x4_ rfl #[.int .i64 a0_2, .int .i64 0, .int .i64 65535] (by rfl) rfl rfl B2x1_ ?_
     with_reducible refine (spec_l01In.calls a0_2 0 65535 false _ A8.out).mono ?_
     rintro e w' ⟨rfl, ⟨nd, rfl⟩⟩
     refine ⟨_, rfl, ?_⟩
     refine hK.out _ _ ⟨(blk_cell BK114.out 0).trans rfl, (blk_cell BK114.out 1).trans rfl, (blk_cell BK114.out 2).trans rfl, (blk_cell BK114.out 3).trans rfl, (blk_cell BK114.out 4).trans rfl, (blk_cell BK114.out 5).trans rfl, (blk_cell BK114.out 6).trans rfl, (blk_cell BK114.out 7).trans rfl, (blk_cell BK114.out 8).trans rfl, (blk_cell BK114.out 9).trans rfl, (blk_cell BK114.out 10).trans rfl, (blk_cell BK114.out 11).trans rfl, (blk_cell BK114.out 12).trans rfl⟩ (fun hHeld => ?_)
     clear hK K
     refine norm_ (a' := ?_) ?_ ?_
     rotate_left
     ·show Act.put _ (some 17) _ = _
      simp only [Act.put, List.setIfInBounds_toArray, List.set_cons_zero, List.set_cons_succ, i64_w, i32_w]
      rfl
     refine pu_ 14 18 HT_ ?_
     refine pu_ 15 19 HT_ ?_
     refine pu_ 16 20 HT_ ?_
     refine of_ 17 21 HT_ ?_
     refine of_ 18 22 HT_ ?_
     refine of_ 19 23 HT_ ?_
     refine of_ 20 24 HT_ ?_
     refine pu_ 21 25 HT_ ?_
     refine pu_ 22 26 HT_ ?_
     refine of_ 23 27 HT_ ?_
     refine of_ 24 28 HT_ ?_
     refine of_ 25 29 HT_ ?_
     refine of_ 26 30 HT_ ?_
     refine pu_ 27 31 HT_ ?_
     refine pu_ 28 32 HT_ ?_
     refine of_ 29 33 HT_ ?_
     refine of_ 30 34 HT_ ?_
     refine of_ 31 35 HT_ ?_
     refine of_ 32 36 HT_ ?_
     refine of_ 33 37 HT_ ?_
     refine of_ 34 38 HT_ ?_
     refine of_ 35 39 HT_ ?_
     refine of_ 36 40 HT_ ?_
     refine pu_ 37 41 HT_ ?_
     refine pu_ 38 42 HT_ ?_
     refine of_ 39 43 HT_ ?_
     refine of_ 40 44 HT_ ?_
     refine of_ 41 45 HT_ ?_
     refine of_ 42 46 HT_ ?_
     refine pu_ 43 47 HT_ ?_
     refine done_ (done_of HT_.out B2x4_) ?_
     try go_wp2
     go_meet
     case rel => exact ⟨_, (true), (be_), H', ⟨B2x7_⟩, ⟨B2x2_⟩, ⟨B2x0_⟩⟩
   ·replace c7 := Bool.eq_false_iff.mpr c7
    subst c7
    rw [if_neg (show ¬ (false = true) by decide)] at H
    have H' := Aside0.mk H
    clear H
    try go_wp2
    replace BK114 := Aside0.mk (blk_drew BK114.out)
    replace HB := Aside0.mk (below_drew1 HB.out)
    refine start_ (n := 44) (S := fun w' => w'.cell? ⟨gb114, 0, none⟩ = some (.int .i64 a0_0) ∧ w'.cell? ⟨gb114, 1, none⟩ = some (.int .i64 a0_1) ∧ w'.cell? ⟨gb114, 2, none⟩ = some (.int .i64 a0_2) ∧ w'.cell? ⟨gb114, 3, none⟩ = some (.int .i64 a0_3) ∧ w'.cell? ⟨gb114, 4, none⟩ = some (.string a0_4) ∧ w'.cell? ⟨gb114, 5, none⟩ = some (.int .i64 a0_5) ∧ w'.cell? ⟨gb114, 6, none⟩ = some (.int .i64 a0_6) ∧ w'.cell? ⟨gb114, 7, none⟩ = some (.bool a0_7) ∧ w'.cell? ⟨gb114, 8, none⟩ = some (.string a0_8) ∧ w'.cell? ⟨gb114, 9, none⟩ = some (.slice A0_9 l0_9.length c0_9) ∧ w'.cell? ⟨gb114, 10, none⟩ = some (.bool a0_10) ∧ w'.cell? ⟨gb114, 11, none⟩ = some (.int .i64 a0_11) ∧ w'.cell? ⟨gb114, 12, none⟩ = some (.int .i64 a0_12)) (ds := []) #[false, false, false, false, false, false, false, false, false, false, false, false, false, false, false, false, false, false, false, false, false, false, false, false, false, false, false, false, false, false, false, false, false, false, false, false, false, false, false, false, false, false, false, false] B2x4_ rfl rfl ⟨(blk_cell BK114.out 0).trans rfl, (blk_cell BK114.out 1).trans rfl, (blk_cell BK114.out 2).trans rfl, (blk_cell BK114.out 3).trans rfl, (blk_cell BK114.out 4).trans rfl, (blk_cell BK114.out 5).trans rfl, (blk_cell BK114.out 6).trans rfl, (blk_cell BK114.out 7).trans rfl, (blk_cell BK114.out 8).trans rfl, (blk_cell BK114.out 9).trans rfl, (blk_cell BK114.out 10).trans rfl, (blk_cell BK114.out 11).trans rfl, (blk_cell BK114.out 12).trans rfl⟩ (fun hHeld => ?_); refine with_tabW spec_StreamOk.tab1 spec_StreamOk.bits1 (fun HT_ HW_ => ?_)
    generalize w3.drew = w22 at BK114 HB hHeld ⊢
    refine pu_ 0 4 HT_ ?_
    refine ta_ 1 5 HT_ HW_ hHeld ?_
    refine one_ (i := 2) (N := some 6) #[true, true, true, false, false, false, false, false, false, false, false, false, false, false, false, false, false, false, false, false, false, false, false, false, false, false, false, false, false, false, false, false, false, false, false, false, false, false, false, false, false, false, false, false] rfl rfl (one_of HT_.out B2x4_) (by decide) (fun K hK => ?_)
    refine goes_ Try.func69 B2x4_ rfl #[.int .i64 a0_0, .int .i64 0, .int .i64 4] (by rfl) rfl rfl B2x1_ ?_
    with_reducible refine (spec_l01In.calls a0_0 0 4 true _ A4.out).mono ?_
    rintro e w' ⟨rfl, ⟨nd, rfl⟩⟩
    refine ⟨_, rfl, ?_⟩
    refine hK.out _ _ ⟨(blk_cell BK114.out 0).trans rfl, (blk_cell BK114.out 1).trans rfl, (blk_cell BK114.out 2).trans rfl, (blk_cell BK114.out 3).trans rfl, (blk_cell BK114.out 4).trans rfl, (blk_cell BK114.out 5).trans rfl, (blk_cell BK114.out 6).trans rfl, (blk_cell BK114.out 7).trans rfl, (blk_cell BK114.out 8).trans rfl, (blk_cell BK114.out 9).trans rfl, (blk_cell BK114.out 10).trans rfl, (blk_cell BK114.out 11).trans rfl, (blk_cell BK114.out 12).trans rfl⟩ (fun hHeld => ?_)
    clear hK K
    refine norm_ (a' := ?_) ?_ ?_
    rotate_left
    ·show Act.put _ (some 6) _ = _
     simp only [Act.put, List.setIfInBounds_toArray, List.set_cons_zero, List.set_cons_succ, i64_w, i32_w]
     rfl
    refine pu_ 3 7 HT_ ?_
    refine pu_ 4 8 HT_ ?_
    refine pu_ 5 9 HT_ ?_
    refine ta_ 6 10 HT_ HW_ hHeld ?_
    refine one_ (i := 7) (N := some 11) #[true, true, true, true, true, true, true, true, false, false, false, false, false, false, false, false, false, false, false, false, false, false, false, false, false, false, false, false, false, false, false, false, false, false, false, false, false, false, false, false, false, false, false, false] rfl rfl (one_of HT_.out B2x4_) (by decide) (fun K hK => ?_)
    refine goes_ Try.func69 B2x4_ rfl #[.int .i64 a0_1, .int .i64 0, .int .i64 65535] (by rfl) rfl rfl B2x1_ ?_
    with_reducible refine (spec_l01In.calls a0_1 0 65535 false _ A6.out).mono ?_
    rintro e w' ⟨rfl, ⟨nd, rfl⟩⟩
    refine ⟨_, rfl, ?_⟩
    refine hK.out _ _ ⟨(blk_cell BK114.out 0).trans rfl, (blk_cell BK114.out 1).trans rfl, (blk_cell BK114.out 2).trans rfl, (blk_cell BK114.out 3).trans rfl, (blk_cell BK114.out 4).trans rfl, (blk_cell BK114.out 5).trans rfl, (blk_cell BK114.out 6).trans rfl, (blk_cell BK114.out 7).trans rfl, (blk_cell BK114.out 8).trans rfl, (blk_cell BK114.out 9).trans rfl, (blk_cell BK114.out 10).trans rfl, (blk_cell BK114.out 11).trans rfl, (blk_cell BK114.out 12).trans rfl⟩ (fun hHeld => ?_)
    clear hK K
    refine norm_ (a' := ?_) ?_ ?_
    rotate_left
    ·show Act.put _ (some 11) _ = _
     simp only [Act.put, List.setIfInBounds_toArray, List.set_cons_zero, List.set_cons_succ, i64_w, i32_w]
     rfl
    refine pu_ 8 12 HT_ ?_
    refine pu_ 9 13 HT_ ?_
    refine pu_ 10 14 HT_ ?_
    refine of_ 11 15 HT_ ?_
    refine of_ 12 16 HT_ ?_
    refine of_ 13 17 HT_ ?_
    refine of_ 14 18 HT_ ?_
    refine pu_ 15 19 HT_ ?_
    refine pu_ 16 20 HT_ ?_
    refine of_ 17 21 HT_ ?_
    refine of_ 18 22 HT_ ?_
    refine of_ 19 23 HT_ ?_
    refine of_ 20 24 HT_ ?_
    refine pu_ 21 25 HT_ ?_
    refine pu_ 22 26 HT_ ?_
    refine of_ 23 27 HT_ ?_
    refine of_ 24 28 HT_ ?_
    refine of_ 25 29 HT_ ?_
    refine of_ 26 30 HT_ ?_
    refine pu_ 27 31 HT_ ?_
    refine pu_ 28 32 HT_ ?_
    refine of_ 29 33 HT_ ?_
    refine of_ 30 34 HT_ ?_
    refine of_ 31 35 HT_ ?_
    refine of_ 32 36 HT_ ?_
    refine of_ 33 37 HT_ ?_
    refine of_ 34 38 HT_ ?_
    refine of_ 35 39 HT_ ?_
    refine of_ 36 40 HT_ ?_
    refine pu_ 37 41 HT_ ?_
    refine pu_ 38 42 HT_ ?_
    refine of_ 39 43 HT_ ?_
    refine of_ 40 44 HT_ ?_
    refine of_ 41 45 HT_ ?_
    refine of_ 42 46 HT_ ?_
    refine pu_ 43 47 HT_ ?_
    refine done_ (done_of HT_.out B2x4_) ?_
    try go_wp2
    go_meet
    case rel => exact ⟨_, (true), (be_), H', ⟨B2x7_⟩, ⟨B2x2_⟩, ⟨B2x0_⟩⟩
  ·replace c5 := Bool.eq_false_iff.mpr c5
   subst c5
   rw [if_neg (show ¬ (false = true) by decide)] at H
   have H' := Aside0.mk H
   clear H
   try go_wp2
   replace BK114 := Aside0.mk (blk_drew BK114.out)
   replace HB := Aside0.mk (below_drew1 HB.out)
   refine start_ (n := 44) (S := fun w' => w'.cell? ⟨gb114, 0, none⟩ = some (.int .i64 a0_0) ∧ w'.cell? ⟨gb114, 1, none⟩ = some (.int .i64 a0_1) ∧ w'.cell? ⟨gb114, 2, none⟩ = some (.int .i64 a0_2) ∧ w'.cell? ⟨gb114, 3, none⟩ = some (.int .i64 a0_3) ∧ w'.cell? ⟨gb114, 4, none⟩ = some (.string a0_4) ∧ w'.cell? ⟨gb114, 5, none⟩ = some (.int .i64 a0_5) ∧ w'.cell? ⟨gb114, 6, none⟩ = some (.int .i64 a0_6) ∧ w'.cell? ⟨gb114, 7, none⟩ = some (.bool a0_7) ∧ w'.cell? ⟨gb114, 8, none⟩ = some (.string a0_8) ∧ w'.cell? ⟨gb114, 9, none⟩ = some (.slice A0_9 l0_9.length c0_9) ∧ w'.cell? ⟨gb114, 10, none⟩ = some (.bool a0_10) ∧ w'.cell? ⟨gb114, 11, none⟩ = some (.int .i64 a0_11) ∧ w'.cell? ⟨gb114, 12, none⟩ = some (.int .i64 a0_12)) (ds := []) #[false, false, false, false, false, false, false, false, false, false, false, false, false, false, false, false, false, false, false, false, false, false, false, false, false, false, false, false, false, false, false, false, false, false, false, false, false, false, false, false, false, false, false, false] B2x4_ rfl rfl ⟨(blk_cell BK114.out 0).trans rfl, (blk_cell BK114.out 1).trans rfl, (blk_cell BK114.out 2).trans rfl, (blk_cell BK114.out 3).trans rfl, (blk_cell BK114.out 4).trans rfl, (blk_cell BK114.out 5).trans rfl, (blk_cell BK114.out 6).trans rfl, (blk_cell BK114.out 7).trans rfl, (blk_cell BK114.out 8).trans rfl, (blk_cell BK114.out 9).trans rfl, (blk_cell BK114.out 10).trans rfl, (blk_cell BK114.out 11).trans rfl, (blk_cell BK114.out 12).trans rfl⟩ (fun hHeld => ?_); refine with_tabW spec_StreamOk.tab1 spec_StreamOk.bits1 (fun HT_ HW_ => ?_)
   generalize w3.drew = w23 at BK114 HB hHeld ⊢
   refine pu_ 0 4 HT_ ?_
   refine ta_ 1 5 HT_ HW_ hHeld ?_
   refine one_ (i := 2) (N := some 6) #[true, true, true, false, false, false, false, false, false, false, false, false, false, false, false, false, false, false, false, false, false, false, false, false, false, false, false, false, false, false, false, false, false, false, false, false, false, false, false, false, false, false, false, false] rfl rfl (one_of HT_.out B2x4_) (by decide) (fun K hK => ?_)
   refine goes_ Try.func69 B2x4_ rfl #[.int .i64 a0_0, .int .i64 0, .int .i64 4] (by rfl) rfl rfl B2x1_ ?_
   with_reducible refine (spec_l01In.calls a0_0 0 4 false _ A4.out).mono ?_
   rintro e w' ⟨rfl, ⟨nd, rfl⟩⟩
   refine ⟨_, rfl, ?_⟩
   refine hK.out _ _ ⟨(blk_cell BK114.out 0).trans rfl, (blk_cell BK114.out 1).trans rfl, (blk_cell BK114.out 2).trans rfl, (blk_cell BK114.out 3).trans rfl, (blk_cell BK114.out 4).trans rfl, (blk_cell BK114.out 5).trans rfl, (blk_cell BK114.out 6).trans rfl, (blk_cell BK114.out 7).trans rfl, (blk_cell BK114.out 8).trans rfl, (blk_cell BK114.out 9).trans rfl, (blk_cell BK114.out 10).trans rfl, (blk_cell BK114.out 11).trans rfl, (blk_cell BK114.out 12).trans rfl⟩ (fun hHeld => ?_)
   clear hK K
   refine norm_ (a' := ?_) ?_ ?_
   rotate_left
   ·show Act.put _ (some 6) _ = _
    simp only [Act.put, List.setIfInBounds_toArray, List.set_cons_zero, List.set_cons_succ, i64_w, i32_w]
    rfl
   refine pu_ 3 7 HT_ ?_
   refine pu_ 4 8 HT_ ?_
   refine of_ 5 9 HT_ ?_
   refine of_ 6 10 HT_ ?_
   refine of_ 7 11 HT_ ?_
   refine of_ 8 12 HT_ ?_
   refine pu_ 9 13 HT_ ?_
   refine pu_ 10 14 HT_ ?_
   refine of_ 11 15 HT_ ?_
   refine of_ 12 16 HT_ ?_
   refine of_ 13 17 HT_ ?_
   refine of_ 14 18 HT_ ?_
   refine pu_ 15 19 HT_ ?_
   refine pu_ 16 20 HT_ ?_
   refine of_ 17 21 HT_ ?_
   refine of_ 18 22 HT_ ?_
   refine of_ 19 23 HT_ ?_
   refine of_ 20 24 HT_ ?_
   refine pu_ 21 25 HT_ ?_
   refine pu_ 22 26 HT_ ?_
   refine of_ 23 27 HT_ ?_
   refine of_ 24 28 HT_ ?_
   refine of_ 25 29 HT_ ?_
   refine of_ 26 30 HT_ ?_
   refine pu_ 27 31 HT_ ?_
   refine pu_ 28 32 HT_ ?_
   refine of_ 29 33 HT_ ?_
   refine of_ 30 34 HT_ ?_
   refine of_ 31 35 HT_ ?_
   refine of_ 32 36 HT_ ?_
   refine of_ 33 37 HT_ ?_
   refine of_ 34 38 HT_ ?_
   refine of_ 35 39 HT_ ?_
   refine of_ 36 40 HT_ ?_
   refine pu_ 37 41 HT_ ?_
   refine pu_ 38 42 HT_ ?_
   refine of_ 39 43 HT_ ?_
   refine of_ 40 44 HT_ ?_
   refine of_ 41 45 HT_ ?_
   refine of_ 42 46 HT_ ?_
   refine pu_ 43 47 HT_ ?_
   refine done_ (done_of HT_.out B2x4_) ?_
   try go_wp2
   go_meet
   case rel => exact ⟨_, (true), (be_), H', ⟨B2x7_⟩, ⟨B2x2_⟩, ⟨B2x0_⟩⟩
 case rest =>
  clear HC2
  obtain ⟨kq, x47_1, rfl, HA, HJ1, BK114, HB⟩ := hcut
  cases kq with
  | zero => exact absurd HA.out (by simp [spec_StreamOk.j0])
  | succ kj1 =>
   have H := HA.out
   clear HA
   simp only [spec_StreamOk.j0] at H
   by_cases c24 : x47_1 = true
   ·subst c24
    rw [if_pos rfl] at H
    obtain rfl := Option.some.inj H
    go_wp2
    go_ret
    exact ⟨B2x6_, B2x0_⟩
   replace c24 := Bool.eq_false_iff.mpr c24
   subst c24
   rw [if_neg (show ¬ (false = true) by decide)] at H
   have HC25 := Aside0.mk H
   clear H
   go_upto_region 3 with (fail)
   go_cut [92] (fun v92 wc => ∃ (kq : Nat) (x92_24 : Bool), v92 = .bool x92_24 ∧ Aside0 (spec_StreamOk.j1 kq x92_24 a0_0 a0_1 a0_2 a0_3 a0_4 a0_5 a0_6 a0_7 a0_8 l0_9 a0_10 a0_11 a0_12 = some r) ∧ Aside0 (kq ≤ kj1) ∧ Aside0 (wc.heap[gb114]? = some (.cells #[.int .i64 a0_0, .int .i64 a0_1, .int .i64 a0_2, .int .i64 a0_3, .string a0_4, .int .i64 a0_5, .int .i64 a0_6, .bool a0_7, .string a0_8, (.slice A0_9 l0_9.length c0_9), .bool a0_10, .int .i64 a0_11, .int .i64 a0_12] 39 (0, 0))) ∧ Aside0 (Below w.heap.size w wc))
   case first =>
    have H := HC25.out
    clear HC25
    by_cases c26 : a0_6 = 2
    ·rw [if_pos c26] at H
     have c26b0 := beq_iff_eq.mpr c26
     have c26b1 := bne_eq_false_iff_eq.mpr c26
     clear c26
     (first | rw [c26b0] | (simp only [i64_w, i32_w]; rw [c26b0]) | skip)
     by_cases c27 : a0_5 = (a0_4.size : Int)
     ·rw [if_pos c27] at H
      have c27b0 := beq_iff_eq.mpr c27
      have c27b1 := bne_eq_false_iff_eq.mpr c27
      clear c27
      by_cases c28 : a0_6 = 3
      ·rw [if_pos c28] at H
       have c28b0 := beq_iff_eq.mpr c28
       have c28b1 := bne_eq_false_iff_eq.mpr c28
       clear c28
       by_cases c29 : a0_4.toList = ([] : List UInt8)
       ·rw [if_pos c29] at H
        have c29b0 := beq_iff_eq.mpr c29
        have c29b1 := bne_eq_false_iff_eq.mpr c29
        clear c29
        by_cases c30 : (a0_8.size : Int) > 1000
        ·rw [if_pos c30] at H
         have c30b0 : decide (1000 < (a0_8.size : Int)) = true := decide_eq_true c30
         have c30b1 : decide (1000 < a0_8.size) = true := decide_eq_true (by omega)
         clear c30
         have H' := Aside0.mk H
         clear H
         obtain ⟨hcz31_0, hcz31_1, hcz31_2, hcz31_3, hcz31_4, hcz31_5, hcz31_6, hcz31_7, hcz31_8, hcz31_9, hcz31_10, hcz31_11, hcz31_12⟩ := cl13 BK114.out
         obtain ⟨hfz31_0, hfz31_1, hfz31_2, hfz31_3, hfz31_4, hfz31_5, hfz31_6, hfz31_7, hfz31_8, hfz31_9, hfz31_10, hfz31_11, hfz31_12⟩ := fr13 BK114.out
         go_wp2
         go_meet
         case rel => exact ⟨_, (true), (be_), H', ⟨B2x3_⟩, ⟨B2x2_⟩, ⟨B2x0_⟩⟩
        ·rw [if_neg c30] at H
         have c30b0 : decide (1000 < (a0_8.size : Int)) = false := decide_eq_false c30
         have c30b1 : decide (1000 < a0_8.size) = false := decide_eq_false (by omega)
         clear c30
         by_cases c32 : (l0_9.length : Int) > 8
         ·rw [if_pos c32] at H
          have c32b0 : decide (8 < (l0_9.length : Int)) = true := decide_eq_true c32
          have c32b1 : decide (8 < l0_9.length) = true := decide_eq_true (by omega)
          clear c32
          have H' := Aside0.mk H
          clear H
          obtain ⟨hcz33_0, hcz33_1, hcz33_2, hcz33_3, hcz33_4, hcz33_5, hcz33_6, hcz33_7, hcz33_8, hcz33_9, hcz33_10, hcz33_11, hcz33_12⟩ := cl13 BK114.out
          obtain ⟨hfz33_0, hfz33_1, hfz33_2, hfz33_3, hfz33_4, hfz33_5, hfz33_6, hfz33_7, hfz33_8, hfz33_9, hfz33_10, hfz33_11, hfz33_12⟩ := fr13 BK114.out
          go_wp2
          go_meet
          case rel => exact ⟨_, (true), (be_), H', ⟨B2x3_⟩, ⟨B2x2_⟩, ⟨B2x0_⟩⟩
         ·rw [if_neg c32] at H
          have c32b0 : decide (8 < (l0_9.length : Int)) = false := decide_eq_false c32
          have c32b1 : decide (8 < l0_9.length) = false := decide_eq_false (by omega)
          clear c32
          replace H := bsi H
          obtain ⟨t122, A34, H⟩ := H
          (try dsimp only at H)
          by_cases c35 : t122 = true
          ·subst c35
           rw [if_pos rfl] at H
           replace H := bsi H
           obtain ⟨t123, A36, H⟩ := H
           (try dsimp only at H)
           have H' := Aside0.mk H
           clear H
           obtain ⟨hcz37_0, hcz37_1, hcz37_2, hcz37_3, hcz37_4, hcz37_5, hcz37_6, hcz37_7, hcz37_8, hcz37_9, hcz37_10, hcz37_11, hcz37_12⟩ := cl13 BK114.out
           obtain ⟨hfz37_0, hfz37_1, hfz37_2, hfz37_3, hfz37_4, hfz37_5, hfz37_6, hfz37_7, hfz37_8, hfz37_9, hfz37_10, hfz37_11, hfz37_12⟩ := fr13 BK114.out
           go_wp2_with (first | (go_at_call 69; (with_reducible refine (spec_l01In.calls a0_11 0 1000000000 true _ A34.out).mono ?_); rintro e w' ⟨rfl, ⟨nd, rfl⟩⟩) | (go_at_call 69; (with_reducible refine (spec_l01In.calls a0_12 0 12 t123 _ A36.out).mono ?_); rintro e w' ⟨rfl, ⟨nd, rfl⟩⟩))
           go_meet
           case rel => exact ⟨_, (!t123), (be_), H', ⟨B2x3_⟩, ⟨B2x2_⟩, ⟨B2x0_⟩⟩
          ·replace c35 := Bool.eq_false_iff.mpr c35
           subst c35
           rw [if_neg (show ¬ (false = true) by decide)] at H
           have H' := Aside0.mk H
           clear H
           obtain ⟨hcz38_0, hcz38_1, hcz38_2, hcz38_3, hcz38_4, hcz38_5, hcz38_6, hcz38_7, hcz38_8, hcz38_9, hcz38_10, hcz38_11, hcz38_12⟩ := cl13 BK114.out
           obtain ⟨hfz38_0, hfz38_1, hfz38_2, hfz38_3, hfz38_4, hfz38_5, hfz38_6, hfz38_7, hfz38_8, hfz38_9, hfz38_10, hfz38_11, hfz38_12⟩ := fr13 BK114.out
           go_wp2_with (first | (go_at_call 69; (with_reducible refine (spec_l01In.calls a0_11 0 1000000000 false _ A34.out).mono ?_); rintro e w' ⟨rfl, ⟨nd, rfl⟩⟩))
           go_meet
           case rel => exact ⟨_, (true), (be_), H', ⟨B2x3_⟩, ⟨B2x2_⟩, ⟨B2x0_⟩⟩
       ·rw [if_neg c29] at H
        have c29b0 := beq_eq_false_iff_ne.mpr c29
        have c29b1 := bne_iff_ne.mpr c29
        have H' := Aside0.mk H
        clear H
        obtain ⟨hcz39_0, hcz39_1, hcz39_2, hcz39_3, hcz39_4, hcz39_5, hcz39_6, hcz39_7, hcz39_8, hcz39_9, hcz39_10, hcz39_11, hcz39_12⟩ := cl13 BK114.out
        obtain ⟨hfz39_0, hfz39_1, hfz39_2, hfz39_3, hfz39_4, hfz39_5, hfz39_6, hfz39_7, hfz39_8, hfz39_9, hfz39_10, hfz39_11, hfz39_12⟩ := fr13 BK114.out
        go_wp2
        go_meet
        case rel => exact ⟨_, (true), (be_), H', ⟨B2x3_⟩, ⟨B2x2_⟩, ⟨B2x0_⟩⟩
      ·rw [if_neg c28] at H
       have c28b0 := beq_eq_false_iff_ne.mpr c28
       have c28b1 := bne_iff_ne.mpr c28
       by_cases c40 : (a0_8.size : Int) > 1000
       ·rw [if_pos c40] at H
        have c40b0 : decide (1000 < (a0_8.size : Int)) = true := decide_eq_true c40
        have c40b1 : decide (1000 < a0_8.size) = true := decide_eq_true (by omega)
        clear c40
        have H' := Aside0.mk H
        clear H
        obtain ⟨hcz41_0, hcz41_1, hcz41_2, hcz41_3, hcz41_4, hcz41_5, hcz41_6, hcz41_7, hcz41_8, hcz41_9, hcz41_10, hcz41_11, hcz41_12⟩ := cl13 BK114.out
        obtain ⟨hfz41_0, hfz41_1, hfz41_2, hfz41_3, hfz41_4, hfz41_5, hfz41_6, hfz41_7, hfz41_8, hfz41_9, hfz41_10, hfz41_11, hfz41_12⟩ := fr13 BK114.out
        go_wp2
        go_meet
        case rel => exact ⟨_, (true), (be_), H', ⟨B2x3_⟩, ⟨B2x2_⟩, ⟨B2x0_⟩⟩
       ·rw [if_neg c40] at H
        have c40b0 : decide (1000 < (a0_8.size : Int)) = false := decide_eq_false c40
        have c40b1 : decide (1000 < a0_8.size) = false := decide_eq_false (by omega)
        clear c40
        by_cases c42 : (l0_9.length : Int) > 8
        ·rw [if_pos c42] at H
         have c42b0 : decide (8 < (l0_9.length : Int)) = true := decide_eq_true c42
         have c42b1 : decide (8 < l0_9.length) = true := decide_eq_true (by omega)
         clear c42
         have H' := Aside0.mk H
         clear H
         obtain ⟨hcz43_0, hcz43_1, hcz43_2, hcz43_3, hcz43_4, hcz43_5, hcz43_6, hcz43_7, hcz43_8, hcz43_9, hcz43_10, hcz43_11, hcz43_12⟩ := cl13 BK114.out
         obtain ⟨hfz43_0, hfz43_1, hfz43_2, hfz43_3, hfz43_4, hfz43_5, hfz43_6, hfz43_7, hfz43_8, hfz43_9, hfz43_10, hfz43_11, hfz43_12⟩ := fr13 BK114.out
         go_wp2
         go_meet
         case rel => exact ⟨_, (true), (be_), H', ⟨B2x3_⟩, ⟨B2x2_⟩, ⟨B2x0_⟩⟩
        ·rw [if_neg c42] at H
         have c42b0 : decide (8 < (l0_9.length : Int)) = false := decide_eq_false c42
         have c42b1 : decide (8 < l0_9.length) = false := decide_eq_false (by omega)
         clear c42
         replace H := bsi H
         obtain ⟨t124, A44, H⟩ := H
         (try dsimp only at H)
         by_cases c45 : t124 = true
         ·subst c45
          rw [if_pos rfl] at H
          replace H := bsi H
          obtain ⟨t125, A46, H⟩ := H
          (try dsimp only at H)
          have H' := Aside0.mk H
          clear H
          obtain ⟨hcz47_0, hcz47_1, hcz47_2, hcz47_3, hcz47_4, hcz47_5, hcz47_6, hcz47_7, hcz47_8, hcz47_9, hcz47_10, hcz47_11, hcz47_12⟩ := cl13 BK114.out
          obtain ⟨hfz47_0, hfz47_1, hfz47_2, hfz47_3, hfz47_4, hfz47_5, hfz47_6, hfz47_7, hfz47_8, hfz47_9, hfz47_10, hfz47_11, hfz47_12⟩ := fr13 BK114.out
          go_wp2_with (first | (go_at_call 69; (with_reducible refine (spec_l01In.calls a0_11 0 1000000000 true _ A44.out).mono ?_); rintro e w' ⟨rfl, ⟨nd, rfl⟩⟩) | (go_at_call 69; (with_reducible refine (spec_l01In.calls a0_12 0 12 t125 _ A46.out).mono ?_); rintro e w' ⟨rfl, ⟨nd, rfl⟩⟩))
          go_meet
          case rel => exact ⟨_, (!t125), (be_), H', ⟨B2x3_⟩, ⟨B2x2_⟩, ⟨B2x0_⟩⟩
         ·replace c45 := Bool.eq_false_iff.mpr c45
          subst c45
          rw [if_neg (show ¬ (false = true) by decide)] at H
          have H' := Aside0.mk H
          clear H
          obtain ⟨hcz48_0, hcz48_1, hcz48_2, hcz48_3, hcz48_4, hcz48_5, hcz48_6, hcz48_7, hcz48_8, hcz48_9, hcz48_10, hcz48_11, hcz48_12⟩ := cl13 BK114.out
          obtain ⟨hfz48_0, hfz48_1, hfz48_2, hfz48_3, hfz48_4, hfz48_5, hfz48_6, hfz48_7, hfz48_8, hfz48_9, hfz48_10, hfz48_11, hfz48_12⟩ := fr13 BK114.out
          go_wp2_with (first | (go_at_call 69; (with_reducible refine (spec_l01In.calls a0_11 0 1000000000 false _ A44.out).mono ?_); rintro e w' ⟨rfl, ⟨nd, rfl⟩⟩))
          go_meet
          case rel => exact ⟨_, (true), (be_), H', ⟨B2x3_⟩, ⟨B2x2_⟩, ⟨B2x0_⟩⟩
     ·rw [if_neg c27] at H
      have c27b0 := beq_eq_false_iff_ne.mpr c27
      have c27b1 := bne_iff_ne.mpr c27
      have H' := Aside0.mk H
      clear H
      obtain ⟨hcz49_0, hcz49_1, hcz49_2, hcz49_3, hcz49_4, hcz49_5, hcz49_6, hcz49_7, hcz49_8, hcz49_9, hcz49_10, hcz49_11, hcz49_12⟩ := cl13 BK114.out
      obtain ⟨hfz49_0, hfz49_1, hfz49_2, hfz49_3, hfz49_4, hfz49_5, hfz49_6, hfz49_7, hfz49_8, hfz49_9, hfz49_10, hfz49_11, hfz49_12⟩ := fr13 BK114.out
      go_wp2
      go_meet
      case rel => exact ⟨_, (true), (be_), H', ⟨B2x3_⟩, ⟨B2x2_⟩, ⟨B2x0_⟩⟩
    ·rw [if_neg c26] at H
     have c26b0 := beq_eq_false_iff_ne.mpr c26
     have c26b1 := bne_iff_ne.mpr c26
     (first | rw [c26b0] | (simp only [i64_w, i32_w]; rw [c26b0]) | skip)
     by_cases c50 : a0_6 = 3
     ·rw [if_pos c50] at H
      have c50b0 := beq_iff_eq.mpr c50
      have c50b1 := bne_eq_false_iff_eq.mpr c50
      clear c50
      by_cases c51 : a0_4.toList = ([] : List UInt8)
      ·rw [if_pos c51] at H
       have c51b0 := beq_iff_eq.mpr c51
       have c51b1 := bne_eq_false_iff_eq.mpr c51
       clear c51
       by_cases c52 : (a0_8.size : Int) > 1000
       ·rw [if_pos c52] at H
        have c52b0 : decide (1000 < (a0_8.size : Int)) = true := decide_eq_true c52
        have c52b1 : decide (1000 < a0_8.size) = true := decide_eq_true (by omega)
        clear c52
        have H' := Aside0.mk H
        clear H
        obtain ⟨hcz53_0, hcz53_1, hcz53_2, hcz53_3, hcz53_4, hcz53_5, hcz53_6, hcz53_7, hcz53_8, hcz53_9, hcz53_10, hcz53_11, hcz53_12⟩ := cl13 BK114.out
        obtain ⟨hfz53_0, hfz53_1, hfz53_2, hfz53_3, hfz53_4, hfz53_5, hfz53_6, hfz53_7, hfz53_8, hfz53_9, hfz53_10, hfz53_11, hfz53_12⟩ := fr13 BK114.out
        go_wp2
        go_meet
        case rel => exact ⟨_, (true), (be_), H', ⟨B2x3_⟩, ⟨B2x2_⟩, ⟨B2x0_⟩⟩
       ·rw [if_neg c52] at H
        have c52b0 : decide (1000 < (a0_8.size : Int)) = false := decide_eq_false c52
        have c52b1 : decide (1000 < a0_8.size) = false := decide_eq_false (by omega)
        clear c52
        by_cases c54 : (l0_9.length : Int) > 8
        ·rw [if_pos c54] at H
         have c54b0 : decide (8 < (l0_9.length : Int)) = true := decide_eq_true c54
         have c54b1 : decide (8 < l0_9.length) = true := decide_eq_true (by omega)
         clear c54
         have H' := Aside0.mk H
         clear H
         obtain ⟨hcz55_0, hcz55_1, hcz55_2, hcz55_3, hcz55_4, hcz55_5, hcz55_6, hcz55_7, hcz55_8, hcz55_9, hcz55_10, hcz55_11, hcz55_12⟩ := cl13 BK114.out
         obtain ⟨hfz55_0, hfz55_1, hfz55_2, hfz55_3, hfz55_4, hfz55_5, hfz55_6, hfz55_7, hfz55_8, hfz55_9, hfz55_10, hfz55_11, hfz55_12⟩ := fr13 BK114.out
         go_wp2
         go_meet
         case rel => exact ⟨_, (true), (be_), H', ⟨B2x3_⟩, ⟨B2x2_⟩, ⟨B2x0_⟩⟩
        ·rw [if_neg c54] at H
         have c54b0 : decide (8 < (l0_9.length : Int)) = false := decide_eq_false c54
         have c54b1 : decide (8 < l0_9.length) = false := decide_eq_false (by omega)
         clear c54
         replace H := bsi H
         obtain ⟨t126, A56, H⟩ := H
         (try dsimp only at H)
         by_cases c57 : t126 = true
         ·subst c57
          rw [if_pos rfl] at H
          replace H := bsi H
          obtain ⟨t127, A58, H⟩ := H
          (try dsimp only at H)
          have H' := Aside0.mk H
          clear H
          obtain ⟨hcz59_0, hcz59_1, hcz59_2, hcz59_3, hcz59_4, hcz59_5, hcz59_6, hcz59_7, hcz59_8, hcz59_9, hcz59_10, hcz59_11, hcz59_12⟩ := cl13 BK114.out
          obtain ⟨hfz59_0, hfz59_1, hfz59_2, hfz59_3, hfz59_4, hfz59_5, hfz59_6, hfz59_7, hfz59_8, hfz59_9, hfz59_10, hfz59_11, hfz59_12⟩ := fr13 BK114.out
          go_wp2_with (first | (go_at_call 69; (with_reducible refine (spec_l01In.calls a0_11 0 1000000000 true _ A56.out).mono ?_); rintro e w' ⟨rfl, ⟨nd, rfl⟩⟩) | (go_at_call 69; (with_reducible refine (spec_l01In.calls a0_12 0 12 t127 _ A58.out).mono ?_); rintro e w' ⟨rfl, ⟨nd, rfl⟩⟩))
          go_meet
          case rel => exact ⟨_, (!t127), (be_), H', ⟨B2x3_⟩, ⟨B2x2_⟩, ⟨B2x0_⟩⟩
         ·replace c57 := Bool.eq_false_iff.mpr c57
          subst c57
          rw [if_neg (show ¬ (false = true) by decide)] at H
          have H' := Aside0.mk H
          clear H
          obtain ⟨hcz60_0, hcz60_1, hcz60_2, hcz60_3, hcz60_4, hcz60_5, hcz60_6, hcz60_7, hcz60_8, hcz60_9, hcz60_10, hcz60_11, hcz60_12⟩ := cl13 BK114.out
          obtain ⟨hfz60_0, hfz60_1, hfz60_2, hfz60_3, hfz60_4, hfz60_5, hfz60_6, hfz60_7, hfz60_8, hfz60_9, hfz60_10, hfz60_11, hfz60_12⟩ := fr13 BK114.out
          go_wp2_with (first | (go_at_call 69; (with_reducible refine (spec_l01In.calls a0_11 0 1000000000 false _ A56.out).mono ?_); rintro e w' ⟨rfl, ⟨nd, rfl⟩⟩))
          go_meet
          case rel => exact ⟨_, (true), (be_), H', ⟨B2x3_⟩, ⟨B2x2_⟩, ⟨B2x0_⟩⟩
      ·rw [if_neg c51] at H
       have c51b0 := beq_eq_false_iff_ne.mpr c51
       have c51b1 := bne_iff_ne.mpr c51
       have H' := Aside0.mk H
       clear H
       obtain ⟨hcz61_0, hcz61_1, hcz61_2, hcz61_3, hcz61_4, hcz61_5, hcz61_6, hcz61_7, hcz61_8, hcz61_9, hcz61_10, hcz61_11, hcz61_12⟩ := cl13 BK114.out
       obtain ⟨hfz61_0, hfz61_1, hfz61_2, hfz61_3, hfz61_4, hfz61_5, hfz61_6, hfz61_7, hfz61_8, hfz61_9, hfz61_10, hfz61_11, hfz61_12⟩ := fr13 BK114.out
       go_wp2
       go_meet
       case rel => exact ⟨_, (true), (be_), H', ⟨B2x3_⟩, ⟨B2x2_⟩, ⟨B2x0_⟩⟩
     ·rw [if_neg c50] at H
      have c50b0 := beq_eq_false_iff_ne.mpr c50
      have c50b1 := bne_iff_ne.mpr c50
      by_cases c62 : (a0_8.size : Int) > 1000
      ·rw [if_pos c62] at H
       have c62b0 : decide (1000 < (a0_8.size : Int)) = true := decide_eq_true c62
       have c62b1 : decide (1000 < a0_8.size) = true := decide_eq_true (by omega)
       clear c62
       have H' := Aside0.mk H
       clear H
       obtain ⟨hcz63_0, hcz63_1, hcz63_2, hcz63_3, hcz63_4, hcz63_5, hcz63_6, hcz63_7, hcz63_8, hcz63_9, hcz63_10, hcz63_11, hcz63_12⟩ := cl13 BK114.out
       obtain ⟨hfz63_0, hfz63_1, hfz63_2, hfz63_3, hfz63_4, hfz63_5, hfz63_6, hfz63_7, hfz63_8, hfz63_9, hfz63_10, hfz63_11, hfz63_12⟩ := fr13 BK114.out
       go_wp2
       go_meet
       case rel => exact ⟨_, (true), (be_), H', ⟨B2x3_⟩, ⟨B2x2_⟩, ⟨B2x0_⟩⟩
      ·rw [if_neg c62] at H
       have c62b0 : decide (1000 < (a0_8.size : Int)) = false := decide_eq_false c62
       have c62b1 : decide (1000 < a0_8.size) = false := decide_eq_false (by omega)
       clear c62
       by_cases c64 : (l0_9.length : Int) > 8
       ·rw [if_pos c64] at H
        have c64b0 : decide (8 < (l0_9.length : Int)) = true := decide_eq_true c64
        have c64b1 : decide (8 < l0_9.length) = true := decide_eq_true (by omega)
        clear c64
        have H' := Aside0.mk H
        clear H
        obtain ⟨hcz65_0, hcz65_1, hcz65_2, hcz65_3, hcz65_4, hcz65_5, hcz65_6, hcz65_7, hcz65_8, hcz65_9, hcz65_10, hcz65_11, hcz65_12⟩ := cl13 BK114.out
        obtain ⟨hfz65_0, hfz65_1, hfz65_2, hfz65_3, hfz65_4, hfz65_5, hfz65_6, hfz65_7, hfz65_8, hfz65_9, hfz65_10, hfz65_11, hfz65_12⟩ := fr13 BK114.out
        go_wp2
        go_meet
        case rel => exact ⟨_, (true), (be_), H', ⟨B2x3_⟩, ⟨B2x2_⟩, ⟨B2x0_⟩⟩
       ·rw [if_neg c64] at H
        have c64b0 : decide (8 < (l0_9.length : Int)) = false := decide_eq_false c64
        have c64b1 : decide (8 < l0_9.length) = false := decide_eq_false (by omega)
        clear c64
        replace H := bsi H
        obtain ⟨t128, A66, H⟩ := H
        (try dsimp only at H)
        by_cases c67 : t128 = true
        ·subst c67
         rw [if_pos rfl] at H
         replace H := bsi H
         obtain ⟨t129, A68, H⟩ := H
         (try dsimp only at H)
         have H' := Aside0.mk H
         clear H
         obtain ⟨hcz69_0, hcz69_1, hcz69_2, hcz69_3, hcz69_4, hcz69_5, hcz69_6, hcz69_7, hcz69_8, hcz69_9, hcz69_10, hcz69_11, hcz69_12⟩ := cl13 BK114.out
         obtain ⟨hfz69_0, hfz69_1, hfz69_2, hfz69_3, hfz69_4, hfz69_5, hfz69_6, hfz69_7, hfz69_8, hfz69_9, hfz69_10, hfz69_11, hfz69_12⟩ := fr13 BK114.out
         go_wp2_with (first | (go_at_call 69; (with_reducible refine (spec_l01In.calls a0_11 0 1000000000 true _ A66.out).mono ?_); rintro e w' ⟨rfl, ⟨nd, rfl⟩⟩) | (go_at_call 69; (with_reducible refine (spec_l01In.calls a0_12 0 12 t129 _ A68.out).mono ?_); rintro e w' ⟨rfl, ⟨nd, rfl⟩⟩))
         go_meet
         case rel => exact ⟨_, (!t129), (be_), H', ⟨B2x3_⟩, ⟨B2x2_⟩, ⟨B2x0_⟩⟩
        ·replace c67 := Bool.eq_false_iff.mpr c67
         subst c67
         rw [if_neg (show ¬ (false = true) by decide)] at H
         have H' := Aside0.mk H
         clear H
         obtain ⟨hcz70_0, hcz70_1, hcz70_2, hcz70_3, hcz70_4, hcz70_5, hcz70_6, hcz70_7, hcz70_8, hcz70_9, hcz70_10, hcz70_11, hcz70_12⟩ := cl13 BK114.out
         obtain ⟨hfz70_0, hfz70_1, hfz70_2, hfz70_3, hfz70_4, hfz70_5, hfz70_6, hfz70_7, hfz70_8, hfz70_9, hfz70_10, hfz70_11, hfz70_12⟩ := fr13 BK114.out
         go_wp2_with (first | (go_at_call 69; (with_reducible refine (spec_l01In.calls a0_11 0 1000000000 false _ A66.out).mono ?_); rintro e w' ⟨rfl, ⟨nd, rfl⟩⟩))
         go_meet
         case rel => exact ⟨_, (true), (be_), H', ⟨B2x3_⟩, ⟨B2x2_⟩, ⟨B2x0_⟩⟩
   case rest =>
    clear HC25
    obtain ⟨kq, x92_24, rfl, HA, HJ24, BK114, HB⟩ := hcut
    cases kq with
    | zero => exact absurd HA.out (by simp [spec_StreamOk.j1])
    | succ kj24 =>
     have H := HA.out
     clear HA
     simp only [spec_StreamOk.j1] at H
     by_cases c71 : x92_24 = true
     ·subst c71
      rw [if_pos rfl] at H
      obtain rfl := Option.some.inj H
      go_wp2
      go_ret
      exact ⟨B2x6_, B2x0_⟩
     replace c71 := Bool.eq_false_iff.mpr c71
     subst c71
     rw [if_neg (show ¬ (false = true) by decide)] at H
     have H' := Aside0.mk H
     clear H
     go_wp2
     go_loopg [3] kj24 (fun kq v3 w' => ∃ (x3_3 : Int), v3 = .int .i64 x3_3 ∧ Aside0 (spec_StreamOk.l0 kq x3_3 a0_0 a0_1 a0_2 a0_3 a0_4 a0_5 a0_6 a0_7 a0_8 l0_9 a0_10 a0_11 a0_12 = some r) ∧ Aside0 (kq ≤ kj24) ∧ Aside0 (w'.heap[gb114]? = some (.cells #[.int .i64 a0_0, .int .i64 a0_1, .int .i64 a0_2, .int .i64 a0_3, .string a0_4, .int .i64 a0_5, .int .i64 a0_6, .bool a0_7, .string a0_8, (.slice A0_9 l0_9.length c0_9), .bool a0_10, .int .i64 a0_11, .int .i64 a0_12] 39 (0, 0))) ∧ Aside0 (Below w.heap.size w w'))
     case atStart => exact ⟨(0), (be_), H', ⟨Nat.le_refl _⟩, ⟨B2x2_⟩, ⟨B2x0_⟩⟩
     case round =>
      clear H'
      try clear c71
      obtain ⟨x3_3, rfl, HA, HK3, BK114, HB⟩ := hrel
      cases gk with
      | zero => exact absurd HA.out (by simp [spec_StreamOk.l0])
      | succ k3 =>
       have H := HA.out
       clear HA
       simp only [spec_StreamOk.l0] at H
       by_cases c72 : x3_3 < (l0_9.length : Int)
       ·rw [if_pos c72] at H
        have c72b0 : decide (x3_3 < (l0_9.length : Int)) = true := decide_eq_true c72
        clear c72
        by_cases c73 : 0 ≤ x3_3
        rotate_left
        ·rw [if_neg c73] at H
         exact absurd H (by simp)
        rw [if_pos c73] at H
        have c73b0 : decide (0 ≤ x3_3) = true := decide_eq_true c73
        clear c73
        replace H := bsi H
        obtain ⟨t131, A74, H⟩ := H
        (try dsimp only at H)
        by_cases c75 : t131 = true
        ·subst c75
         rw [if_pos rfl] at H
         replace H := bsi H
         obtain ⟨t133, A76, H⟩ := H
         (try dsimp only at H)
         by_cases c77 : t133 = true
         ·subst c77
          rw [if_pos rfl] at H
          have H' := Aside0.mk H
          clear H
          obtain ⟨hcz78_0, hcz78_1, hcz78_2, hcz78_3, hcz78_4, hcz78_5, hcz78_6, hcz78_7, hcz78_8, hcz78_9, hcz78_10, hcz78_11, hcz78_12⟩ := cl13 BK114.out
          obtain ⟨hfz78_0, hfz78_1, hfz78_2, hfz78_3, hfz78_4, hfz78_5, hfz78_6, hfz78_7, hfz78_8, hfz78_9, hfz78_10, hfz78_11, hfz78_12⟩ := fr13 BK114.out
          have p130 : 0 ≤ (x3_3 : Int) := of_decide_eq_true B2x5_
          have q130 : x3_3 < (l0_9.length : Int) := of_decide_eq_true B2x5_
          obtain ⟨ad130, e130, hx130_0, hx130_1⟩ := at_T143 HR0_9.out x3_3 p130 q130
          cases e130
          replace hx130_0 := (HB.out.cell (World.block_lt_of_cell? w _ hx130_0)).trans hx130_0
          replace hx130_1 := (HB.out.cell (World.block_lt_of_cell? w _ hx130_1)).trans hx130_1
          replace p130 := eq_true p130
          replace q130 := eq_true q130
          go_wp2_with (first | ((with_reducible refine gate_callee (f := 69) rfl ?_); refine goesL_ (some 106) rfl rfl Try.func69 B2x4_ rfl #[.int .i64 ((rd_T143 l0_9 x3_3).f0), .int .i64 0, .int .i64 65535] rfl B2x1_ ?_; (with_reducible refine (spec_l01In.calls ((rd_T143 l0_9 x3_3).f0) 0 65535 true _ A74.out).mono ?_); rintro e w' ⟨rfl, ⟨nd, rfl⟩⟩; refine ⟨_, rfl, ?_⟩; have p132 : 0 ≤ (x3_3 : Int) := of_decide_eq_true B2x5_; have q132 : x3_3 < (l0_9.length : Int) := of_decide_eq_true B2x5_; obtain ⟨ad132, e132, hx132_0, hx132_1⟩ := at_T143 HR0_9.out x3_3 p132 q132; obtain rfl : ad130 = ad132 := (by injection e132); replace hx132_0 := (HB.out.cell (World.block_lt_of_cell? w _ hx132_0)).trans hx132_0; replace hx132_1 := (HB.out.cell (World.block_lt_of_cell? w _ hx132_1)).trans hx132_1; replace p132 := eq_true p132; replace q132 := eq_true q132) | (go_at_call 69; (with_reducible refine (spec_l01In.calls (((rd_T143 l0_9 x3_3).f1).size : Int) 1 8 true _ A76.out).mono ?_); rintro e w' ⟨rfl, ⟨nd, rfl⟩⟩))
          go_roundg k3
          case measure => have := HJ1.out; have := HJ24.out; have := HK3.out; omega
          case rel => exact ⟨(wrap64 (x3_3 + 1)), (be_), H', ⟨(by have := HJ1.out; have := HJ24.out; have := HK3.out; omega)⟩, ⟨B2x2_⟩, ⟨B2x0_⟩⟩
         ·replace c77 := Bool.eq_false_iff.mpr c77
          subst c77
          rw [if_neg (show ¬ (false = true) by decide)] at H
          obtain rfl := Option.some.inj H
          obtain ⟨hcz79_0, hcz79_1, hcz79_2, hcz79_3, hcz79_4, hcz79_5, hcz79_6, hcz79_7, hcz79_8, hcz79_9, hcz79_10, hcz79_11, hcz79_12⟩ := cl13 BK114.out
          obtain ⟨hfz79_0, hfz79_1, hfz79_2, hfz79_3, hfz79_4, hfz79_5, hfz79_6, hfz79_7, hfz79_8, hfz79_9, hfz79_10, hfz79_11, hfz79_12⟩ := fr13 BK114.out
          have p130 : 0 ≤ (x3_3 : Int) := of_decide_eq_true B2x5_
          have q130 : x3_3 < (l0_9.length : Int) := of_decide_eq_true B2x5_
          obtain ⟨ad130, e130, hx130_0, hx130_1⟩ := at_T143 HR0_9.out x3_3 p130 q130
          cases e130
          replace hx130_0 := (HB.out.cell (World.block_lt_of_cell? w _ hx130_0)).trans hx130_0
          replace hx130_1 := (HB.out.cell (World.block_lt_of_cell? w _ hx130_1)).trans hx130_1
          replace p130 := eq_true p130
          replace q130 := eq_true q130
          go_wp2_with (first | ((with_reducible refine gate_callee (f := 69) rfl ?_); refine goesL_ (some 106) rfl rfl Try.func69 B2x4_ rfl #[.int .i64 ((rd_T143 l0_9 x3_3).f0), .int .i64 0, .int .i64 65535] rfl B2x1_ ?_; (with_reducible refine (spec_l01In.calls ((rd_T143 l0_9 x3_3).f0) 0 65535 true _ A74.out).mono ?_); rintro e w' ⟨rfl, ⟨nd, rfl⟩⟩; refine ⟨_, rfl, ?_⟩; have p132 : 0 ≤ (x3_3 : Int) := of_decide_eq_true B2x5_; have q132 : x3_3 < (l0_9.length : Int) := of_decide_eq_true B2x5_; obtain ⟨ad132, e132, hx132_0, hx132_1⟩ := at_T143 HR0_9.out x3_3 p132 q132; obtain rfl : ad130 = ad132 := (by injection e132); replace hx132_0 := (HB.out.cell (World.block_lt_of_cell? w _ hx132_0)).trans hx132_0; replace hx132_1 := (HB.out.cell (World.block_lt_of_cell? w _ hx132_1)).trans hx132_1; replace p132 := eq_true p132; replace q132 := eq_true q132) | (go_at_call 69; (with_reducible refine (spec_l01In.calls (((rd_T143 l0_9 x3_3).f1).size : Int) 1 8 false _ A76.out).mono ?_); rintro e w' ⟨rfl, ⟨nd, rfl⟩⟩))
          go_ret
          exact ⟨B2x6_, B2x0_⟩
        ·replace c75 := Bool.eq_false_iff.mpr c75
         subst c75
         rw [if_neg (show ¬ (false = true) by decide)] at H
         obtain rfl := Option.some.inj H
         obtain ⟨hcz80_0, hcz80_1, hcz80_2, hcz80_3, hcz80_4, hcz80_5, hcz80_6, hcz80_7, hcz80_8, hcz80_9, hcz80_10, hcz80_11, hcz80_12⟩ := cl13 BK114.out
         obtain ⟨hfz80_0, hfz80_1, hfz80_2, hfz80_3, hfz80_4, hfz80_5, hfz80_6, hfz80_7, hfz80_8, hfz80_9, hfz80_10, hfz80_11, hfz80_12⟩ := fr13 BK114.out
         have p130 : 0 ≤ (x3_3 : Int) := of_decide_eq_true B2x5_
         have q130 : x3_3 < (l0_9.length : Int) := of_decide_eq_true B2x5_
         obtain ⟨ad130, e130, hx130_0, hx130_1⟩ := at_T143 HR0_9.out x3_3 p130 q130
         cases e130
         replace hx130_0 := (HB.out.cell (World.block_lt_of_cell? w _ hx130_0)).trans hx130_0
         replace hx130_1 := (HB.out.cell (World.block_lt_of_cell? w _ hx130_1)).trans hx130_1
         replace p130 := eq_true p130
         replace q130 := eq_true q130
         go_wp2_with (first | ((with_reducible refine gate_callee (f := 69) rfl ?_); refine goesL_ (some 106) rfl rfl Try.func69 B2x4_ rfl #[.int .i64 ((rd_T143 l0_9 x3_3).f0), .int .i64 0, .int .i64 65535] rfl B2x1_ ?_; (with_reducible refine (spec_l01In.calls ((rd_T143 l0_9 x3_3).f0) 0 65535 false _ A74.out).mono ?_); rintro e w' ⟨rfl, ⟨nd, rfl⟩⟩; refine ⟨_, rfl, ?_⟩))
         go_ret
         exact ⟨B2x6_, B2x0_⟩
       ·rw [if_neg c72] at H
        have c72b0 : decide (x3_3 < (l0_9.length : Int)) = false := decide_eq_false c72
        clear c72
        obtain rfl := Option.some.inj H
        obtain ⟨hcz81_0, hcz81_1, hcz81_2, hcz81_3, hcz81_4, hcz81_5, hcz81_6, hcz81_7, hcz81_8, hcz81_9, hcz81_10, hcz81_11, hcz81_12⟩ := cl13 BK114.out
        obtain ⟨hfz81_0, hfz81_1, hfz81_2, hfz81_3, hfz81_4, hfz81_5, hfz81_6, hfz81_7, hfz81_8, hfz81_9, hfz81_10, hfz81_11, hfz81_12⟩ := fr13 BK114.out
        go_wp2
        go_ret
        exact ⟨B2x6_, B2x0_⟩

end Go.Proofs.Ytmknnoeggkgkgaa.QFnExactPush
