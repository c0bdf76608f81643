/- Functions that a law reaches, as functions of Lean, and the walks that show that the calls come to their answers: written by a program of this project out of the translation. No condition. -/
import Derived.Test.YtmknnoeggkgkgaaQFnExactPushx0
import Derived.Test.YtmknnoeggkgkgaaQFnExactPushx6
import Derived.Test.YtmknnoeggkgkgaaVFnExactPushShort4
import Derived.Test.YtmknnoeggkgkgaaVFnExactPushhort3
import Derived.Test.YtmknnoeggkgkgaaVFnExactPushShort2
import Derived.Test.YtmknnoeggkgkgaaVFnExactPushShort
namespace Go.Proofs.Ytmknnoeggkgkgaa.QFnExactPush
open Go.RowKit Go.Proofs.YtmknnoeggkgkgaaW.PrintWords Go.Proofs.YtmknnoeggkgkgaaW.PrintLast Go.Proofs.YtmknnoeggkgkgaaW.PrintMore Go.Proofs.Ytmknnoeggkgkgaa.Short
attribute [local go_sem] max2_int min2_int max_two min_two max_three min_three max_four min_four   -- for this text's walks alone
set_option linter.unusedVariables false
set_option linter.unusedSimpArgs false

theorem B7x0_ {p : Prop} (h : p := by repeat (first | (with_reducible first | exact HB.out | apply below_alloc | apply pw_below_drewN | apply below_drew1 | refine below_set ?_ GE258.out) | exact HB.out)) : p := h
theorem B7x1_ {p : Prop} (h : p := by (try simp only [List.map_toArray, List.map_cons, List.map_nil]); first | done | rfl | (simp only [List.length_drop, List.length_take]; rfl)) : p := h
theorem B7x2_ {p : Prop} (h : p := by kernel_rfl) : p := h
theorem B7x3_ {p : Prop} (h : p := by first | rfl | (simp [errW_none, errW_some] <;> rfl) | (simp only [← hji41]; first | rfl | (simp [errW_none, errW_some] <;> rfl)) | (simp [*, errW_none, errW_some] <;> rfl)) : p := h
theorem B7x4_ {p : Prop} (h : p := by first | rfl | (simp [errW_none, errW_some] <;> rfl) | (simp only [← hji91]; first | rfl | (simp [errW_none, errW_some] <;> rfl)) | (simp [*, errW_none, errW_some] <;> rfl)) : p := h
theorem B7x5_ {p : Prop} (h : p := by (try simp only [List.map_toArray, List.map_cons, List.map_nil]); first | done | (simp only [hji41]; rfl) | rfl | (simp only [List.length_drop, List.length_take]; rfl)) : p := h
theorem B7x6_ {p : Prop} (h : p := by (try simp only [List.map_toArray, List.map_cons, List.map_nil]); first | done | (simp only [hji91]; rfl) | rfl | (simp only [List.length_drop, List.length_take]; rfl)) : p := h
theorem B7x7_ {p : Prop} (h : p := by (with_reducible repeat (first | refine blk_drewN ?_ _ | refine blk_drew ?_ | refine blk_alloc ?_ _)); exact BK258.out) : p := h
theorem B7x8_ {p : Prop} (h : p := by first | rfl | (simp [errW_none, errW_some] <;> rfl) | (simp only [← hji112]; first | rfl | (simp [errW_none, errW_some] <;> rfl)) | (simp [*, errW_none, errW_some] <;> rfl)) : p := h
theorem B7x9_ {p : Prop} (h : p := by first | rfl | (simp [errW_none, errW_some] <;> rfl) | (simp only [← hji62]; first | rfl | (simp [errW_none, errW_some] <;> rfl)) | (simp [*, errW_none, errW_some] <;> rfl)) : p := h
theorem B7x10_ {p : Prop} (h : p := by (try simp only [List.map_toArray, List.map_cons, List.map_nil]); first | done | (simp only [hji112]; rfl) | rfl | (simp only [List.length_drop, List.length_take]; rfl)) : p := h
theorem B7x11_ {p : Prop} (h : p := by (try simp only [List.map_toArray, List.map_cons, List.map_nil]); first | done | (simp only [hji62]; rfl) | rfl | (simp only [List.length_drop, List.length_take]; rfl)) : p := h
theorem B7x12_ {p : Prop} (h : p := by repeat (first | (with_reducible first | exact HB.out | apply below_alloc | apply pw_below_drewN | apply below_drew1 | refine below_set ?_ GE258.out | refine below_set ?_ GE260.out) | exact HB.out)) : p := h
theorem B7x13_ {p : Prop} (h : p := by first | rfl | (simp [errW_none, errW_some] <;> rfl) | (simp only [← hji104]; first | rfl | (simp [errW_none, errW_some] <;> rfl)) | (simp [*, errW_none, errW_some] <;> rfl)) : p := h
theorem B7x14_ {p : Prop} (h : p := by first | rfl | (simp [errW_none, errW_some] <;> rfl) | (simp only [← hji54]; first | rfl | (simp [errW_none, errW_some] <;> rfl)) | (simp [*, errW_none, errW_some] <;> rfl)) : p := h
theorem B7x15_ {p : Prop} (h : p := by (try simp only [List.map_toArray, List.map_cons, List.map_nil]); first | done | (simp only [hji104]; rfl) | rfl | (simp only [List.length_drop, List.length_take]; rfl)) : p := h
theorem B7x16_ {p : Prop} (h : p := by (try simp only [List.map_toArray, List.map_cons, List.map_nil]); first | done | (simp only [hji54]; rfl) | rfl | (simp only [List.length_drop, List.length_take]; rfl)) : p := h
theorem B7x17_ {p : Prop} (h : p := by first | (with_reducible assumption) | assumption) : p := h
theorem B7x18_ {p : Prop} (h : p := by have := HK1.out; first | omega | exact Nat.le_refl _) : p := h
theorem B7x19_ {p : Prop} (h : p := by first | rfl | (simp [errW_none, errW_some] <;> rfl) | (simp [*, errW_none, errW_some] <;> rfl)) : p := h
theorem B7x20_ {p : Prop} (h : p := by first | rfl | (simp [errW_none, errW_some] <;> rfl) | (simp only [← hji123]; first | rfl | (simp [errW_none, errW_some] <;> rfl)) | (simp [*, errW_none, errW_some] <;> rfl)) : p := h
theorem B7x21_ {p : Prop} (h : p := by first | rfl | (simp [errW_none, errW_some] <;> rfl) | (simp only [← hji129]; first | rfl | (simp [errW_none, errW_some] <;> rfl)) | (simp [*, errW_none, errW_some] <;> rfl)) : p := h
theorem B7x22_ {p : Prop} (h : p := by first | rfl | (simp [errW_none, errW_some] <;> rfl) | (simp only [← hji134]; first | rfl | (simp [errW_none, errW_some] <;> rfl)) | (simp [*, errW_none, errW_some] <;> rfl)) : p := h
theorem B7x23_ {p : Prop} (h : p := by first | rfl | (simp [errW_none, errW_some] <;> rfl) | (simp only [← hji73]; first | rfl | (simp [errW_none, errW_some] <;> rfl)) | (simp [*, errW_none, errW_some] <;> rfl)) : p := h
theorem B7x24_ {p : Prop} (h : p := by first | rfl | (simp [errW_none, errW_some] <;> rfl) | (simp only [← hji79]; first | rfl | (simp [errW_none, errW_some] <;> rfl)) | (simp [*, errW_none, errW_some] <;> rfl)) : p := h
theorem B7x25_ {p : Prop} (h : p := by first | rfl | (simp [errW_none, errW_some] <;> rfl) | (simp only [← hji84]; first | rfl | (simp [errW_none, errW_some] <;> rfl)) | (simp [*, errW_none, errW_some] <;> rfl)) : p := h
theorem B7x26_ {p : Prop} (h : p := by (try simp only [List.map_toArray, List.map_cons, List.map_nil]); first | done | (simp only [hji123]; rfl) | rfl | (simp only [List.length_drop, List.length_take]; rfl)) : p := h
theorem B7x27_ {p : Prop} (h : p := by (try simp only [List.map_toArray, List.map_cons, List.map_nil]); first | done | (simp only [hji129]; rfl) | rfl | (simp only [List.length_drop, List.length_take]; rfl)) : p := h
theorem B7x28_ {p : Prop} (h : p := by (try simp only [List.map_toArray, List.map_cons, List.map_nil]); first | done | (simp only [hji134]; rfl) | rfl | (simp only [List.length_drop, List.length_take]; rfl)) : p := h
theorem B7x29_ {p : Prop} (h : p := by (try simp only [List.map_toArray, List.map_cons, List.map_nil]); first | done | (simp only [hji73]; rfl) | rfl | (simp only [List.length_drop, List.length_take]; rfl)) : p := h
theorem B7x30_ {p : Prop} (h : p := by (try simp only [List.map_toArray, List.map_cons, List.map_nil]); first | done | (simp only [hji79]; rfl) | rfl | (simp only [List.length_drop, List.length_take]; rfl)) : p := h
theorem B7x31_ {p : Prop} (h : p := by (try simp only [List.map_toArray, List.map_cons, List.map_nil]); first | done | (simp only [hji84]; rfl) | rfl | (simp only [List.length_drop, List.length_take]; rfl)) : p := h
theorem B7x32_ {p : Prop} (h : p := by first | (go_simp; done) | (go_simp; rfl)) : p := h
/-! ### impl_StreamOk: function 58 -/
mutual
def impl_StreamOk.l0 : Nat → List (S143) → Int → Int → Int → Int → Int → Int → ByteArray → Int → Int → Bool → ByteArray → List (S143) → Bool → Int → Int → Option (Bool)
 | 0, _, _, _, _, _, _, _, _, _, _, _, _, _, _, _, _ => none
 | k + 1, x8, x9, x10, x259000, x259001, x259002, x259003, x259004, x259005, x259006, x259007, x259008, x259009, x259010, x259011, x259012 => if x10 < x9 then (if 0 ≤ x10 then (if x10 < (x8.length : Int) then ((impl_within.f (((rd_T143 x8 x10).f1).size : Int) 1 8).bind fun t261 => (if t261 = true then ((impl_isWord.f ((rd_T143 x8 x10).f0)).bind fun t262 => (if t262 = true then (impl_StreamOk.l0 k x8 x9 (wrap64 (x10 + 1)) x259000 x259001 x259002 x259003 x259004 x259005 x259006 x259007 x259008 x259009 x259010 x259011 x259012) else (some false))) else (some false))) else (none)) else (none)) else ((impl_within.f x259000 0 4).bind fun t263 => (if t263 = true then ((impl_isWord.f x259001).bind fun t264 => (if t264 = true then ((impl_isWord.f x259002).bind fun t265 => (if t265 = true then ((impl_isWord.f x259003).bind fun t266 => (if t266 = true then (impl_StreamOk.j1 k (decide ((x259004.size : Int) > 200)) x259000 x259001 x259002 x259003 x259004 x259005 x259006 x259007 x259008 x259009 x259010 x259011 x259012) else (impl_StreamOk.j1 k true x259000 x259001 x259002 x259003 x259004 x259005 x259006 x259007 x259008 x259009 x259010 x259011 x259012))) else (impl_StreamOk.j1 k true x259000 x259001 x259002 x259003 x259004 x259005 x259006 x259007 x259008 x259009 x259010 x259011 x259012))) else (impl_StreamOk.j1 k true x259000 x259001 x259002 x259003 x259004 x259005 x259006 x259007 x259008 x259009 x259010 x259011 x259012))) else (impl_StreamOk.j1 k true x259000 x259001 x259002 x259003 x259004 x259005 x259006 x259007 x259008 x259009 x259010 x259011 x259012)))
def impl_StreamOk.j1 : Nat → Bool → Int → Int → Int → Int → ByteArray → Int → Int → Bool → ByteArray → List (S143) → Bool → Int → Int → Option (Bool)
 | 0, _, _, _, _, _, _, _, _, _, _, _, _, _, _ => none
 | k + 1, x53, x259000, x259001, x259002, x259003, x259004, x259005, x259006, x259007, x259008, x259009, x259010, x259011, x259012 => if x53 = true then (some false) else ((impl_within.f x259006 0 3).bind fun t267 => (if t267 = true then (if x259006 = 2 then (if x259005 = (x259004.size : Int) then (if x259006 = 3 then (if (x259008.size : Int) ≤ 1000 then ((impl_within.f x259005 0 (mn (x259004.size : Int) 24)).bind fun t268 => (if t268 = true then (if x259004.toList = ([] : List UInt8) then (if (x259009.length : Int) ≤ 8 then ((impl_within.f x259011 0 1000000000).bind fun t269 => (if t269 = true then ((impl_within.f x259012 0 12).bind fun t270 => (some t270)) else (some false))) else (some false)) else (some false)) else (some false))) else ((impl_within.f x259005 0 (mn (x259004.size : Int) 24)).bind fun t271 => (if t271 = true then (if x259004.toList = ([] : List UInt8) then (some false) else (some false)) else (some false)))) else (if (x259008.size : Int) ≤ 1000 then ((impl_within.f x259005 0 (mn (x259004.size : Int) 24)).bind fun t272 => (if t272 = true then (if (x259009.length : Int) ≤ 8 then ((impl_within.f x259011 0 1000000000).bind fun t273 => (if t273 = true then ((impl_within.f x259012 0 12).bind fun t274 => (some t274)) else (some false))) else (some false)) else (some false))) else ((impl_within.f x259005 0 (mn (x259004.size : Int) 24)).bind fun t275 => (if t275 = true then (some false) else (some false))))) else (if (x259008.size : Int) ≤ 1000 then ((impl_within.f x259005 0 (mn (x259004.size : Int) 24)).bind fun t276 => (if t276 = true then (some false) else (some false))) else ((impl_within.f x259005 0 (mn (x259004.size : Int) 24)).bind fun t277 => (if t277 = true then (some false) else (some false))))) else (if x259006 = 3 then (if (x259008.size : Int) ≤ 1000 then ((impl_within.f x259005 0 (mn (x259004.size : Int) 24)).bind fun t278 => (if t278 = true then (if x259004.toList = ([] : List UInt8) then (if (x259009.length : Int) ≤ 8 then ((impl_within.f x259011 0 1000000000).bind fun t279 => (if t279 = true then ((impl_within.f x259012 0 12).bind fun t280 => (some t280)) else (some false))) else (some false)) else (some false)) else (some false))) else ((impl_within.f x259005 0 (mn (x259004.size : Int) 24)).bind fun t281 => (if t281 = true then (if x259004.toList = ([] : List UInt8) then (some false) else (some false)) else (some false)))) else (if (x259008.size : Int) ≤ 1000 then ((impl_within.f x259005 0 (mn (x259004.size : Int) 24)).bind fun t282 => (if t282 = true then (if (x259009.length : Int) ≤ 8 then ((impl_within.f x259011 0 1000000000).bind fun t283 => (if t283 = true then ((impl_within.f x259012 0 12).bind fun t284 => (some t284)) else (some false))) else (some false)) else (some false))) else ((impl_within.f x259005 0 (mn (x259004.size : Int) 24)).bind fun t285 => (if t285 = true then (some false) else (some false)))))) else (if (x259008.size : Int) ≤ 1000 then ((impl_within.f x259005 0 (mn (x259004.size : Int) 24)).bind fun t286 => (if t286 = true then (some false) else (some false))) else ((impl_within.f x259005 0 (mn (x259004.size : Int) 24)).bind fun t287 => (if t287 = true then (some false) else (some false))))))
end
def impl_StreamOk.f (k : Nat) (a0_0 : Int) (a0_1 : Int) (a0_2 : Int) (a0_3 : Int) (a0_4 : ByteArray) (a0_5 : Int) (a0_6 : Int) (a0_7 : Bool) (a0_8 : ByteArray) (l0_9 : List (S143)) (a0_10 : Bool) (a0_11 : Int) (a0_12 : Int) : Option (Bool) := impl_StreamOk.l0 k l0_9 (l0_9.length : Int) 0 a0_0 a0_1 a0_2 a0_3 a0_4 a0_5 a0_6 a0_7 a0_8 l0_9 a0_10 a0_11 a0_12
theorem impl_StreamOk.mono_l : ∀ k, (∀ y0 y1 y2 y3 y4 y5 y6 y7 y8 y9 y10 y11 y12 y13 y14 y15, LeO (impl_StreamOk.l0 k y0 y1 y2 y3 y4 y5 y6 y7 y8 y9 y10 y11 y12 y13 y14 y15) (impl_StreamOk.l0 (k + 1) y0 y1 y2 y3 y4 y5 y6 y7 y8 y9 y10 y11 y12 y13 y14 y15)) ∧ (∀ y0 y1 y2 y3 y4 y5 y6 y7 y8 y9 y10 y11 y12 y13, LeO (impl_StreamOk.j1 k y0 y1 y2 y3 y4 y5 y6 y7 y8 y9 y10 y11 y12 y13) (impl_StreamOk.j1 (k + 1) y0 y1 y2 y3 y4 y5 y6 y7 y8 y9 y10 y11 y12 y13))
 | 0 => ⟨fun _ _ _ _ _ _ _ _ _ _ _ _ _ _ _ _ r h => by simp [impl_StreamOk.l0] at h, fun _ _ _ _ _ _ _ _ _ _ _ _ _ _ r h => by simp [impl_StreamOk.j1] at h⟩
 | k + 1 => by
  obtain ⟨ih0, ih1⟩ := impl_StreamOk.mono_l k
  refine ⟨?_, ?_⟩
  ·intro y0 y1 y2 y3 y4 y5 y6 y7 y8 y9 y10 y11 y12 y13 y14 y15
   unfold impl_StreamOk.l0
   repeat' first
   | (with_reducible exact ih0 _ _ _ _ _ _ _ _ _ _ _ _ _ _ _ _)
   | (with_reducible exact ih1 _ _ _ _ _ _ _ _ _ _ _ _ _ _)
   | (with_reducible first | exact LeO.refl _ | exact LeO.none _ | refine LeO.ite ?_ ?_ | refine LeO.bind ?_ (fun _ => ?_))
   | exact ih0 _ _ _ _ _ _ _ _ _ _ _ _ _ _ _ _
   | exact ih1 _ _ _ _ _ _ _ _ _ _ _ _ _ _
  ·intro y0 y1 y2 y3 y4 y5 y6 y7 y8 y9 y10 y11 y12 y13
   unfold impl_StreamOk.j1
   repeat' first
   | (with_reducible exact ih0 _ _ _ _ _ _ _ _ _ _ _ _ _ _ _ _)
   | (with_reducible exact ih1 _ _ _ _ _ _ _ _ _ _ _ _ _ _)
   | (with_reducible first | exact LeO.refl _ | exact LeO.none _ | refine LeO.ite ?_ ?_ | refine LeO.bind ?_ (fun _ => ?_))
   | exact ih0 _ _ _ _ _ _ _ _ _ _ _ _ _ _ _ _
   | exact ih1 _ _ _ _ _ _ _ _ _ _ _ _ _ _
theorem impl_StreamOk.mono : ∀ a0 a1 a2 a3 a4 a5 a6 a7 a8 a9 a10 a11 a12 k, LeO (impl_StreamOk.f k a0 a1 a2 a3 a4 a5 a6 a7 a8 a9 a10 a11 a12) (impl_StreamOk.f (k + 1) a0 a1 a2 a3 a4 a5 a6 a7 a8 a9 a10 a11 a12) := by
 intro a0 a1 a2 a3 a4 a5 a6 a7 a8 a9 a10 a11 a12 k
 obtain ⟨ih0, ih1⟩ := impl_StreamOk.mono_l k
 unfold impl_StreamOk.f
 repeat' first
   | (with_reducible exact ih0 _ _ _ _ _ _ _ _ _ _ _ _ _ _ _ _)
   | (with_reducible exact ih1 _ _ _ _ _ _ _ _ _ _ _ _ _ _)
   | (with_reducible first | exact LeO.refl _ | exact LeO.none _ | refine LeO.ite ?_ ?_ | refine LeO.bind ?_ (fun _ => ?_))
   | exact ih0 _ _ _ _ _ _ _ _ _ _ _ _ _ _ _ _
   | exact ih1 _ _ _ _ _ _ _ _ _ _ _ _ _ _
set_option maxHeartbeats 8000000 in
set_option maxRecDepth 100000 in
theorem impl_StreamOk.calls (k : Nat) (a0_0 : Int) (a0_1 : Int) (a0_2 : Int) (a0_3 : Int) (a0_4 : ByteArray) (a0_5 : Int) (a0_6 : Int) (a0_7 : Bool) (a0_8 : ByteArray) (A0_9 : Option Addr) (c0_9 : Nat) (l0_9 : List (S143)) (a0_10 : Bool) (a0_11 : Int) (a0_12 : Int) (r : Bool) (w : World) (hr0_9 : Kd.C k143 w A0_9 l0_9.length l0_9) (hc0_9 : l0_9.length ≤ c0_9) (h : impl_StreamOk.f k a0_0 a0_1 a0_2 a0_3 a0_4 a0_5 a0_6 a0_7 a0_8 l0_9 a0_10 a0_11 a0_12 = some r) :
  Calls Try.prog 58 #[.agg #[.int .i64 a0_0, .int .i64 a0_1, .int .i64 a0_2, .int .i64 a0_3, .string a0_4, .int .i64 a0_5, .int .i64 a0_6, .bool a0_7, .string a0_8, .slice A0_9 l0_9.length c0_9, .bool a0_10, .int .i64 a0_11, .int .i64 a0_12]] w fun e w' => e = .returned (.bool r) ∧ Below w.heap.size w w' := by
 have hu39 := Try.underlying39
 have hu143 := Try.underlying143
 have HR0_9 := Aside0.mk hr0_9
 have HC0_9 := Aside0.mk hc0_9
 clear hr0_9 hc0_9
 have HB := Aside0.mk (Below.refl w.heap.size w)
 have H : (impl_StreamOk.l0 k l0_9 (l0_9.length : Int) 0 a0_0 a0_1 a0_2 a0_3 a0_4 a0_5 a0_6 a0_7 a0_8 l0_9 a0_10 a0_11 a0_12) = some r := h
 clear h
 have H' := Aside0.mk H
 clear H
 go_enter Try.func58, Try.ntmps58
 go_wp2_with (first | ((with_reducible refine gate_dst (N := 1) rfl ?_); (try (refine gate_guard (by rfl) ?_; dsimp only)); refine box_event ?hg (N := 1) ?hd (cs := #[.int .i64 a0_0, .int .i64 a0_1, .int .i64 a0_2, .int .i64 a0_3, .string a0_4, .int .i64 a0_5, .int .i64 a0_6, .bool a0_7, .string a0_8, .slice A0_9 l0_9.length c0_9, .bool a0_10, .int .i64 a0_11, .int .i64 a0_12]) (t := 39) ?hr ?_; (case hd => rfl); (case hg => rfl); (case hr => exact B7x32_); intro gb258 hg w2 hbox hb; have BK258 := Aside0.mk (hbox); have GW258 := Aside0.mk ((bs hg (below_size HB.out))); have GE258 := Aside0.mk ((bs hg (below_size HB.out))); replace HB := Aside0.mk (below_step (by repeat (first | (with_reducible first | exact HB.out | apply below_alloc | apply pw_below_drewN | apply below_drew1) | exact HB.out)) hb); clear hb hbox hg; obtain ⟨hcz3_0, hcz3_1, hcz3_2, hcz3_3, hcz3_4, hcz3_5, hcz3_6, hcz3_7, hcz3_8, hcz3_9, hcz3_10, hcz3_11, hcz3_12⟩ := cl13 BK258.out; obtain ⟨hfz3_0, hfz3_1, hfz3_2, hfz3_3, hfz3_4, hfz3_5, hfz3_6, hfz3_7, hfz3_8, hfz3_9, hfz3_10, hfz3_11, hfz3_12⟩ := fr13 BK258.out))
 go_loopg [10] k (fun kq v10 w' => ∃ (x10_1 : Int), v10 = .int .i64 x10_1 ∧ Aside0 (impl_StreamOk.l0 kq l0_9 (l0_9.length : Int) x10_1 a0_0 a0_1 a0_2 a0_3 a0_4 a0_5 a0_6 a0_7 a0_8 l0_9 a0_10 a0_11 a0_12 = some r) ∧ Aside0 (kq ≤ k) ∧ Aside0 (w'.heap[gb258]? = some (.cells #[.int .i64 a0_0, .int .i64 a0_1, .int .i64 a0_2, .int .i64 a0_3, .string a0_4, .int .i64 a0_5, .int .i64 a0_6, .bool a0_7, .string a0_8, (.slice A0_9 l0_9.length c0_9), .bool a0_10, .int .i64 a0_11, .int .i64 a0_12] 39 (0, 0))) ∧ Aside0 (Below w.heap.size w w'))
 case atStart => exact ⟨(0), (be_), H', ⟨Nat.le_refl _⟩, ⟨B7x7_⟩, ⟨B7x0_⟩⟩
 case round =>
  clear H'
  try clear hcz3_0
  try clear hcz3_1
  try clear hcz3_10
  try clear hcz3_11
  try clear hcz3_12
  try clear hcz3_2
  try clear hcz3_3
  try clear hcz3_4
  try clear hcz3_5
  try clear hcz3_6
  try clear hcz3_7
  try clear hcz3_8
  try clear hcz3_9
  try clear hfz3_0
  try clear hfz3_1
  try clear hfz3_10
  try clear hfz3_11
  try clear hfz3_12
  try clear hfz3_2
  try clear hfz3_3
  try clear hfz3_4
  try clear hfz3_5
  try clear hfz3_6
  try clear hfz3_7
  try clear hfz3_8
  try clear hfz3_9
  obtain ⟨x10_1, rfl, HA, HK1, BK258, HB⟩ := hrel
  cases gk with
  | zero => exact absurd HA.out (by simp [impl_StreamOk.l0])
  | succ k1 =>
   have H := HA.out
   clear HA
   simp only [impl_StreamOk.l0] at H
   by_cases c4 : x10_1 < (l0_9.length : Int)
   ·rw [if_pos c4] at H
    have c4b0 : decide (x10_1 < (l0_9.length : Int)) = true := decide_eq_true c4
    clear c4
    by_cases c5 : 0 ≤ x10_1
    rotate_left
    ·rw [if_neg c5] at H
     exact absurd H (by simp)
    rw [if_pos c5] at H
    have c5b0 : decide (0 ≤ x10_1) = true := decide_eq_true c5
    clear c5
    by_cases c6 : x10_1 < (l0_9.length : Int)
    rotate_left
    ·exact absurd H (by exfalso; (try have h0_ := of_decide_eq_true c4b0); (try have g0_ := c4); omega)
    rw [if_pos c6] at H
    have c6b0 : decide (x10_1 < (l0_9.length : Int)) = true := decide_eq_true c6
    clear c6
    replace H := bsi H
    obtain ⟨t261, A7, H⟩ := H
    (try dsimp only at H)
    by_cases c8 : t261 = true
    ·subst c8
     rw [if_pos rfl] at H
     replace H := bsi H
     obtain ⟨t262, A9, H⟩ := H
     (try dsimp only at H)
     by_cases c10 : t262 = true
     ·subst c10
      rw [if_pos rfl] at H
      have H' := Aside0.mk H
      clear H
      have p259 : 0 ≤ (x10_1 : Int) := of_decide_eq_true B7x17_
      have q259 : x10_1 < (l0_9.length : Int) := of_decide_eq_true B7x17_
      obtain ⟨ad259, e259, hx259_0, hx259_1⟩ := at_T143 HR0_9.out x10_1 p259 q259
      cases e259
      replace hx259_0 := (HB.out.cell (World.block_lt_of_cell? w _ hx259_0)).trans hx259_0
      replace hx259_1 := (HB.out.cell (World.block_lt_of_cell? w _ hx259_1)).trans hx259_1
      replace p259 := eq_true p259
      replace q259 := eq_true q259
      go_wp2_with (first | ((with_reducible refine gate_dst (N := 4) rfl ?_); (try (refine gate_guard (by rfl) ?_; dsimp only)); refine box_event ?hg (N := 4) ?hd (cs := #[.int .i64 0, .string (⟨#[]⟩ : ByteArray)]) (t := 143) ?hr ?_; (case hd => rfl); (case hg => rfl); (case hr => exact B7x32_); intro gb260 hg w11 hbox hb; have BK260 := Aside0.mk (hbox); have GW260 := Aside0.mk ((bs hg (below_size HB.out))); have GE260 := Aside0.mk ((bs hg (below_size HB.out))); replace HB := Aside0.mk (below_step B7x0_ hb); have NB258_260 := Aside0.mk ((nl hg (blk_lt BK258.out))); have NB260_258 := Aside0.mk ((ng hg (blk_lt BK258.out))); replace BK258 := Aside0.mk (bb BK258.out hb); clear hb hbox hg; have hnb12 := NB260_258.out; have hnc12 := NB258_260.out; obtain ⟨hcz13_0, hcz13_1⟩ := cl2 BK260.out; obtain ⟨hfz13_0, hfz13_1⟩ := fr2 BK260.out) | ((with_reducible refine gate_callee (f := 74) rfl ?_); refine goesL_ (some 17) rfl rfl Try.func74 B7x2_ rfl #[.int .i64 (((rd_T143 l0_9 x10_1).f1).size : Int), .int .i64 1, .int .i64 8] rfl B7x1_ ?_; (with_reducible refine (impl_within.calls (((rd_T143 l0_9 x10_1).f1).size : Int) 1 8 true _ A7.out).mono ?_); rintro e w' ⟨rfl, ⟨nd, rfl⟩⟩; refine ⟨_, rfl, ?_⟩) | (go_at_call 97; (with_reducible refine (impl_isWord.calls ((rd_T143 l0_9 x10_1).f0) true _ A9.out).mono ?_); rintro e w' ⟨rfl, ⟨nd, rfl⟩⟩))
      go_roundg k1
      case measure => have := HK1.out; omega
      case rel => exact ⟨(wrap64 (x10_1 + 1)), (be_), H', ⟨(by have := HK1.out; omega)⟩, ⟨(by (repeat (with_reducible (first | exact BK258.out | apply blk_drewN | apply blk_drew | apply blk_alloc | apply blk_put | apply bf NB258_260.out))); repeat (first | exact BK258.out | (simp only [List.setIfInBounds_toArray, List.set_cons_zero, List.set_cons_succ]; with_reducible rfl) | rfl))⟩, ⟨B7x12_⟩⟩
     ·replace c10 := Bool.eq_false_iff.mpr c10
      subst c10
      rw [if_neg (show ¬ (false = true) by decide)] at H
      obtain rfl := Option.some.inj H
      have p259 : 0 ≤ (x10_1 : Int) := of_decide_eq_true B7x17_
      have q259 : x10_1 < (l0_9.length : Int) := of_decide_eq_true B7x17_
      obtain ⟨ad259, e259, hx259_0, hx259_1⟩ := at_T143 HR0_9.out x10_1 p259 q259
      cases e259
      replace hx259_0 := (HB.out.cell (World.block_lt_of_cell? w _ hx259_0)).trans hx259_0
      replace hx259_1 := (HB.out.cell (World.block_lt_of_cell? w _ hx259_1)).trans hx259_1
      replace p259 := eq_true p259
      replace q259 := eq_true q259
      go_wp2_with (first | ((with_reducible refine gate_dst (N := 4) rfl ?_); (try (refine gate_guard (by rfl) ?_; dsimp only)); refine box_event ?hg (N := 4) ?hd (cs := #[.int .i64 0, .string (⟨#[]⟩ : ByteArray)]) (t := 143) ?hr ?_; (case hd => rfl); (case hg => rfl); (case hr => exact B7x32_); intro gb260 hg w14 hbox hb; have BK260 := Aside0.mk (hbox); have GW260 := Aside0.mk ((bs hg (below_size HB.out))); have GE260 := Aside0.mk ((bs hg (below_size HB.out))); replace HB := Aside0.mk (below_step B7x0_ hb); have NB258_260 := Aside0.mk ((nl hg (blk_lt BK258.out))); have NB260_258 := Aside0.mk ((ng hg (blk_lt BK258.out))); replace BK258 := Aside0.mk (bb BK258.out hb); clear hb hbox hg; have hnb15 := NB260_258.out; have hnc15 := NB258_260.out; obtain ⟨hcz16_0, hcz16_1⟩ := cl2 BK260.out; obtain ⟨hfz16_0, hfz16_1⟩ := fr2 BK260.out) | ((with_reducible refine gate_callee (f := 74) rfl ?_); refine goesL_ (some 17) rfl rfl Try.func74 B7x2_ rfl #[.int .i64 (((rd_T143 l0_9 x10_1).f1).size : Int), .int .i64 1, .int .i64 8] rfl B7x1_ ?_; (with_reducible refine (impl_within.calls (((rd_T143 l0_9 x10_1).f1).size : Int) 1 8 true _ A7.out).mono ?_); rintro e w' ⟨rfl, ⟨nd, rfl⟩⟩; refine ⟨_, rfl, ?_⟩) | (go_at_call 97; (with_reducible refine (impl_isWord.calls ((rd_T143 l0_9 x10_1).f0) false _ A9.out).mono ?_); rintro e w' ⟨rfl, ⟨nd, rfl⟩⟩))
      go_ret
      exact ⟨B7x19_, B7x12_⟩
    ·replace c8 := Bool.eq_false_iff.mpr c8
     subst c8
     rw [if_neg (show ¬ (false = true) by decide)] at H
     obtain rfl := Option.some.inj H
     have p259 : 0 ≤ (x10_1 : Int) := of_decide_eq_true B7x17_
     have q259 : x10_1 < (l0_9.length : Int) := of_decide_eq_true B7x17_
     obtain ⟨ad259, e259, hx259_0, hx259_1⟩ := at_T143 HR0_9.out x10_1 p259 q259
     cases e259
     replace hx259_0 := (HB.out.cell (World.block_lt_of_cell? w _ hx259_0)).trans hx259_0
     replace hx259_1 := (HB.out.cell (World.block_lt_of_cell? w _ hx259_1)).trans hx259_1
     replace p259 := eq_true p259
     replace q259 := eq_true q259
     go_wp2_with (first | ((with_reducible refine gate_dst (N := 4) rfl ?_); (try (refine gate_guard (by rfl) ?_; dsimp only)); refine box_event ?hg (N := 4) ?hd (cs := #[.int .i64 0, .string (⟨#[]⟩ : ByteArray)]) (t := 143) ?hr ?_; (case hd => rfl); (case hg => rfl); (case hr => exact B7x32_); intro gb260 hg w17 hbox hb; have BK260 := Aside0.mk (hbox); have GW260 := Aside0.mk ((bs hg (below_size HB.out))); have GE260 := Aside0.mk ((bs hg (below_size HB.out))); replace HB := Aside0.mk (below_step B7x0_ hb); have NB258_260 := Aside0.mk ((nl hg (blk_lt BK258.out))); have NB260_258 := Aside0.mk ((ng hg (blk_lt BK258.out))); replace BK258 := Aside0.mk (bb BK258.out hb); clear hb hbox hg; have hnb18 := NB260_258.out; have hnc18 := NB258_260.out; obtain ⟨hcz19_0, hcz19_1⟩ := cl2 BK260.out; obtain ⟨hfz19_0, hfz19_1⟩ := fr2 BK260.out) | ((with_reducible refine gate_callee (f := 74) rfl ?_); refine goesL_ (some 17) rfl rfl Try.func74 B7x2_ rfl #[.int .i64 (((rd_T143 l0_9 x10_1).f1).size : Int), .int .i64 1, .int .i64 8] rfl B7x1_ ?_; (with_reducible refine (impl_within.calls (((rd_T143 l0_9 x10_1).f1).size : Int) 1 8 false _ A7.out).mono ?_); rintro e w' ⟨rfl, ⟨nd, rfl⟩⟩; refine ⟨_, rfl, ?_⟩))
     go_ret
     exact ⟨B7x19_, B7x12_⟩
   ·rw [if_neg c4] at H
    have c4b0 : decide (x10_1 < (l0_9.length : Int)) = false := decide_eq_false c4
    clear c4
    have HC20 := Aside0.mk H
    clear H
    go_upto_region 7 with (fail)
    go_cut [53] (fun v53 wc => ∃ (kq : Nat) (x53_19 : Bool), v53 = .bool x53_19 ∧ Aside0 (impl_StreamOk.j1 kq x53_19 a0_0 a0_1 a0_2 a0_3 a0_4 a0_5 a0_6 a0_7 a0_8 l0_9 a0_10 a0_11 a0_12 = some r) ∧ Aside0 (kq ≤ k1) ∧ Aside0 (wc.heap[gb258]? = some (.cells #[.int .i64 a0_0, .int .i64 a0_1, .int .i64 a0_2, .int .i64 a0_3, .string a0_4, .int .i64 a0_5, .int .i64 a0_6, .bool a0_7, .string a0_8, (.slice A0_9 l0_9.length c0_9), .bool a0_10, .int .i64 a0_11, .int .i64 a0_12] 39 (0, 0))) ∧ Aside0 (Below w.heap.size w wc))
    case first =>
     have H := HC20.out
     clear HC20
     replace H := bsi H
     obtain ⟨t263, A21, H⟩ := H
     (try dsimp only at H)
     by_cases c22 : t263 = true
     ·subst c22
      rw [if_pos rfl] at H
      replace H := bsi H
      obtain ⟨t264, A23, H⟩ := H
      (try dsimp only at H)
      by_cases c24 : t264 = true
      ·subst c24
       rw [if_pos rfl] at H
       replace H := bsi H
       obtain ⟨t265, A25, H⟩ := H
       (try dsimp only at H)
       by_cases c26 : t265 = true
       ·subst c26
        rw [if_pos rfl] at H
        replace H := bsi H
        obtain ⟨t266, A27, H⟩ := H
        (try dsimp only at H)
        by_cases c28 : t266 = true
        ·subst c28
         rw [if_pos rfl] at H
         have H' := Aside0.mk H
         clear H
         obtain ⟨hcz29_0, hcz29_1, hcz29_2, hcz29_3, hcz29_4, hcz29_5, hcz29_6, hcz29_7, hcz29_8, hcz29_9, hcz29_10, hcz29_11, hcz29_12⟩ := cl13 BK258.out
         obtain ⟨hfz29_0, hfz29_1, hfz29_2, hfz29_3, hfz29_4, hfz29_5, hfz29_6, hfz29_7, hfz29_8, hfz29_9, hfz29_10, hfz29_11, hfz29_12⟩ := fr13 BK258.out
         go_wp2_with (first | ((with_reducible refine gate_callee (f := 74) rfl ?_); refine goesL_ (some 28) rfl rfl Try.func74 B7x2_ rfl #[.int .i64 a0_0, .int .i64 0, .int .i64 4] rfl B7x1_ ?_; (with_reducible refine (impl_within.calls a0_0 0 4 true _ A21.out).mono ?_); rintro e w' ⟨rfl, ⟨nd, rfl⟩⟩; refine ⟨_, rfl, ?_⟩) | (go_at_call 97; (with_reducible refine (impl_isWord.calls a0_1 true _ A23.out).mono ?_); rintro e w' ⟨rfl, ⟨nd, rfl⟩⟩) | (go_at_call 97; (with_reducible refine (impl_isWord.calls a0_2 true _ A25.out).mono ?_); rintro e w' ⟨rfl, ⟨nd, rfl⟩⟩) | (go_at_call 97; (with_reducible refine (impl_isWord.calls a0_3 true _ A27.out).mono ?_); rintro e w' ⟨rfl, ⟨nd, rfl⟩⟩))
         go_meet
         case rel => exact ⟨_, (decide ((a0_4.size : Int) > 200)), (be_), H', ⟨B7x18_⟩, ⟨B7x7_⟩, ⟨B7x0_⟩⟩
        ·replace c28 := Bool.eq_false_iff.mpr c28
         subst c28
         rw [if_neg (show ¬ (false = true) by decide)] at H
         have H' := Aside0.mk H
         clear H
         obtain ⟨hcz30_0, hcz30_1, hcz30_2, hcz30_3, hcz30_4, hcz30_5, hcz30_6, hcz30_7, hcz30_8, hcz30_9, hcz30_10, hcz30_11, hcz30_12⟩ := cl13 BK258.out
         obtain ⟨hfz30_0, hfz30_1, hfz30_2, hfz30_3, hfz30_4, hfz30_5, hfz30_6, hfz30_7, hfz30_8, hfz30_9, hfz30_10, hfz30_11, hfz30_12⟩ := fr13 BK258.out
         go_wp2_with (first | ((with_reducible refine gate_callee (f := 74) rfl ?_); refine goesL_ (some 28) rfl rfl Try.func74 B7x2_ rfl #[.int .i64 a0_0, .int .i64 0, .int .i64 4] rfl B7x1_ ?_; (with_reducible refine (impl_within.calls a0_0 0 4 true _ A21.out).mono ?_); rintro e w' ⟨rfl, ⟨nd, rfl⟩⟩; refine ⟨_, rfl, ?_⟩) | (go_at_call 97; (with_reducible refine (impl_isWord.calls a0_1 true _ A23.out).mono ?_); rintro e w' ⟨rfl, ⟨nd, rfl⟩⟩) | (go_at_call 97; (with_reducible refine (impl_isWord.calls a0_2 true _ A25.out).mono ?_); rintro e w' ⟨rfl, ⟨nd, rfl⟩⟩) | (go_at_call 97; (with_reducible refine (impl_isWord.calls a0_3 false _ A27.out).mono ?_); rintro e w' ⟨rfl, ⟨nd, rfl⟩⟩))
         go_meet
         case rel => exact ⟨_, (true), (be_), H', ⟨B7x18_⟩, ⟨B7x7_⟩, ⟨B7x0_⟩⟩
       ·replace c26 := Bool.eq_false_iff.mpr c26
        subst c26
        rw [if_neg (show ¬ (false = true) by decide)] at H
        have H' := Aside0.mk H
        clear H
        obtain ⟨hcz31_0, hcz31_1, hcz31_2, hcz31_3, hcz31_4, hcz31_5, hcz31_6, hcz31_7, hcz31_8, hcz31_9, hcz31_10, hcz31_11, hcz31_12⟩ := cl13 BK258.out
        obtain ⟨hfz31_0, hfz31_1, hfz31_2, hfz31_3, hfz31_4, hfz31_5, hfz31_6, hfz31_7, hfz31_8, hfz31_9, hfz31_10, hfz31_11, hfz31_12⟩ := fr13 BK258.out
        go_wp2_with (first | ((with_reducible refine gate_callee (f := 74) rfl ?_); refine goesL_ (some 28) rfl rfl Try.func74 B7x2_ rfl #[.int .i64 a0_0, .int .i64 0, .int .i64 4] rfl B7x1_ ?_; (with_reducible refine (impl_within.calls a0_0 0 4 true _ A21.out).mono ?_); rintro e w' ⟨rfl, ⟨nd, rfl⟩⟩; refine ⟨_, rfl, ?_⟩) | (go_at_call 97; (with_reducible refine (impl_isWord.calls a0_1 true _ A23.out).mono ?_); rintro e w' ⟨rfl, ⟨nd, rfl⟩⟩) | (go_at_call 97; (with_reducible refine (impl_isWord.calls a0_2 false _ A25.out).mono ?_); rintro e w' ⟨rfl, ⟨nd, rfl⟩⟩))
        go_meet
        case rel => exact ⟨_, (true), (be_), H', ⟨B7x18_⟩, ⟨B7x7_⟩, ⟨B7x0_⟩⟩
      ·replace c24 := Bool.eq_false_iff.mpr c24
       subst c24
       rw [if_neg (show ¬ (false = true) by decide)] at H
       have H' := Aside0.mk H
       clear H
       obtain ⟨hcz32_0, hcz32_1, hcz32_2, hcz32_3, hcz32_4, hcz32_5, hcz32_6, hcz32_7, hcz32_8, hcz32_9, hcz32_10, hcz32_11, hcz32_12⟩ := cl13 BK258.out
       obtain ⟨hfz32_0, hfz32_1, hfz32_2, hfz32_3, hfz32_4, hfz32_5, hfz32_6, hfz32_7, hfz32_8, hfz32_9, hfz32_10, hfz32_11, hfz32_12⟩ := fr13 BK258.out
       go_wp2_with (first | ((with_reducible refine gate_callee (f := 74) rfl ?_); refine goesL_ (some 28) rfl rfl Try.func74 B7x2_ rfl #[.int .i64 a0_0, .int .i64 0, .int .i64 4] rfl B7x1_ ?_; (with_reducible refine (impl_within.calls a0_0 0 4 true _ A21.out).mono ?_); rintro e w' ⟨rfl, ⟨nd, rfl⟩⟩; refine ⟨_, rfl, ?_⟩) | (go_at_call 97; (with_reducible refine (impl_isWord.calls a0_1 false _ A23.out).mono ?_); rintro e w' ⟨rfl, ⟨nd, rfl⟩⟩))
       go_meet
       case rel => exact ⟨_, (true), (be_), H', ⟨B7x18_⟩, ⟨B7x7_⟩, ⟨B7x0_⟩⟩
     ·replace c22 := Bool.eq_false_iff.mpr c22
      subst c22
      rw [if_neg (show ¬ (false = true) by decide)] at H
      have H' := Aside0.mk H
      clear H
      obtain ⟨hcz33_0, hcz33_1, hcz33_2, hcz33_3, hcz33_4, hcz33_5, hcz33_6, hcz33_7, hcz33_8, hcz33_9, hcz33_10, hcz33_11, hcz33_12⟩ := cl13 BK258.out
      obtain ⟨hfz33_0, hfz33_1, hfz33_2, hfz33_3, hfz33_4, hfz33_5, hfz33_6, hfz33_7, hfz33_8, hfz33_9, hfz33_10, hfz33_11, hfz33_12⟩ := fr13 BK258.out
      go_wp2_with (first | ((with_reducible refine gate_callee (f := 74) rfl ?_); refine goesL_ (some 28) rfl rfl Try.func74 B7x2_ rfl #[.int .i64 a0_0, .int .i64 0, .int .i64 4] rfl B7x1_ ?_; (with_reducible refine (impl_within.calls a0_0 0 4 false _ A21.out).mono ?_); rintro e w' ⟨rfl, ⟨nd, rfl⟩⟩; refine ⟨_, rfl, ?_⟩))
      go_meet
      case rel => exact ⟨_, (true), (be_), H', ⟨B7x18_⟩, ⟨B7x7_⟩, ⟨B7x0_⟩⟩
    case rest =>
     clear HC20
     try clear c4
     try clear c4b0
     try clear hcz3_0
     try clear hcz3_1
     try clear hcz3_10
     try clear hcz3_11
     try clear hcz3_12
     try clear hcz3_2
     try clear hcz3_3
     try clear hcz3_4
     try clear hcz3_5
     try clear hcz3_6
     try clear hcz3_7
     try clear hcz3_8
     try clear hcz3_9
     try clear hfz3_0
     try clear hfz3_1
     try clear hfz3_10
     try clear hfz3_11
     try clear hfz3_12
     try clear hfz3_2
     try clear hfz3_3
     try clear hfz3_4
     try clear hfz3_5
     try clear hfz3_6
     try clear hfz3_7
     try clear hfz3_8
     try clear hfz3_9
     obtain ⟨kq, x53_19, rfl, HA, HJ19, BK258, HB⟩ := hcut
     cases kq with
     | zero => exact absurd HA.out (by simp [impl_StreamOk.j1])
     | succ kj19 =>
      have H := HA.out
      clear HA
      simp only [impl_StreamOk.j1] at H
      by_cases c34 : x53_19 = true
      ·subst c34
       rw [if_pos rfl] at H
       obtain rfl := Option.some.inj H
       go_wp2
       go_ret
       exact ⟨B7x19_, B7x0_⟩
      replace c34 := Bool.eq_false_iff.mpr c34
      subst c34
      rw [if_neg (show ¬ (false = true) by decide)] at H
      replace H := bsi H
      obtain ⟨t267, A35, H⟩ := H
      (try dsimp only at H)
      by_cases c36 : t267 = true
      ·subst c36
       rw [if_pos rfl] at H
       by_cases c37 : a0_6 = 2
       ·rw [if_pos c37] at H
        have c37b0 := beq_iff_eq.mpr c37
        have c37b1 := bne_eq_false_iff_eq.mpr c37
        clear c37
        by_cases c38 : a0_5 = (a0_4.size : Int)
        ·rw [if_pos c38] at H
         have c38b0 := beq_iff_eq.mpr c38
         have c38b1 := bne_eq_false_iff_eq.mpr c38
         clear c38
         by_cases c39 : a0_6 = 3
         ·rw [if_pos c39] at H
          have c39b0 := beq_iff_eq.mpr c39
          have c39b1 := bne_eq_false_iff_eq.mpr c39
          clear c39
          by_cases c40 : (a0_8.size : Int) ≤ 1000
          ·rw [if_pos c40] at H
           have c40b0 : decide ((a0_8.size : Int) ≤ 1000) = true := decide_eq_true c40
           have c40b1 : decide (a0_8.size ≤ 1000) = true := decide_eq_true (by omega)
           clear c40
           obtain ⟨ji41, hji41⟩ : ∃ j_ : Int, (mn (a0_4.size : Int) 24) = j_ := ⟨_, rfl⟩
           replace H : ((impl_within.f a0_5 0 (ji41)).bind fun t268 => (if t268 = true then (if a0_4.toList = ([] : List UInt8) then (if (l0_9.length : Int) ≤ 8 then ((impl_within.f a0_11 0 1000000000).bind fun t269 => (if t269 = true then ((impl_within.f a0_12 0 12).bind fun t270 => (some t270)) else (some false))) else (some false)) else (some false)) else (some false))) = some r := by first | (rw [hji41] at H; exact H) | (simp only [hji41] at H ⊢; exact H)
           (try rw [hji41] at A35)
           have hji41_ : (if 24 < (a0_4.size : Int) then 24 else (a0_4.size : Int)) = ji41 := hji41
           replace H := bsi H
           obtain ⟨t268, A42, H⟩ := H
           (try dsimp only at H)
           by_cases c43 : t268 = true
           ·subst c43
            rw [if_pos rfl] at H
            by_cases c44 : a0_4.toList = ([] : List UInt8)
            ·rw [if_pos c44] at H
             have c44b0 := beq_iff_eq.mpr c44
             have c44b1 := bne_eq_false_iff_eq.mpr c44
             clear c44
             by_cases c45 : (l0_9.length : Int) ≤ 8
             ·rw [if_pos c45] at H
              have c45b0 : decide ((l0_9.length : Int) ≤ 8) = true := decide_eq_true c45
              have c45b1 : decide (l0_9.length ≤ 8) = true := decide_eq_true (by omega)
              clear c45
              replace H := bsi H
              obtain ⟨t269, A46, H⟩ := H
              (try dsimp only at H)
              by_cases c47 : t269 = true
              ·subst c47
               rw [if_pos rfl] at H
               replace H := bsi H
               obtain ⟨t270, A48, H⟩ := H
               (try dsimp only at H)
               obtain rfl := Option.some.inj H
               obtain ⟨hcz49_0, hcz49_1, hcz49_2, hcz49_3, hcz49_4, hcz49_5, hcz49_6, hcz49_7, hcz49_8, hcz49_9, hcz49_10, hcz49_11, hcz49_12⟩ := cl13 BK258.out
               obtain ⟨hfz49_0, hfz49_1, hfz49_2, hfz49_3, hfz49_4, hfz49_5, hfz49_6, hfz49_7, hfz49_8, hfz49_9, hfz49_10, hfz49_11, hfz49_12⟩ := fr13 BK258.out
               go_wp2_with (first | ((with_reducible refine gate_callee (f := 74) rfl ?_); refine goesL_ (some 56) rfl rfl Try.func74 B7x2_ rfl #[.int .i64 a0_6, .int .i64 0, .int .i64 3] rfl B7x1_ ?_; (with_reducible refine (impl_within.calls a0_6 0 3 true _ A35.out).mono ?_); rintro e w' ⟨rfl, ⟨nd, rfl⟩⟩; refine ⟨_, rfl, ?_⟩) | ((with_reducible refine gate_callee (f := 74) rfl ?_); refine goesL_ (some 96) rfl rfl Try.func74 B7x2_ rfl #[.int .i64 a0_5, .int .i64 0, .int .i64 ji41] rfl B7x5_ ?_; (with_reducible refine (impl_within.calls a0_5 0 ji41 true _ A42.out).mono ?_); rintro e w' ⟨rfl, ⟨nd, rfl⟩⟩; refine ⟨_, rfl, ?_⟩) | (go_at_call 74; (with_reducible refine (impl_within.calls a0_11 0 1000000000 true _ A46.out).mono ?_); rintro e w' ⟨rfl, ⟨nd, rfl⟩⟩) | (go_at_call 74; (with_reducible refine (impl_within.calls a0_12 0 12 t270 _ A48.out).mono ?_); rintro e w' ⟨rfl, ⟨nd, rfl⟩⟩))
               go_ret
               exact ⟨B7x3_, B7x0_⟩
              ·replace c47 := Bool.eq_false_iff.mpr c47
               subst c47
               rw [if_neg (show ¬ (false = true) by decide)] at H
               obtain rfl := Option.some.inj H
               obtain ⟨hcz50_0, hcz50_1, hcz50_2, hcz50_3, hcz50_4, hcz50_5, hcz50_6, hcz50_7, hcz50_8, hcz50_9, hcz50_10, hcz50_11, hcz50_12⟩ := cl13 BK258.out
               obtain ⟨hfz50_0, hfz50_1, hfz50_2, hfz50_3, hfz50_4, hfz50_5, hfz50_6, hfz50_7, hfz50_8, hfz50_9, hfz50_10, hfz50_11, hfz50_12⟩ := fr13 BK258.out
               go_wp2_with (first | ((with_reducible refine gate_callee (f := 74) rfl ?_); refine goesL_ (some 56) rfl rfl Try.func74 B7x2_ rfl #[.int .i64 a0_6, .int .i64 0, .int .i64 3] rfl B7x1_ ?_; (with_reducible refine (impl_within.calls a0_6 0 3 true _ A35.out).mono ?_); rintro e w' ⟨rfl, ⟨nd, rfl⟩⟩; refine ⟨_, rfl, ?_⟩) | ((with_reducible refine gate_callee (f := 74) rfl ?_); refine goesL_ (some 96) rfl rfl Try.func74 B7x2_ rfl #[.int .i64 a0_5, .int .i64 0, .int .i64 ji41] rfl B7x5_ ?_; (with_reducible refine (impl_within.calls a0_5 0 ji41 true _ A42.out).mono ?_); rintro e w' ⟨rfl, ⟨nd, rfl⟩⟩; refine ⟨_, rfl, ?_⟩) | (go_at_call 74; (with_reducible refine (impl_within.calls a0_11 0 1000000000 false _ A46.out).mono ?_); rintro e w' ⟨rfl, ⟨nd, rfl⟩⟩))
               go_ret
               exact ⟨B7x3_, B7x0_⟩
             ·rw [if_neg c45] at H
              have c45b0 : decide ((l0_9.length : Int) ≤ 8) = false := decide_eq_false c45
              have c45b1 : decide (l0_9.length ≤ 8) = false := decide_eq_false (by omega)
              clear c45
              obtain rfl := Option.some.inj H
              obtain ⟨hcz51_0, hcz51_1, hcz51_2, hcz51_3, hcz51_4, hcz51_5, hcz51_6, hcz51_7, hcz51_8, hcz51_9, hcz51_10, hcz51_11, hcz51_12⟩ := cl13 BK258.out
              obtain ⟨hfz51_0, hfz51_1, hfz51_2, hfz51_3, hfz51_4, hfz51_5, hfz51_6, hfz51_7, hfz51_8, hfz51_9, hfz51_10, hfz51_11, hfz51_12⟩ := fr13 BK258.out
              go_wp2_with (first | ((with_reducible refine gate_callee (f := 74) rfl ?_); refine goesL_ (some 56) rfl rfl Try.func74 B7x2_ rfl #[.int .i64 a0_6, .int .i64 0, .int .i64 3] rfl B7x1_ ?_; (with_reducible refine (impl_within.calls a0_6 0 3 true _ A35.out).mono ?_); rintro e w' ⟨rfl, ⟨nd, rfl⟩⟩; refine ⟨_, rfl, ?_⟩) | ((with_reducible refine gate_callee (f := 74) rfl ?_); refine goesL_ (some 96) rfl rfl Try.func74 B7x2_ rfl #[.int .i64 a0_5, .int .i64 0, .int .i64 ji41] rfl B7x5_ ?_; (with_reducible refine (impl_within.calls a0_5 0 ji41 true _ A42.out).mono ?_); rintro e w' ⟨rfl, ⟨nd, rfl⟩⟩; refine ⟨_, rfl, ?_⟩))
              go_ret
              exact ⟨B7x3_, B7x0_⟩
            ·rw [if_neg c44] at H
             have c44b0 := beq_eq_false_iff_ne.mpr c44
             have c44b1 := bne_iff_ne.mpr c44
             obtain rfl := Option.some.inj H
             obtain ⟨hcz52_0, hcz52_1, hcz52_2, hcz52_3, hcz52_4, hcz52_5, hcz52_6, hcz52_7, hcz52_8, hcz52_9, hcz52_10, hcz52_11, hcz52_12⟩ := cl13 BK258.out
             obtain ⟨hfz52_0, hfz52_1, hfz52_2, hfz52_3, hfz52_4, hfz52_5, hfz52_6, hfz52_7, hfz52_8, hfz52_9, hfz52_10, hfz52_11, hfz52_12⟩ := fr13 BK258.out
             go_wp2_with (first | ((with_reducible refine gate_callee (f := 74) rfl ?_); refine goesL_ (some 56) rfl rfl Try.func74 B7x2_ rfl #[.int .i64 a0_6, .int .i64 0, .int .i64 3] rfl B7x1_ ?_; (with_reducible refine (impl_within.calls a0_6 0 3 true _ A35.out).mono ?_); rintro e w' ⟨rfl, ⟨nd, rfl⟩⟩; refine ⟨_, rfl, ?_⟩) | ((with_reducible refine gate_callee (f := 74) rfl ?_); refine goesL_ (some 96) rfl rfl Try.func74 B7x2_ rfl #[.int .i64 a0_5, .int .i64 0, .int .i64 ji41] rfl B7x5_ ?_; (with_reducible refine (impl_within.calls a0_5 0 ji41 true _ A42.out).mono ?_); rintro e w' ⟨rfl, ⟨nd, rfl⟩⟩; refine ⟨_, rfl, ?_⟩))
             go_ret
             exact ⟨B7x3_, B7x0_⟩
           ·replace c43 := Bool.eq_false_iff.mpr c43
            subst c43
            rw [if_neg (show ¬ (false = true) by decide)] at H
            obtain rfl := Option.some.inj H
            obtain ⟨hcz53_0, hcz53_1, hcz53_2, hcz53_3, hcz53_4, hcz53_5, hcz53_6, hcz53_7, hcz53_8, hcz53_9, hcz53_10, hcz53_11, hcz53_12⟩ := cl13 BK258.out
            obtain ⟨hfz53_0, hfz53_1, hfz53_2, hfz53_3, hfz53_4, hfz53_5, hfz53_6, hfz53_7, hfz53_8, hfz53_9, hfz53_10, hfz53_11, hfz53_12⟩ := fr13 BK258.out
            go_wp2_with (first | ((with_reducible refine gate_callee (f := 74) rfl ?_); refine goesL_ (some 56) rfl rfl Try.func74 B7x2_ rfl #[.int .i64 a0_6, .int .i64 0, .int .i64 3] rfl B7x1_ ?_; (with_reducible refine (impl_within.calls a0_6 0 3 true _ A35.out).mono ?_); rintro e w' ⟨rfl, ⟨nd, rfl⟩⟩; refine ⟨_, rfl, ?_⟩) | ((with_reducible refine gate_callee (f := 74) rfl ?_); refine goesL_ (some 96) rfl rfl Try.func74 B7x2_ rfl #[.int .i64 a0_5, .int .i64 0, .int .i64 ji41] rfl B7x5_ ?_; (with_reducible refine (impl_within.calls a0_5 0 ji41 false _ A42.out).mono ?_); rintro e w' ⟨rfl, ⟨nd, rfl⟩⟩; refine ⟨_, rfl, ?_⟩))
            go_ret
            exact ⟨B7x3_, B7x0_⟩
          ·rw [if_neg c40] at H
           have c40b0 : decide ((a0_8.size : Int) ≤ 1000) = false := decide_eq_false c40
           have c40b1 : decide (a0_8.size ≤ 1000) = false := decide_eq_false (by omega)
           clear c40
           obtain ⟨ji54, hji54⟩ : ∃ j_ : Int, (mn (a0_4.size : Int) 24) = j_ := ⟨_, rfl⟩
           replace H : ((impl_within.f a0_5 0 (ji54)).bind fun t271 => (if t271 = true then (if a0_4.toList = ([] : List UInt8) then (some false) else (some false)) else (some false))) = some r := by first | (rw [hji54] at H; exact H) | (simp only [hji54] at H ⊢; exact H)
           (try rw [hji54] at A35)
           have hji54_ : (if 24 < (a0_4.size : Int) then 24 else (a0_4.size : Int)) = ji54 := hji54
           replace H := bsi H
           obtain ⟨t271, A55, H⟩ := H
           (try dsimp only at H)
           by_cases c56 : t271 = true
           ·subst c56
            rw [if_pos rfl] at H
            by_cases c57 : a0_4.toList = ([] : List UInt8)
            ·rw [if_pos c57] at H
             have c57b0 := beq_iff_eq.mpr c57
             have c57b1 := bne_eq_false_iff_eq.mpr c57
             clear c57
             obtain rfl := Option.some.inj H
             obtain ⟨hcz58_0, hcz58_1, hcz58_2, hcz58_3, hcz58_4, hcz58_5, hcz58_6, hcz58_7, hcz58_8, hcz58_9, hcz58_10, hcz58_11, hcz58_12⟩ := cl13 BK258.out
             obtain ⟨hfz58_0, hfz58_1, hfz58_2, hfz58_3, hfz58_4, hfz58_5, hfz58_6, hfz58_7, hfz58_8, hfz58_9, hfz58_10, hfz58_11, hfz58_12⟩ := fr13 BK258.out
             go_wp2_with (first | ((with_reducible refine gate_callee (f := 74) rfl ?_); refine goesL_ (some 56) rfl rfl Try.func74 B7x2_ rfl #[.int .i64 a0_6, .int .i64 0, .int .i64 3] rfl B7x1_ ?_; (with_reducible refine (impl_within.calls a0_6 0 3 true _ A35.out).mono ?_); rintro e w' ⟨rfl, ⟨nd, rfl⟩⟩; refine ⟨_, rfl, ?_⟩) | ((with_reducible refine gate_callee (f := 74) rfl ?_); refine goesL_ (some 96) rfl rfl Try.func74 B7x2_ rfl #[.int .i64 a0_5, .int .i64 0, .int .i64 ji54] rfl B7x16_ ?_; (with_reducible refine (impl_within.calls a0_5 0 ji54 true _ A55.out).mono ?_); rintro e w' ⟨rfl, ⟨nd, rfl⟩⟩; refine ⟨_, rfl, ?_⟩))
             go_ret
             exact ⟨B7x14_, B7x0_⟩
            ·rw [if_neg c57] at H
             have c57b0 := beq_eq_false_iff_ne.mpr c57
             have c57b1 := bne_iff_ne.mpr c57
             obtain rfl := Option.some.inj H
             obtain ⟨hcz59_0, hcz59_1, hcz59_2, hcz59_3, hcz59_4, hcz59_5, hcz59_6, hcz59_7, hcz59_8, hcz59_9, hcz59_10, hcz59_11, hcz59_12⟩ := cl13 BK258.out
             obtain ⟨hfz59_0, hfz59_1, hfz59_2, hfz59_3, hfz59_4, hfz59_5, hfz59_6, hfz59_7, hfz59_8, hfz59_9, hfz59_10, hfz59_11, hfz59_12⟩ := fr13 BK258.out
             go_wp2_with (first | ((with_reducible refine gate_callee (f := 74) rfl ?_); refine goesL_ (some 56) rfl rfl Try.func74 B7x2_ rfl #[.int .i64 a0_6, .int .i64 0, .int .i64 3] rfl B7x1_ ?_; (with_reducible refine (impl_within.calls a0_6 0 3 true _ A35.out).mono ?_); rintro e w' ⟨rfl, ⟨nd, rfl⟩⟩; refine ⟨_, rfl, ?_⟩) | ((with_reducible refine gate_callee (f := 74) rfl ?_); refine goesL_ (some 96) rfl rfl Try.func74 B7x2_ rfl #[.int .i64 a0_5, .int .i64 0, .int .i64 ji54] rfl B7x16_ ?_; (with_reducible refine (impl_within.calls a0_5 0 ji54 true _ A55.out).mono ?_); rintro e w' ⟨rfl, ⟨nd, rfl⟩⟩; refine ⟨_, rfl, ?_⟩))
             go_ret
             exact ⟨B7x14_, B7x0_⟩
           ·replace c56 := Bool.eq_false_iff.mpr c56
            subst c56
            rw [if_neg (show ¬ (false = true) by decide)] at H
            obtain rfl := Option.some.inj H
            obtain ⟨hcz60_0, hcz60_1, hcz60_2, hcz60_3, hcz60_4, hcz60_5, hcz60_6, hcz60_7, hcz60_8, hcz60_9, hcz60_10, hcz60_11, hcz60_12⟩ := cl13 BK258.out
            obtain ⟨hfz60_0, hfz60_1, hfz60_2, hfz60_3, hfz60_4, hfz60_5, hfz60_6, hfz60_7, hfz60_8, hfz60_9, hfz60_10, hfz60_11, hfz60_12⟩ := fr13 BK258.out
            go_wp2_with (first | ((with_reducible refine gate_callee (f := 74) rfl ?_); refine goesL_ (some 56) rfl rfl Try.func74 B7x2_ rfl #[.int .i64 a0_6, .int .i64 0, .int .i64 3] rfl B7x1_ ?_; (with_reducible refine (impl_within.calls a0_6 0 3 true _ A35.out).mono ?_); rintro e w' ⟨rfl, ⟨nd, rfl⟩⟩; refine ⟨_, rfl, ?_⟩) | ((with_reducible refine gate_callee (f := 74) rfl ?_); refine goesL_ (some 96) rfl rfl Try.func74 B7x2_ rfl #[.int .i64 a0_5, .int .i64 0, .int .i64 ji54] rfl B7x16_ ?_; (with_reducible refine (impl_within.calls a0_5 0 ji54 false _ A55.out).mono ?_); rintro e w' ⟨rfl, ⟨nd, rfl⟩⟩; refine ⟨_, rfl, ?_⟩))
            go_ret
            exact ⟨B7x14_, B7x0_⟩
         ·rw [if_neg c39] at H
          have c39b0 := beq_eq_false_iff_ne.mpr c39
          have c39b1 := bne_iff_ne.mpr c39
          by_cases c61 : (a0_8.size : Int) ≤ 1000
          ·rw [if_pos c61] at H
           have c61b0 : decide ((a0_8.size : Int) ≤ 1000) = true := decide_eq_true c61
           have c61b1 : decide (a0_8.size ≤ 1000) = true := decide_eq_true (by omega)
           clear c61
           obtain ⟨ji62, hji62⟩ : ∃ j_ : Int, (mn (a0_4.size : Int) 24) = j_ := ⟨_, rfl⟩
           replace H : ((impl_within.f a0_5 0 (ji62)).bind fun t272 => (if t272 = true then (if (l0_9.length : Int) ≤ 8 then ((impl_within.f a0_11 0 1000000000).bind fun t273 => (if t273 = true then ((impl_within.f a0_12 0 12).bind fun t274 => (some t274)) else (some false))) else (some false)) else (some false))) = some r := by first | (rw [hji62] at H; exact H) | (simp only [hji62] at H ⊢; exact H)
           (try rw [hji62] at A35)
           have hji62_ : (if 24 < (a0_4.size : Int) then 24 else (a0_4.size : Int)) = ji62 := hji62
           replace H := bsi H
           obtain ⟨t272, A63, H⟩ := H
           (try dsimp only at H)
           by_cases c64 : t272 = true
           ·subst c64
            rw [if_pos rfl] at H
            by_cases c65 : (l0_9.length : Int) ≤ 8
            ·rw [if_pos c65] at H
             have c65b0 : decide ((l0_9.length : Int) ≤ 8) = true := decide_eq_true c65
             have c65b1 : decide (l0_9.length ≤ 8) = true := decide_eq_true (by omega)
             clear c65
             replace H := bsi H
             obtain ⟨t273, A66, H⟩ := H
             (try dsimp only at H)
             by_cases c67 : t273 = true
             ·subst c67
              rw [if_pos rfl] at H
              replace H := bsi H
              obtain ⟨t274, A68, H⟩ := H
              (try dsimp only at H)
              obtain rfl := Option.some.inj H
              obtain ⟨hcz69_0, hcz69_1, hcz69_2, hcz69_3, hcz69_4, hcz69_5, hcz69_6, hcz69_7, hcz69_8, hcz69_9, hcz69_10, hcz69_11, hcz69_12⟩ := cl13 BK258.out
              obtain ⟨hfz69_0, hfz69_1, hfz69_2, hfz69_3, hfz69_4, hfz69_5, hfz69_6, hfz69_7, hfz69_8, hfz69_9, hfz69_10, hfz69_11, hfz69_12⟩ := fr13 BK258.out
              go_wp2_with (first | ((with_reducible refine gate_callee (f := 74) rfl ?_); refine goesL_ (some 56) rfl rfl Try.func74 B7x2_ rfl #[.int .i64 a0_6, .int .i64 0, .int .i64 3] rfl B7x1_ ?_; (with_reducible refine (impl_within.calls a0_6 0 3 true _ A35.out).mono ?_); rintro e w' ⟨rfl, ⟨nd, rfl⟩⟩; refine ⟨_, rfl, ?_⟩) | ((with_reducible refine gate_callee (f := 74) rfl ?_); refine goesL_ (some 96) rfl rfl Try.func74 B7x2_ rfl #[.int .i64 a0_5, .int .i64 0, .int .i64 ji62] rfl B7x11_ ?_; (with_reducible refine (impl_within.calls a0_5 0 ji62 true _ A63.out).mono ?_); rintro e w' ⟨rfl, ⟨nd, rfl⟩⟩; refine ⟨_, rfl, ?_⟩) | (go_at_call 74; (with_reducible refine (impl_within.calls a0_11 0 1000000000 true _ A66.out).mono ?_); rintro e w' ⟨rfl, ⟨nd, rfl⟩⟩) | (go_at_call 74; (with_reducible refine (impl_within.calls a0_12 0 12 t274 _ A68.out).mono ?_); rintro e w' ⟨rfl, ⟨nd, rfl⟩⟩))
              go_ret
              exact ⟨B7x9_, B7x0_⟩
             ·replace c67 := Bool.eq_false_iff.mpr c67
              subst c67
              rw [if_neg (show ¬ (false = true) by decide)] at H
              obtain rfl := Option.some.inj H
              obtain ⟨hcz70_0, hcz70_1, hcz70_2, hcz70_3, hcz70_4, hcz70_5, hcz70_6, hcz70_7, hcz70_8, hcz70_9, hcz70_10, hcz70_11, hcz70_12⟩ := cl13 BK258.out
              obtain ⟨hfz70_0, hfz70_1, hfz70_2, hfz70_3, hfz70_4, hfz70_5, hfz70_6, hfz70_7, hfz70_8, hfz70_9, hfz70_10, hfz70_11, hfz70_12⟩ := fr13 BK258.out
              go_wp2_with (first | ((with_reducible refine gate_callee (f := 74) rfl ?_); refine goesL_ (some 56) rfl rfl Try.func74 B7x2_ rfl #[.int .i64 a0_6, .int .i64 0, .int .i64 3] rfl B7x1_ ?_; (with_reducible refine (impl_within.calls a0_6 0 3 true _ A35.out).mono ?_); rintro e w' ⟨rfl, ⟨nd, rfl⟩⟩; refine ⟨_, rfl, ?_⟩) | ((with_reducible refine gate_callee (f := 74) rfl ?_); refine goesL_ (some 96) rfl rfl Try.func74 B7x2_ rfl #[.int .i64 a0_5, .int .i64 0, .int .i64 ji62] rfl B7x11_ ?_; (with_reducible refine (impl_within.calls a0_5 0 ji62 true _ A63.out).mono ?_); rintro e w' ⟨rfl, ⟨nd, rfl⟩⟩; refine ⟨_, rfl, ?_⟩) | (go_at_call 74; (with_reducible refine (impl_within.calls a0_11 0 1000000000 false _ A66.out).mono ?_); rintro e w' ⟨rfl, ⟨nd, rfl⟩⟩))
              go_ret
              exact ⟨B7x9_, B7x0_⟩
            ·rw [if_neg c65] at H
             have c65b0 : decide ((l0_9.length : Int) ≤ 8) = false := decide_eq_false c65
             have c65b1 : decide (l0_9.length ≤ 8) = false := decide_eq_false (by omega)
             clear c65
             obtain rfl := Option.some.inj H
             obtain ⟨hcz71_0, hcz71_1, hcz71_2, hcz71_3, hcz71_4, hcz71_5, hcz71_6, hcz71_7, hcz71_8, hcz71_9, hcz71_10, hcz71_11, hcz71_12⟩ := cl13 BK258.out
             obtain ⟨hfz71_0, hfz71_1, hfz71_2, hfz71_3, hfz71_4, hfz71_5, hfz71_6, hfz71_7, hfz71_8, hfz71_9, hfz71_10, hfz71_11, hfz71_12⟩ := fr13 BK258.out
             go_wp2_with (first | ((with_reducible refine gate_callee (f := 74) rfl ?_); refine goesL_ (some 56) rfl rfl Try.func74 B7x2_ rfl #[.int .i64 a0_6, .int .i64 0, .int .i64 3] rfl B7x1_ ?_; (with_reducible refine (impl_within.calls a0_6 0 3 true _ A35.out).mono ?_); rintro e w' ⟨rfl, ⟨nd, rfl⟩⟩; refine ⟨_, rfl, ?_⟩) | ((with_reducible refine gate_callee (f := 74) rfl ?_); refine goesL_ (some 96) rfl rfl Try.func74 B7x2_ rfl #[.int .i64 a0_5, .int .i64 0, .int .i64 ji62] rfl B7x11_ ?_; (with_reducible refine (impl_within.calls a0_5 0 ji62 true _ A63.out).mono ?_); rintro e w' ⟨rfl, ⟨nd, rfl⟩⟩; refine ⟨_, rfl, ?_⟩))
             go_ret
             exact ⟨B7x9_, B7x0_⟩
           ·replace c64 := Bool.eq_false_iff.mpr c64
            subst c64
            rw [if_neg (show ¬ (false = true) by decide)] at H
            obtain rfl := Option.some.inj H
            obtain ⟨hcz72_0, hcz72_1, hcz72_2, hcz72_3, hcz72_4, hcz72_5, hcz72_6, hcz72_7, hcz72_8, hcz72_9, hcz72_10, hcz72_11, hcz72_12⟩ := cl13 BK258.out
            obtain ⟨hfz72_0, hfz72_1, hfz72_2, hfz72_3, hfz72_4, hfz72_5, hfz72_6, hfz72_7, hfz72_8, hfz72_9, hfz72_10, hfz72_11, hfz72_12⟩ := fr13 BK258.out
            go_wp2_with (first | ((with_reducible refine gate_callee (f := 74) rfl ?_); refine goesL_ (some 56) rfl rfl Try.func74 B7x2_ rfl #[.int .i64 a0_6, .int .i64 0, .int .i64 3] rfl B7x1_ ?_; (with_reducible refine (impl_within.calls a0_6 0 3 true _ A35.out).mono ?_); rintro e w' ⟨rfl, ⟨nd, rfl⟩⟩; refine ⟨_, rfl, ?_⟩) | ((with_reducible refine gate_callee (f := 74) rfl ?_); refine goesL_ (some 96) rfl rfl Try.func74 B7x2_ rfl #[.int .i64 a0_5, .int .i64 0, .int .i64 ji62] rfl B7x11_ ?_; (with_reducible refine (impl_within.calls a0_5 0 ji62 false _ A63.out).mono ?_); rintro e w' ⟨rfl, ⟨nd, rfl⟩⟩; refine ⟨_, rfl, ?_⟩))
            go_ret
            exact ⟨B7x9_, B7x0_⟩
          ·rw [if_neg c61] at H
           have c61b0 : decide ((a0_8.size : Int) ≤ 1000) = false := decide_eq_false c61
           have c61b1 : decide (a0_8.size ≤ 1000) = false := decide_eq_false (by omega)
           clear c61
           obtain ⟨ji73, hji73⟩ : ∃ j_ : Int, (mn (a0_4.size : Int) 24) = j_ := ⟨_, rfl⟩
           replace H : ((impl_within.f a0_5 0 (ji73)).bind fun t275 => (if t275 = true then (some false) else (some false))) = some r := by first | (rw [hji73] at H; exact H) | (simp only [hji73] at H ⊢; exact H)
           (try rw [hji73] at A35)
           have hji73_ : (if 24 < (a0_4.size : Int) then 24 else (a0_4.size : Int)) = ji73 := hji73
           replace H := bsi H
           obtain ⟨t275, A74, H⟩ := H
           (try dsimp only at H)
           by_cases c75 : t275 = true
           ·subst c75
            rw [if_pos rfl] at H
            obtain rfl := Option.some.inj H
            obtain ⟨hcz76_0, hcz76_1, hcz76_2, hcz76_3, hcz76_4, hcz76_5, hcz76_6, hcz76_7, hcz76_8, hcz76_9, hcz76_10, hcz76_11, hcz76_12⟩ := cl13 BK258.out
            obtain ⟨hfz76_0, hfz76_1, hfz76_2, hfz76_3, hfz76_4, hfz76_5, hfz76_6, hfz76_7, hfz76_8, hfz76_9, hfz76_10, hfz76_11, hfz76_12⟩ := fr13 BK258.out
            go_wp2_with (first | ((with_reducible refine gate_callee (f := 74) rfl ?_); refine goesL_ (some 56) rfl rfl Try.func74 B7x2_ rfl #[.int .i64 a0_6, .int .i64 0, .int .i64 3] rfl B7x1_ ?_; (with_reducible refine (impl_within.calls a0_6 0 3 true _ A35.out).mono ?_); rintro e w' ⟨rfl, ⟨nd, rfl⟩⟩; refine ⟨_, rfl, ?_⟩) | ((with_reducible refine gate_callee (f := 74) rfl ?_); refine goesL_ (some 96) rfl rfl Try.func74 B7x2_ rfl #[.int .i64 a0_5, .int .i64 0, .int .i64 ji73] rfl B7x29_ ?_; (with_reducible refine (impl_within.calls a0_5 0 ji73 true _ A74.out).mono ?_); rintro e w' ⟨rfl, ⟨nd, rfl⟩⟩; refine ⟨_, rfl, ?_⟩))
            go_ret
            exact ⟨B7x23_, B7x0_⟩
           ·replace c75 := Bool.eq_false_iff.mpr c75
            subst c75
            rw [if_neg (show ¬ (false = true) by decide)] at H
            obtain rfl := Option.some.inj H
            obtain ⟨hcz77_0, hcz77_1, hcz77_2, hcz77_3, hcz77_4, hcz77_5, hcz77_6, hcz77_7, hcz77_8, hcz77_9, hcz77_10, hcz77_11, hcz77_12⟩ := cl13 BK258.out
            obtain ⟨hfz77_0, hfz77_1, hfz77_2, hfz77_3, hfz77_4, hfz77_5, hfz77_6, hfz77_7, hfz77_8, hfz77_9, hfz77_10, hfz77_11, hfz77_12⟩ := fr13 BK258.out
            go_wp2_with (first | ((with_reducible refine gate_callee (f := 74) rfl ?_); refine goesL_ (some 56) rfl rfl Try.func74 B7x2_ rfl #[.int .i64 a0_6, .int .i64 0, .int .i64 3] rfl B7x1_ ?_; (with_reducible refine (impl_within.calls a0_6 0 3 true _ A35.out).mono ?_); rintro e w' ⟨rfl, ⟨nd, rfl⟩⟩; refine ⟨_, rfl, ?_⟩) | ((with_reducible refine gate_callee (f := 74) rfl ?_); refine goesL_ (some 96) rfl rfl Try.func74 B7x2_ rfl #[.int .i64 a0_5, .int .i64 0, .int .i64 ji73] rfl B7x29_ ?_; (with_reducible refine (impl_within.calls a0_5 0 ji73 false _ A74.out).mono ?_); rintro e w' ⟨rfl, ⟨nd, rfl⟩⟩; refine ⟨_, rfl, ?_⟩))
            go_ret
            exact ⟨B7x23_, B7x0_⟩
        ·rw [if_neg c38] at H
         have c38b0 := beq_eq_false_iff_ne.mpr c38
         have c38b1 := bne_iff_ne.mpr c38
         by_cases c78 : (a0_8.size : Int) ≤ 1000
         ·rw [if_pos c78] at H
          have c78b0 : decide ((a0_8.size : Int) ≤ 1000) = true := decide_eq_true c78
          have c78b1 : decide (a0_8.size ≤ 1000) = true := decide_eq_true (by omega)
          clear c78
          obtain ⟨ji79, hji79⟩ : ∃ j_ : Int, (mn (a0_4.size : Int) 24) = j_ := ⟨_, rfl⟩
          replace H : ((impl_within.f a0_5 0 (ji79)).bind fun t276 => (if t276 = true then (some false) else (some false))) = some r := by first | (rw [hji79] at H; exact H) | (simp only [hji79] at H ⊢; exact H)
          (try rw [hji79] at A35)
          have hji79_ : (if 24 < (a0_4.size : Int) then 24 else (a0_4.size : Int)) = ji79 := hji79
          replace H := bsi H
          obtain ⟨t276, A80, H⟩ := H
          (try dsimp only at H)
          by_cases c81 : t276 = true
          ·subst c81
           rw [if_pos rfl] at H
           obtain rfl := Option.some.inj H
           obtain ⟨hcz82_0, hcz82_1, hcz82_2, hcz82_3, hcz82_4, hcz82_5, hcz82_6, hcz82_7, hcz82_8, hcz82_9, hcz82_10, hcz82_11, hcz82_12⟩ := cl13 BK258.out
           obtain ⟨hfz82_0, hfz82_1, hfz82_2, hfz82_3, hfz82_4, hfz82_5, hfz82_6, hfz82_7, hfz82_8, hfz82_9, hfz82_10, hfz82_11, hfz82_12⟩ := fr13 BK258.out
           go_wp2_with (first | ((with_reducible refine gate_callee (f := 74) rfl ?_); refine goesL_ (some 56) rfl rfl Try.func74 B7x2_ rfl #[.int .i64 a0_6, .int .i64 0, .int .i64 3] rfl B7x1_ ?_; (with_reducible refine (impl_within.calls a0_6 0 3 true _ A35.out).mono ?_); rintro e w' ⟨rfl, ⟨nd, rfl⟩⟩; refine ⟨_, rfl, ?_⟩) | ((with_reducible refine gate_callee (f := 74) rfl ?_); refine goesL_ (some 96) rfl rfl Try.func74 B7x2_ rfl #[.int .i64 a0_5, .int .i64 0, .int .i64 ji79] rfl B7x30_ ?_; (with_reducible refine (impl_within.calls a0_5 0 ji79 true _ A80.out).mono ?_); rintro e w' ⟨rfl, ⟨nd, rfl⟩⟩; refine ⟨_, rfl, ?_⟩))
           go_ret
           exact ⟨B7x24_, B7x0_⟩
          ·replace c81 := Bool.eq_false_iff.mpr c81
           subst c81
           rw [if_neg (show ¬ (false = true) by decide)] at H
           obtain rfl := Option.some.inj H
           obtain ⟨hcz83_0, hcz83_1, hcz83_2, hcz83_3, hcz83_4, hcz83_5, hcz83_6, hcz83_7, hcz83_8, hcz83_9, hcz83_10, hcz83_11, hcz83_12⟩ := cl13 BK258.out
           obtain ⟨hfz83_0, hfz83_1, hfz83_2, hfz83_3, hfz83_4, hfz83_5, hfz83_6, hfz83_7, hfz83_8, hfz83_9, hfz83_10, hfz83_11, hfz83_12⟩ := fr13 BK258.out
           go_wp2_with (first | ((with_reducible refine gate_callee (f := 74) rfl ?_); refine goesL_ (some 56) rfl rfl Try.func74 B7x2_ rfl #[.int .i64 a0_6, .int .i64 0, .int .i64 3] rfl B7x1_ ?_; (with_reducible refine (impl_within.calls a0_6 0 3 true _ A35.out).mono ?_); rintro e w' ⟨rfl, ⟨nd, rfl⟩⟩; refine ⟨_, rfl, ?_⟩) | ((with_reducible refine gate_callee (f := 74) rfl ?_); refine goesL_ (some 96) rfl rfl Try.func74 B7x2_ rfl #[.int .i64 a0_5, .int .i64 0, .int .i64 ji79] rfl B7x30_ ?_; (with_reducible refine (impl_within.calls a0_5 0 ji79 false _ A80.out).mono ?_); rintro e w' ⟨rfl, ⟨nd, rfl⟩⟩; refine ⟨_, rfl, ?_⟩))
           go_ret
           exact ⟨B7x24_, B7x0_⟩
         ·rw [if_neg c78] at H
          have c78b0 : decide ((a0_8.size : Int) ≤ 1000) = false := decide_eq_false c78
          have c78b1 : decide (a0_8.size ≤ 1000) = false := decide_eq_false (by omega)
          clear c78
          obtain ⟨ji84, hji84⟩ : ∃ j_ : Int, (mn (a0_4.size : Int) 24) = j_ := ⟨_, rfl⟩
          replace H : ((impl_within.f a0_5 0 (ji84)).bind fun t277 => (if t277 = true then (some false) else (some false))) = some r := by first | (rw [hji84] at H; exact H) | (simp only [hji84] at H ⊢; exact H)
          (try rw [hji84] at A35)
          have hji84_ : (if 24 < (a0_4.size : Int) then 24 else (a0_4.size : Int)) = ji84 := hji84
          replace H := bsi H
          obtain ⟨t277, A85, H⟩ := H
          (try dsimp only at H)
          by_cases c86 : t277 = true
          ·subst c86
           rw [if_pos rfl] at H
           obtain rfl := Option.some.inj H
           obtain ⟨hcz87_0, hcz87_1, hcz87_2, hcz87_3, hcz87_4, hcz87_5, hcz87_6, hcz87_7, hcz87_8, hcz87_9, hcz87_10, hcz87_11, hcz87_12⟩ := cl13 BK258.out
           obtain ⟨hfz87_0, hfz87_1, hfz87_2, hfz87_3, hfz87_4, hfz87_5, hfz87_6, hfz87_7, hfz87_8, hfz87_9, hfz87_10, hfz87_11, hfz87_12⟩ := fr13 BK258.out
           go_wp2_with (first | ((with_reducible refine gate_callee (f := 74) rfl ?_); refine goesL_ (some 56) rfl rfl Try.func74 B7x2_ rfl #[.int .i64 a0_6, .int .i64 0, .int .i64 3] rfl B7x1_ ?_; (with_reducible refine (impl_within.calls a0_6 0 3 true _ A35.out).mono ?_); rintro e w' ⟨rfl, ⟨nd, rfl⟩⟩; refine ⟨_, rfl, ?_⟩) | ((with_reducible refine gate_callee (f := 74) rfl ?_); refine goesL_ (some 96) rfl rfl Try.func74 B7x2_ rfl #[.int .i64 a0_5, .int .i64 0, .int .i64 ji84] rfl B7x31_ ?_; (with_reducible refine (impl_within.calls a0_5 0 ji84 true _ A85.out).mono ?_); rintro e w' ⟨rfl, ⟨nd, rfl⟩⟩; refine ⟨_, rfl, ?_⟩))
           go_ret
           exact ⟨B7x25_, B7x0_⟩
          ·replace c86 := Bool.eq_false_iff.mpr c86
           subst c86
           rw [if_neg (show ¬ (false = true) by decide)] at H
           obtain rfl := Option.some.inj H
           obtain ⟨hcz88_0, hcz88_1, hcz88_2, hcz88_3, hcz88_4, hcz88_5, hcz88_6, hcz88_7, hcz88_8, hcz88_9, hcz88_10, hcz88_11, hcz88_12⟩ := cl13 BK258.out
           obtain ⟨hfz88_0, hfz88_1, hfz88_2, hfz88_3, hfz88_4, hfz88_5, hfz88_6, hfz88_7, hfz88_8, hfz88_9, hfz88_10, hfz88_11, hfz88_12⟩ := fr13 BK258.out
           go_wp2_with (first | ((with_reducible refine gate_callee (f := 74) rfl ?_); refine goesL_ (some 56) rfl rfl Try.func74 B7x2_ rfl #[.int .i64 a0_6, .int .i64 0, .int .i64 3] rfl B7x1_ ?_; (with_reducible refine (impl_within.calls a0_6 0 3 true _ A35.out).mono ?_); rintro e w' ⟨rfl, ⟨nd, rfl⟩⟩; refine ⟨_, rfl, ?_⟩) | ((with_reducible refine gate_callee (f := 74) rfl ?_); refine goesL_ (some 96) rfl rfl Try.func74 B7x2_ rfl #[.int .i64 a0_5, .int .i64 0, .int .i64 ji84] rfl B7x31_ ?_; (with_reducible refine (impl_within.calls a0_5 0 ji84 false _ A85.out).mono ?_); rintro e w' ⟨rfl, ⟨nd, rfl⟩⟩; refine ⟨_, rfl, ?_⟩))
           go_ret
           exact ⟨B7x25_, B7x0_⟩
       ·rw [if_neg c37] at H
        have c37b0 := beq_eq_false_iff_ne.mpr c37
        have c37b1 := bne_iff_ne.mpr c37
        by_cases c89 : a0_6 = 3
        ·rw [if_pos c89] at H
         have c89b0 := beq_iff_eq.mpr c89
         have c89b1 := bne_eq_false_iff_eq.mpr c89
         clear c89
         by_cases c90 : (a0_8.size : Int) ≤ 1000
         ·rw [if_pos c90] at H
          have c90b0 : decide ((a0_8.size : Int) ≤ 1000) = true := decide_eq_true c90
          have c90b1 : decide (a0_8.size ≤ 1000) = true := decide_eq_true (by omega)
          clear c90
          obtain ⟨ji91, hji91⟩ : ∃ j_ : Int, (mn (a0_4.size : Int) 24) = j_ := ⟨_, rfl⟩
          replace H : ((impl_within.f a0_5 0 (ji91)).bind fun t278 => (if t278 = true then (if a0_4.toList = ([] : List UInt8) then (if (l0_9.length : Int) ≤ 8 then ((impl_within.f a0_11 0 1000000000).bind fun t279 => (if t279 = true then ((impl_within.f a0_12 0 12).bind fun t280 => (some t280)) else (some false))) else (some false)) else (some false)) else (some false))) = some r := by first | (rw [hji91] at H; exact H) | (simp only [hji91] at H ⊢; exact H)
          (try rw [hji91] at A35)
          have hji91_ : (if 24 < (a0_4.size : Int) then 24 else (a0_4.size : Int)) = ji91 := hji91
          replace H := bsi H
          obtain ⟨t278, A92, H⟩ := H
          (try dsimp only at H)
          by_cases c93 : t278 = true
          ·subst c93
           rw [if_pos rfl] at H
           by_cases c94 : a0_4.toList = ([] : List UInt8)
           ·rw [if_pos c94] at H
            have c94b0 := beq_iff_eq.mpr c94
            have c94b1 := bne_eq_false_iff_eq.mpr c94
            clear c94
            by_cases c95 : (l0_9.length : Int) ≤ 8
            ·rw [if_pos c95] at H
             have c95b0 : decide ((l0_9.length : Int) ≤ 8) = true := decide_eq_true c95
             have c95b1 : decide (l0_9.length ≤ 8) = true := decide_eq_true (by omega)
             clear c95
             replace H := bsi H
             obtain ⟨t279, A96, H⟩ := H
             (try dsimp only at H)
             by_cases c97 : t279 = true
             ·subst c97
              rw [if_pos rfl] at H
              replace H := bsi H
              obtain ⟨t280, A98, H⟩ := H
              (try dsimp only at H)
              obtain rfl := Option.some.inj H
              obtain ⟨hcz99_0, hcz99_1, hcz99_2, hcz99_3, hcz99_4, hcz99_5, hcz99_6, hcz99_7, hcz99_8, hcz99_9, hcz99_10, hcz99_11, hcz99_12⟩ := cl13 BK258.out
              obtain ⟨hfz99_0, hfz99_1, hfz99_2, hfz99_3, hfz99_4, hfz99_5, hfz99_6, hfz99_7, hfz99_8, hfz99_9, hfz99_10, hfz99_11, hfz99_12⟩ := fr13 BK258.out
              go_wp2_with (first | ((with_reducible refine gate_callee (f := 74) rfl ?_); refine goesL_ (some 56) rfl rfl Try.func74 B7x2_ rfl #[.int .i64 a0_6, .int .i64 0, .int .i64 3] rfl B7x1_ ?_; (with_reducible refine (impl_within.calls a0_6 0 3 true _ A35.out).mono ?_); rintro e w' ⟨rfl, ⟨nd, rfl⟩⟩; refine ⟨_, rfl, ?_⟩) | ((with_reducible refine gate_callee (f := 74) rfl ?_); refine goesL_ (some 96) rfl rfl Try.func74 B7x2_ rfl #[.int .i64 a0_5, .int .i64 0, .int .i64 ji91] rfl B7x6_ ?_; (with_reducible refine (impl_within.calls a0_5 0 ji91 true _ A92.out).mono ?_); rintro e w' ⟨rfl, ⟨nd, rfl⟩⟩; refine ⟨_, rfl, ?_⟩) | (go_at_call 74; (with_reducible refine (impl_within.calls a0_11 0 1000000000 true _ A96.out).mono ?_); rintro e w' ⟨rfl, ⟨nd, rfl⟩⟩) | (go_at_call 74; (with_reducible refine (impl_within.calls a0_12 0 12 t280 _ A98.out).mono ?_); rintro e w' ⟨rfl, ⟨nd, rfl⟩⟩))
              go_ret
              exact ⟨B7x4_, B7x0_⟩
             ·replace c97 := Bool.eq_false_iff.mpr c97
              subst c97
              rw [if_neg (show ¬ (false = true) by decide)] at H
              obtain rfl := Option.some.inj H
              obtain ⟨hcz100_0, hcz100_1, hcz100_2, hcz100_3, hcz100_4, hcz100_5, hcz100_6, hcz100_7, hcz100_8, hcz100_9, hcz100_10, hcz100_11, hcz100_12⟩ := cl13 BK258.out
              obtain ⟨hfz100_0, hfz100_1, hfz100_2, hfz100_3, hfz100_4, hfz100_5, hfz100_6, hfz100_7, hfz100_8, hfz100_9, hfz100_10, hfz100_11, hfz100_12⟩ := fr13 BK258.out
              go_wp2_with (first | ((with_reducible refine gate_callee (f := 74) rfl ?_); refine goesL_ (some 56) rfl rfl Try.func74 B7x2_ rfl #[.int .i64 a0_6, .int .i64 0, .int .i64 3] rfl B7x1_ ?_; (with_reducible refine (impl_within.calls a0_6 0 3 true _ A35.out).mono ?_); rintro e w' ⟨rfl, ⟨nd, rfl⟩⟩; refine ⟨_, rfl, ?_⟩) | ((with_reducible refine gate_callee (f := 74) rfl ?_); refine goesL_ (some 96) rfl rfl Try.func74 B7x2_ rfl #[.int .i64 a0_5, .int .i64 0, .int .i64 ji91] rfl B7x6_ ?_; (with_reducible refine (impl_within.calls a0_5 0 ji91 true _ A92.out).mono ?_); rintro e w' ⟨rfl, ⟨nd, rfl⟩⟩; refine ⟨_, rfl, ?_⟩) | (go_at_call 74; (with_reducible refine (impl_within.calls a0_11 0 1000000000 false _ A96.out).mono ?_); rintro e w' ⟨rfl, ⟨nd, rfl⟩⟩))
              go_ret
              exact ⟨B7x4_, B7x0_⟩
            ·rw [if_neg c95] at H
             have c95b0 : decide ((l0_9.length : Int) ≤ 8) = false := decide_eq_false c95
             have c95b1 : decide (l0_9.length ≤ 8) = false := decide_eq_false (by omega)
             clear c95
             obtain rfl := Option.some.inj H
             obtain ⟨hcz101_0, hcz101_1, hcz101_2, hcz101_3, hcz101_4, hcz101_5, hcz101_6, hcz101_7, hcz101_8, hcz101_9, hcz101_10, hcz101_11, hcz101_12⟩ := cl13 BK258.out
             obtain ⟨hfz101_0, hfz101_1, hfz101_2, hfz101_3, hfz101_4, hfz101_5, hfz101_6, hfz101_7, hfz101_8, hfz101_9, hfz101_10, hfz101_11, hfz101_12⟩ := fr13 BK258.out
             go_wp2_with (first | ((with_reducible refine gate_callee (f := 74) rfl ?_); refine goesL_ (some 56) rfl rfl Try.func74 B7x2_ rfl #[.int .i64 a0_6, .int .i64 0, .int .i64 3] rfl B7x1_ ?_; (with_reducible refine (impl_within.calls a0_6 0 3 true _ A35.out).mono ?_); rintro e w' ⟨rfl, ⟨nd, rfl⟩⟩; refine ⟨_, rfl, ?_⟩) | ((with_reducible refine gate_callee (f := 74) rfl ?_); refine goesL_ (some 96) rfl rfl Try.func74 B7x2_ rfl #[.int .i64 a0_5, .int .i64 0, .int .i64 ji91] rfl B7x6_ ?_; (with_reducible refine (impl_within.calls a0_5 0 ji91 true _ A92.out).mono ?_); rintro e w' ⟨rfl, ⟨nd, rfl⟩⟩; refine ⟨_, rfl, ?_⟩))
             go_ret
             exact ⟨B7x4_, B7x0_⟩
           ·rw [if_neg c94] at H
            have c94b0 := beq_eq_false_iff_ne.mpr c94
            have c94b1 := bne_iff_ne.mpr c94
            obtain rfl := Option.some.inj H
            obtain ⟨hcz102_0, hcz102_1, hcz102_2, hcz102_3, hcz102_4, hcz102_5, hcz102_6, hcz102_7, hcz102_8, hcz102_9, hcz102_10, hcz102_11, hcz102_12⟩ := cl13 BK258.out
            obtain ⟨hfz102_0, hfz102_1, hfz102_2, hfz102_3, hfz102_4, hfz102_5, hfz102_6, hfz102_7, hfz102_8, hfz102_9, hfz102_10, hfz102_11, hfz102_12⟩ := fr13 BK258.out
            go_wp2_with (first | ((with_reducible refine gate_callee (f := 74) rfl ?_); refine goesL_ (some 56) rfl rfl Try.func74 B7x2_ rfl #[.int .i64 a0_6, .int .i64 0, .int .i64 3] rfl B7x1_ ?_; (with_reducible refine (impl_within.calls a0_6 0 3 true _ A35.out).mono ?_); rintro e w' ⟨rfl, ⟨nd, rfl⟩⟩; refine ⟨_, rfl, ?_⟩) | ((with_reducible refine gate_callee (f := 74) rfl ?_); refine goesL_ (some 96) rfl rfl Try.func74 B7x2_ rfl #[.int .i64 a0_5, .int .i64 0, .int .i64 ji91] rfl B7x6_ ?_; (with_reducible refine (impl_within.calls a0_5 0 ji91 true _ A92.out).mono ?_); rintro e w' ⟨rfl, ⟨nd, rfl⟩⟩; refine ⟨_, rfl, ?_⟩))
            go_ret
            exact ⟨B7x4_, B7x0_⟩
          ·replace c93 := Bool.eq_false_iff.mpr c93
           subst c93
           rw [if_neg (show ¬ (false = true) by decide)] at H
           obtain rfl := Option.some.inj H
           obtain ⟨hcz103_0, hcz103_1, hcz103_2, hcz103_3, hcz103_4, hcz103_5, hcz103_6, hcz103_7, hcz103_8, hcz103_9, hcz103_10, hcz103_11, hcz103_12⟩ := cl13 BK258.out
           obtain ⟨hfz103_0, hfz103_1, hfz103_2, hfz103_3, hfz103_4, hfz103_5, hfz103_6, hfz103_7, hfz103_8, hfz103_9, hfz103_10, hfz103_11, hfz103_12⟩ := fr13 BK258.out
           go_wp2_with (first | ((with_reducible refine gate_callee (f := 74) rfl ?_); refine goesL_ (some 56) rfl rfl Try.func74 B7x2_ rfl #[.int .i64 a0_6, .int .i64 0, .int .i64 3] rfl B7x1_ ?_; (with_reducible refine (impl_within.calls a0_6 0 3 true _ A35.out).mono ?_); rintro e w' ⟨rfl, ⟨nd, rfl⟩⟩; refine ⟨_, rfl, ?_⟩) | ((with_reducible refine gate_callee (f := 74) rfl ?_); refine goesL_ (some 96) rfl rfl Try.func74 B7x2_ rfl #[.int .i64 a0_5, .int .i64 0, .int .i64 ji91] rfl B7x6_ ?_; (with_reducible refine (impl_within.calls a0_5 0 ji91 false _ A92.out).mono ?_); rintro e w' ⟨rfl, ⟨nd, rfl⟩⟩; refine ⟨_, rfl, ?_⟩))
           go_ret
           exact ⟨B7x4_, B7x0_⟩
         ·rw [if_neg c90] at H
          have c90b0 : decide ((a0_8.size : Int) ≤ 1000) = false := decide_eq_false c90
          have c90b1 : decide (a0_8.size ≤ 1000) = false := decide_eq_false (by omega)
          clear c90
          obtain ⟨ji104, hji104⟩ : ∃ j_ : Int, (mn (a0_4.size : Int) 24) = j_ := ⟨_, rfl⟩
          replace H : ((impl_within.f a0_5 0 (ji104)).bind fun t281 => (if t281 = true then (if a0_4.toList = ([] : List UInt8) then (some false) else (some false)) else (some false))) = some r := by first | (rw [hji104] at H; exact H) | (simp only [hji104] at H ⊢; exact H)
          (try rw [hji104] at A35)
          have hji104_ : (if 24 < (a0_4.size : Int) then 24 else (a0_4.size : Int)) = ji104 := hji104
          replace H := bsi H
          obtain ⟨t281, A105, H⟩ := H
          (try dsimp only at H)
          by_cases c106 : t281 = true
          ·subst c106
           rw [if_pos rfl] at H
           by_cases c107 : a0_4.toList = ([] : List UInt8)
           ·rw [if_pos c107] at H
            have c107b0 := beq_iff_eq.mpr c107
            have c107b1 := bne_eq_false_iff_eq.mpr c107
            clear c107
            obtain rfl := Option.some.inj H
            obtain ⟨hcz108_0, hcz108_1, hcz108_2, hcz108_3, hcz108_4, hcz108_5, hcz108_6, hcz108_7, hcz108_8, hcz108_9, hcz108_10, hcz108_11, hcz108_12⟩ := cl13 BK258.out
            obtain ⟨hfz108_0, hfz108_1, hfz108_2, hfz108_3, hfz108_4, hfz108_5, hfz108_6, hfz108_7, hfz108_8, hfz108_9, hfz108_10, hfz108_11, hfz108_12⟩ := fr13 BK258.out
            go_wp2_with (first | ((with_reducible refine gate_callee (f := 74) rfl ?_); refine goesL_ (some 56) rfl rfl Try.func74 B7x2_ rfl #[.int .i64 a0_6, .int .i64 0, .int .i64 3] rfl B7x1_ ?_; (with_reducible refine (impl_within.calls a0_6 0 3 true _ A35.out).mono ?_); rintro e w' ⟨rfl, ⟨nd, rfl⟩⟩; refine ⟨_, rfl, ?_⟩) | ((with_reducible refine gate_callee (f := 74) rfl ?_); refine goesL_ (some 96) rfl rfl Try.func74 B7x2_ rfl #[.int .i64 a0_5, .int .i64 0, .int .i64 ji104] rfl B7x15_ ?_; (with_reducible refine (impl_within.calls a0_5 0 ji104 true _ A105.out).mono ?_); rintro e w' ⟨rfl, ⟨nd, rfl⟩⟩; refine ⟨_, rfl, ?_⟩))
            go_ret
            exact ⟨B7x13_, B7x0_⟩
           ·rw [if_neg c107] at H
            have c107b0 := beq_eq_false_iff_ne.mpr c107
            have c107b1 := bne_iff_ne.mpr c107
            obtain rfl := Option.some.inj H
            obtain ⟨hcz109_0, hcz109_1, hcz109_2, hcz109_3, hcz109_4, hcz109_5, hcz109_6, hcz109_7, hcz109_8, hcz109_9, hcz109_10, hcz109_11, hcz109_12⟩ := cl13 BK258.out
            obtain ⟨hfz109_0, hfz109_1, hfz109_2, hfz109_3, hfz109_4, hfz109_5, hfz109_6, hfz109_7, hfz109_8, hfz109_9, hfz109_10, hfz109_11, hfz109_12⟩ := fr13 BK258.out
            go_wp2_with (first | ((with_reducible refine gate_callee (f := 74) rfl ?_); refine goesL_ (some 56) rfl rfl Try.func74 B7x2_ rfl #[.int .i64 a0_6, .int .i64 0, .int .i64 3] rfl B7x1_ ?_; (with_reducible refine (impl_within.calls a0_6 0 3 true _ A35.out).mono ?_); rintro e w' ⟨rfl, ⟨nd, rfl⟩⟩; refine ⟨_, rfl, ?_⟩) | ((with_reducible refine gate_callee (f := 74) rfl ?_); refine goesL_ (some 96) rfl rfl Try.func74 B7x2_ rfl #[.int .i64 a0_5, .int .i64 0, .int .i64 ji104] rfl B7x15_ ?_; (with_reducible refine (impl_within.calls a0_5 0 ji104 true _ A105.out).mono ?_); rintro e w' ⟨rfl, ⟨nd, rfl⟩⟩; refine ⟨_, rfl, ?_⟩))
            go_ret
            exact ⟨B7x13_, B7x0_⟩
          ·replace c106 := Bool.eq_false_iff.mpr c106
           subst c106
           rw [if_neg (show ¬ (false = true) by decide)] at H
           obtain rfl := Option.some.inj H
           obtain ⟨hcz110_0, hcz110_1, hcz110_2, hcz110_3, hcz110_4, hcz110_5, hcz110_6, hcz110_7, hcz110_8, hcz110_9, hcz110_10, hcz110_11, hcz110_12⟩ := cl13 BK258.out
           obtain ⟨hfz110_0, hfz110_1, hfz110_2, hfz110_3, hfz110_4, hfz110_5, hfz110_6, hfz110_7, hfz110_8, hfz110_9, hfz110_10, hfz110_11, hfz110_12⟩ := fr13 BK258.out
           go_wp2_with (first | ((with_reducible refine gate_callee (f := 74) rfl ?_); refine goesL_ (some 56) rfl rfl Try.func74 B7x2_ rfl #[.int .i64 a0_6, .int .i64 0, .int .i64 3] rfl B7x1_ ?_; (with_reducible refine (impl_within.calls a0_6 0 3 true _ A35.out).mono ?_); rintro e w' ⟨rfl, ⟨nd, rfl⟩⟩; refine ⟨_, rfl, ?_⟩) | ((with_reducible refine gate_callee (f := 74) rfl ?_); refine goesL_ (some 96) rfl rfl Try.func74 B7x2_ rfl #[.int .i64 a0_5, .int .i64 0, .int .i64 ji104] rfl B7x15_ ?_; (with_reducible refine (impl_within.calls a0_5 0 ji104 false _ A105.out).mono ?_); rintro e w' ⟨rfl, ⟨nd, rfl⟩⟩; refine ⟨_, rfl, ?_⟩))
           go_ret
           exact ⟨B7x13_, B7x0_⟩
        ·rw [if_neg c89] at H
         have c89b0 := beq_eq_false_iff_ne.mpr c89
         have c89b1 := bne_iff_ne.mpr c89
         by_cases c111 : (a0_8.size : Int) ≤ 1000
         ·rw [if_pos c111] at H
          have c111b0 : decide ((a0_8.size : Int) ≤ 1000) = true := decide_eq_true c111
          have c111b1 : decide (a0_8.size ≤ 1000) = true := decide_eq_true (by omega)
          clear c111
          obtain ⟨ji112, hji112⟩ : ∃ j_ : Int, (mn (a0_4.size : Int) 24) = j_ := ⟨_, rfl⟩
          replace H : ((impl_within.f a0_5 0 (ji112)).bind fun t282 => (if t282 = true then (if (l0_9.length : Int) ≤ 8 then ((impl_within.f a0_11 0 1000000000).bind fun t283 => (if t283 = true then ((impl_within.f a0_12 0 12).bind fun t284 => (some t284)) else (some false))) else (some false)) else (some false))) = some r := by first | (rw [hji112] at H; exact H) | (simp only [hji112] at H ⊢; exact H)
          (try rw [hji112] at A35)
          have hji112_ : (if 24 < (a0_4.size : Int) then 24 else (a0_4.size : Int)) = ji112 := hji112
          replace H := bsi H
          obtain ⟨t282, A113, H⟩ := H
          (try dsimp only at H)
          by_cases c114 : t282 = true
          ·subst c114
           rw [if_pos rfl] at H
           by_cases c115 : (l0_9.length : Int) ≤ 8
           ·rw [if_pos c115] at H
            have c115b0 : decide ((l0_9.length : Int) ≤ 8) = true := decide_eq_true c115
            have c115b1 : decide (l0_9.length ≤ 8) = true := decide_eq_true (by omega)
            clear c115
            replace H := bsi H
            obtain ⟨t283, A116, H⟩ := H
            (try dsimp only at H)
            by_cases c117 : t283 = true
            ·subst c117
             rw [if_pos rfl] at H
             replace H := bsi H
             obtain ⟨t284, A118, H⟩ := H
             (try dsimp only at H)
             obtain rfl := Option.some.inj H
             obtain ⟨hcz119_0, hcz119_1, hcz119_2, hcz119_3, hcz119_4, hcz119_5, hcz119_6, hcz119_7, hcz119_8, hcz119_9, hcz119_10, hcz119_11, hcz119_12⟩ := cl13 BK258.out
             obtain ⟨hfz119_0, hfz119_1, hfz119_2, hfz119_3, hfz119_4, hfz119_5, hfz119_6, hfz119_7, hfz119_8, hfz119_9, hfz119_10, hfz119_11, hfz119_12⟩ := fr13 BK258.out
             go_wp2_with (first | ((with_reducible refine gate_callee (f := 74) rfl ?_); refine goesL_ (some 56) rfl rfl Try.func74 B7x2_ rfl #[.int .i64 a0_6, .int .i64 0, .int .i64 3] rfl B7x1_ ?_; (with_reducible refine (impl_within.calls a0_6 0 3 true _ A35.out).mono ?_); rintro e w' ⟨rfl, ⟨nd, rfl⟩⟩; refine ⟨_, rfl, ?_⟩) | ((with_reducible refine gate_callee (f := 74) rfl ?_); refine goesL_ (some 96) rfl rfl Try.func74 B7x2_ rfl #[.int .i64 a0_5, .int .i64 0, .int .i64 ji112] rfl B7x10_ ?_; (with_reducible refine (impl_within.calls a0_5 0 ji112 true _ A113.out).mono ?_); rintro e w' ⟨rfl, ⟨nd, rfl⟩⟩; refine ⟨_, rfl, ?_⟩) | (go_at_call 74; (with_reducible refine (impl_within.calls a0_11 0 1000000000 true _ A116.out).mono ?_); rintro e w' ⟨rfl, ⟨nd, rfl⟩⟩) | (go_at_call 74; (with_reducible refine (impl_within.calls a0_12 0 12 t284 _ A118.out).mono ?_); rintro e w' ⟨rfl, ⟨nd, rfl⟩⟩))
             go_ret
             exact ⟨B7x8_, B7x0_⟩
            ·replace c117 := Bool.eq_false_iff.mpr c117
             subst c117
             rw [if_neg (show ¬ (false = true) by decide)] at H
             obtain rfl := Option.some.inj H
             obtain ⟨hcz120_0, hcz120_1, hcz120_2, hcz120_3, hcz120_4, hcz120_5, hcz120_6, hcz120_7, hcz120_8, hcz120_9, hcz120_10, hcz120_11, hcz120_12⟩ := cl13 BK258.out
             obtain ⟨hfz120_0, hfz120_1, hfz120_2, hfz120_3, hfz120_4, hfz120_5, hfz120_6, hfz120_7, hfz120_8, hfz120_9, hfz120_10, hfz120_11, hfz120_12⟩ := fr13 BK258.out
             go_wp2_with (first | ((with_reducible refine gate_callee (f := 74) rfl ?_); refine goesL_ (some 56) rfl rfl Try.func74 B7x2_ rfl #[.int .i64 a0_6, .int .i64 0, .int .i64 3] rfl B7x1_ ?_; (with_reducible refine (impl_within.calls a0_6 0 3 true _ A35.out).mono ?_); rintro e w' ⟨rfl, ⟨nd, rfl⟩⟩; refine ⟨_, rfl, ?_⟩) | ((with_reducible refine gate_callee (f := 74) rfl ?_); refine goesL_ (some 96) rfl rfl Try.func74 B7x2_ rfl #[.int .i64 a0_5, .int .i64 0, .int .i64 ji112] rfl B7x10_ ?_; (with_reducible refine (impl_within.calls a0_5 0 ji112 true _ A113.out).mono ?_); rintro e w' ⟨rfl, ⟨nd, rfl⟩⟩; refine ⟨_, rfl, ?_⟩) | (go_at_call 74; (with_reducible refine (impl_within.calls a0_11 0 1000000000 false _ A116.out).mono ?_); rintro e w' ⟨rfl, ⟨nd, rfl⟩⟩))
             go_ret
             exact ⟨B7x8_, B7x0_⟩
           ·rw [if_neg c115] at H
            have c115b0 : decide ((l0_9.length : Int) ≤ 8) = false := decide_eq_false c115
            have c115b1 : decide (l0_9.length ≤ 8) = false := decide_eq_false (by omega)
            clear c115
            obtain rfl := Option.some.inj H
            obtain ⟨hcz121_0, hcz121_1, hcz121_2, hcz121_3, hcz121_4, hcz121_5, hcz121_6, hcz121_7, hcz121_8, hcz121_9, hcz121_10, hcz121_11, hcz121_12⟩ := cl13 BK258.out
            obtain ⟨hfz121_0, hfz121_1, hfz121_2, hfz121_3, hfz121_4, hfz121_5, hfz121_6, hfz121_7, hfz121_8, hfz121_9, hfz121_10, hfz121_11, hfz121_12⟩ := fr13 BK258.out
            go_wp2_with (first | ((with_reducible refine gate_callee (f := 74) rfl ?_); refine goesL_ (some 56) rfl rfl Try.func74 B7x2_ rfl #[.int .i64 a0_6, .int .i64 0, .int .i64 3] rfl B7x1_ ?_; (with_reducible refine (impl_within.calls a0_6 0 3 true _ A35.out).mono ?_); rintro e w' ⟨rfl, ⟨nd, rfl⟩⟩; refine ⟨_, rfl, ?_⟩) | ((with_reducible refine gate_callee (f := 74) rfl ?_); refine goesL_ (some 96) rfl rfl Try.func74 B7x2_ rfl #[.int .i64 a0_5, .int .i64 0, .int .i64 ji112] rfl B7x10_ ?_; (with_reducible refine (impl_within.calls a0_5 0 ji112 true _ A113.out).mono ?_); rintro e w' ⟨rfl, ⟨nd, rfl⟩⟩; refine ⟨_, rfl, ?_⟩))
            go_ret
            exact ⟨B7x8_, B7x0_⟩
          ·replace c114 := Bool.eq_false_iff.mpr c114
           subst c114
           rw [if_neg (show ¬ (false = true) by decide)] at H
           obtain rfl := Option.some.inj H
           obtain ⟨hcz122_0, hcz122_1, hcz122_2, hcz122_3, hcz122_4, hcz122_5, hcz122_6, hcz122_7, hcz122_8, hcz122_9, hcz122_10, hcz122_11, hcz122_12⟩ := cl13 BK258.out
           obtain ⟨hfz122_0, hfz122_1, hfz122_2, hfz122_3, hfz122_4, hfz122_5, hfz122_6, hfz122_7, hfz122_8, hfz122_9, hfz122_10, hfz122_11, hfz122_12⟩ := fr13 BK258.out
           go_wp2_with (first | ((with_reducible refine gate_callee (f := 74) rfl ?_); refine goesL_ (some 56) rfl rfl Try.func74 B7x2_ rfl #[.int .i64 a0_6, .int .i64 0, .int .i64 3] rfl B7x1_ ?_; (with_reducible refine (impl_within.calls a0_6 0 3 true _ A35.out).mono ?_); rintro e w' ⟨rfl, ⟨nd, rfl⟩⟩; refine ⟨_, rfl, ?_⟩) | ((with_reducible refine gate_callee (f := 74) rfl ?_); refine goesL_ (some 96) rfl rfl Try.func74 B7x2_ rfl #[.int .i64 a0_5, .int .i64 0, .int .i64 ji112] rfl B7x10_ ?_; (with_reducible refine (impl_within.calls a0_5 0 ji112 false _ A113.out).mono ?_); rintro e w' ⟨rfl, ⟨nd, rfl⟩⟩; refine ⟨_, rfl, ?_⟩))
           go_ret
           exact ⟨B7x8_, B7x0_⟩
         ·rw [if_neg c111] at H
          have c111b0 : decide ((a0_8.size : Int) ≤ 1000) = false := decide_eq_false c111
          have c111b1 : decide (a0_8.size ≤ 1000) = false := decide_eq_false (by omega)
          clear c111
          obtain ⟨ji123, hji123⟩ : ∃ j_ : Int, (mn (a0_4.size : Int) 24) = j_ := ⟨_, rfl⟩
          replace H : ((impl_within.f a0_5 0 (ji123)).bind fun t285 => (if t285 = true then (some false) else (some false))) = some r := by first | (rw [hji123] at H; exact H) | (simp only [hji123] at H ⊢; exact H)
          (try rw [hji123] at A35)
          have hji123_ : (if 24 < (a0_4.size : Int) then 24 else (a0_4.size : Int)) = ji123 := hji123
          replace H := bsi H
          obtain ⟨t285, A124, H⟩ := H
          (try dsimp only at H)
          by_cases c125 : t285 = true
          ·subst c125
           rw [if_pos rfl] at H
           obtain rfl := Option.some.inj H
           obtain ⟨hcz126_0, hcz126_1, hcz126_2, hcz126_3, hcz126_4, hcz126_5, hcz126_6, hcz126_7, hcz126_8, hcz126_9, hcz126_10, hcz126_11, hcz126_12⟩ := cl13 BK258.out
           obtain ⟨hfz126_0, hfz126_1, hfz126_2, hfz126_3, hfz126_4, hfz126_5, hfz126_6, hfz126_7, hfz126_8, hfz126_9, hfz126_10, hfz126_11, hfz126_12⟩ := fr13 BK258.out
           go_wp2_with (first | ((with_reducible refine gate_callee (f := 74) rfl ?_); refine goesL_ (some 56) rfl rfl Try.func74 B7x2_ rfl #[.int .i64 a0_6, .int .i64 0, .int .i64 3] rfl B7x1_ ?_; (with_reducible refine (impl_within.calls a0_6 0 3 true _ A35.out).mono ?_); rintro e w' ⟨rfl, ⟨nd, rfl⟩⟩; refine ⟨_, rfl, ?_⟩) | ((with_reducible refine gate_callee (f := 74) rfl ?_); refine goesL_ (some 96) rfl rfl Try.func74 B7x2_ rfl #[.int .i64 a0_5, .int .i64 0, .int .i64 ji123] rfl B7x26_ ?_; (with_reducible refine (impl_within.calls a0_5 0 ji123 true _ A124.out).mono ?_); rintro e w' ⟨rfl, ⟨nd, rfl⟩⟩; refine ⟨_, rfl, ?_⟩))
           go_ret
           exact ⟨B7x20_, B7x0_⟩
          ·replace c125 := Bool.eq_false_iff.mpr c125
           subst c125
           rw [if_neg (show ¬ (false = true) by decide)] at H
           obtain rfl := Option.some.inj H
           obtain ⟨hcz127_0, hcz127_1, hcz127_2, hcz127_3, hcz127_4, hcz127_5, hcz127_6, hcz127_7, hcz127_8, hcz127_9, hcz127_10, hcz127_11, hcz127_12⟩ := cl13 BK258.out
           obtain ⟨hfz127_0, hfz127_1, hfz127_2, hfz127_3, hfz127_4, hfz127_5, hfz127_6, hfz127_7, hfz127_8, hfz127_9, hfz127_10, hfz127_11, hfz127_12⟩ := fr13 BK258.out
           go_wp2_with (first | ((with_reducible refine gate_callee (f := 74) rfl ?_); refine goesL_ (some 56) rfl rfl Try.func74 B7x2_ rfl #[.int .i64 a0_6, .int .i64 0, .int .i64 3] rfl B7x1_ ?_; (with_reducible refine (impl_within.calls a0_6 0 3 true _ A35.out).mono ?_); rintro e w' ⟨rfl, ⟨nd, rfl⟩⟩; refine ⟨_, rfl, ?_⟩) | ((with_reducible refine gate_callee (f := 74) rfl ?_); refine goesL_ (some 96) rfl rfl Try.func74 B7x2_ rfl #[.int .i64 a0_5, .int .i64 0, .int .i64 ji123] rfl B7x26_ ?_; (with_reducible refine (impl_within.calls a0_5 0 ji123 false _ A124.out).mono ?_); rintro e w' ⟨rfl, ⟨nd, rfl⟩⟩; refine ⟨_, rfl, ?_⟩))
           go_ret
           exact ⟨B7x20_, B7x0_⟩
      ·replace c36 := Bool.eq_false_iff.mpr c36
       subst c36
       rw [if_neg (show ¬ (false = true) by decide)] at H
       by_cases c128 : (a0_8.size : Int) ≤ 1000
       ·rw [if_pos c128] at H
        have c128b0 : decide ((a0_8.size : Int) ≤ 1000) = true := decide_eq_true c128
        have c128b1 : decide (a0_8.size ≤ 1000) = true := decide_eq_true (by omega)
        clear c128
        obtain ⟨ji129, hji129⟩ : ∃ j_ : Int, (mn (a0_4.size : Int) 24) = j_ := ⟨_, rfl⟩
        replace H : ((impl_within.f a0_5 0 (ji129)).bind fun t286 => (if t286 = true then (some false) else (some false))) = some r := by first | (rw [hji129] at H; exact H) | (simp only [hji129] at H ⊢; exact H)
        (try rw [hji129] at A35)
        have hji129_ : (if 24 < (a0_4.size : Int) then 24 else (a0_4.size : Int)) = ji129 := hji129
        replace H := bsi H
        obtain ⟨t286, A130, H⟩ := H
        (try dsimp only at H)
        by_cases c131 : t286 = true
        ·subst c131
         rw [if_pos rfl] at H
         obtain rfl := Option.some.inj H
         obtain ⟨hcz132_0, hcz132_1, hcz132_2, hcz132_3, hcz132_4, hcz132_5, hcz132_6, hcz132_7, hcz132_8, hcz132_9, hcz132_10, hcz132_11, hcz132_12⟩ := cl13 BK258.out
         obtain ⟨hfz132_0, hfz132_1, hfz132_2, hfz132_3, hfz132_4, hfz132_5, hfz132_6, hfz132_7, hfz132_8, hfz132_9, hfz132_10, hfz132_11, hfz132_12⟩ := fr13 BK258.out
         go_wp2_with (first | ((with_reducible refine gate_callee (f := 74) rfl ?_); refine goesL_ (some 56) rfl rfl Try.func74 B7x2_ rfl #[.int .i64 a0_6, .int .i64 0, .int .i64 3] rfl B7x1_ ?_; (with_reducible refine (impl_within.calls a0_6 0 3 false _ A35.out).mono ?_); rintro e w' ⟨rfl, ⟨nd, rfl⟩⟩; refine ⟨_, rfl, ?_⟩) | ((with_reducible refine gate_callee (f := 74) rfl ?_); refine goesL_ (some 96) rfl rfl Try.func74 B7x2_ rfl #[.int .i64 a0_5, .int .i64 0, .int .i64 ji129] rfl B7x27_ ?_; (with_reducible refine (impl_within.calls a0_5 0 ji129 true _ A130.out).mono ?_); rintro e w' ⟨rfl, ⟨nd, rfl⟩⟩; refine ⟨_, rfl, ?_⟩))
         go_ret
         exact ⟨B7x21_, B7x0_⟩
        ·replace c131 := Bool.eq_false_iff.mpr c131
         subst c131
         rw [if_neg (show ¬ (false = true) by decide)] at H
         obtain rfl := Option.some.inj H
         obtain ⟨hcz133_0, hcz133_1, hcz133_2, hcz133_3, hcz133_4, hcz133_5, hcz133_6, hcz133_7, hcz133_8, hcz133_9, hcz133_10, hcz133_11, hcz133_12⟩ := cl13 BK258.out
         obtain ⟨hfz133_0, hfz133_1, hfz133_2, hfz133_3, hfz133_4, hfz133_5, hfz133_6, hfz133_7, hfz133_8, hfz133_9, hfz133_10, hfz133_11, hfz133_12⟩ := fr13 BK258.out
         go_wp2_with (first | ((with_reducible refine gate_callee (f := 74) rfl ?_); refine goesL_ (some 56) rfl rfl Try.func74 B7x2_ rfl #[.int .i64 a0_6, .int .i64 0, .int .i64 3] rfl B7x1_ ?_; (with_reducible refine (impl_within.calls a0_6 0 3 false _ A35.out).mono ?_); rintro e w' ⟨rfl, ⟨nd, rfl⟩⟩; refine ⟨_, rfl, ?_⟩) | ((with_reducible refine gate_callee (f := 74) rfl ?_); refine goesL_ (some 96) rfl rfl Try.func74 B7x2_ rfl #[.int .i64 a0_5, .int .i64 0, .int .i64 ji129] rfl B7x27_ ?_; (with_reducible refine (impl_within.calls a0_5 0 ji129 false _ A130.out).mono ?_); rintro e w' ⟨rfl, ⟨nd, rfl⟩⟩; refine ⟨_, rfl, ?_⟩))
         go_ret
         exact ⟨B7x21_, B7x0_⟩
       ·rw [if_neg c128] at H
        have c128b0 : decide ((a0_8.size : Int) ≤ 1000) = false := decide_eq_false c128
        have c128b1 : decide (a0_8.size ≤ 1000) = false := decide_eq_false (by omega)
        clear c128
        obtain ⟨ji134, hji134⟩ : ∃ j_ : Int, (mn (a0_4.size : Int) 24) = j_ := ⟨_, rfl⟩
        replace H : ((impl_within.f a0_5 0 (ji134)).bind fun t287 => (if t287 = true then (some false) else (some false))) = some r := by first | (rw [hji134] at H; exact H) | (simp only [hji134] at H ⊢; exact H)
        (try rw [hji134] at A35)
        have hji134_ : (if 24 < (a0_4.size : Int) then 24 else (a0_4.size : Int)) = ji134 := hji134
        replace H := bsi H
        obtain ⟨t287, A135, H⟩ := H
        (try dsimp only at H)
        by_cases c136 : t287 = true
        ·subst c136
         rw [if_pos rfl] at H
         obtain rfl := Option.some.inj H
         obtain ⟨hcz137_0, hcz137_1, hcz137_2, hcz137_3, hcz137_4, hcz137_5, hcz137_6, hcz137_7, hcz137_8, hcz137_9, hcz137_10, hcz137_11, hcz137_12⟩ := cl13 BK258.out
         obtain ⟨hfz137_0, hfz137_1, hfz137_2, hfz137_3, hfz137_4, hfz137_5, hfz137_6, hfz137_7, hfz137_8, hfz137_9, hfz137_10, hfz137_11, hfz137_12⟩ := fr13 BK258.out
         go_wp2_with (first | ((with_reducible refine gate_callee (f := 74) rfl ?_); refine goesL_ (some 56) rfl rfl Try.func74 B7x2_ rfl #[.int .i64 a0_6, .int .i64 0, .int .i64 3] rfl B7x1_ ?_; (with_reducible refine (impl_within.calls a0_6 0 3 false _ A35.out).mono ?_); rintro e w' ⟨rfl, ⟨nd, rfl⟩⟩; refine ⟨_, rfl, ?_⟩) | ((with_reducible refine gate_callee (f := 74) rfl ?_); refine goesL_ (some 96) rfl rfl Try.func74 B7x2_ rfl #[.int .i64 a0_5, .int .i64 0, .int .i64 ji134] rfl B7x28_ ?_; (with_reducible refine (impl_within.calls a0_5 0 ji134 true _ A135.out).mono ?_); rintro e w' ⟨rfl, ⟨nd, rfl⟩⟩; refine ⟨_, rfl, ?_⟩))
         go_ret
         exact ⟨B7x22_, B7x0_⟩
        ·replace c136 := Bool.eq_false_iff.mpr c136
         subst c136
         rw [if_neg (show ¬ (false = true) by decide)] at H
         obtain rfl := Option.some.inj H
         obtain ⟨hcz138_0, hcz138_1, hcz138_2, hcz138_3, hcz138_4, hcz138_5, hcz138_6, hcz138_7, hcz138_8, hcz138_9, hcz138_10, hcz138_11, hcz138_12⟩ := cl13 BK258.out
         obtain ⟨hfz138_0, hfz138_1, hfz138_2, hfz138_3, hfz138_4, hfz138_5, hfz138_6, hfz138_7, hfz138_8, hfz138_9, hfz138_10, hfz138_11, hfz138_12⟩ := fr13 BK258.out
         go_wp2_with (first | ((with_reducible refine gate_callee (f := 74) rfl ?_); refine goesL_ (some 56) rfl rfl Try.func74 B7x2_ rfl #[.int .i64 a0_6, .int .i64 0, .int .i64 3] rfl B7x1_ ?_; (with_reducible refine (impl_within.calls a0_6 0 3 false _ A35.out).mono ?_); rintro e w' ⟨rfl, ⟨nd, rfl⟩⟩; refine ⟨_, rfl, ?_⟩) | ((with_reducible refine gate_callee (f := 74) rfl ?_); refine goesL_ (some 96) rfl rfl Try.func74 B7x2_ rfl #[.int .i64 a0_5, .int .i64 0, .int .i64 ji134] rfl B7x28_ ?_; (with_reducible refine (impl_within.calls a0_5 0 ji134 false _ A135.out).mono ?_); rintro e w' ⟨rfl, ⟨nd, rfl⟩⟩; refine ⟨_, rfl, ?_⟩))
         go_ret
         exact ⟨B7x22_, B7x0_⟩

end Go.Proofs.Ytmknnoeggkgkgaa.QFnExactPush
