/- Functions that a law reaches, as functions of Lean, and the walks that show that the calls come to their answers: by hand. No condition. -/
import Derived.Test.YtmknnoeggkgkgaaQFnExactTidyBitsx0
import Derived.Test.YtmknnoeggkgkgaaQFnExactTidyBitsx1
import Derived.Test.YtmknnoeggkgkgaaQFnExactTidyBitsx2
import Derived.Test.YtmknnoeggkgkgaaQFnExactTidyBitsx3
import Derived.Test.YtmknnoeggkgkgaaQFnExactTidyBitsx4
import Derived.Test.YtmknnoeggkgkgaaQFnExactTidyBitsx5
import Derived.Test.YtmknnoeggkgkgaaSq
import Derived.Test.YtmknnoeggkgkgaaShort2
import Derived.Test.YtmknnoeggkgkgaaShort4
import Derived.Test.YtmknnoeggkgkgaaShort3
import Derived.Test.YtmknnoeggkgkgaaShort
import Derived.Test.YtmknnoeggkgkgaaShort5
namespace Go.Proofs.Ytmknnoeggkgkgaa.QFnExactTidyBits
open Go.RowKit Go.Proofs.YtmknnoeggkgkgaaW.PrintWords Go.Proofs.YtmknnoeggkgkgaaW.PrintLast Go.Proofs.YtmknnoeggkgkgaaW.PrintMore Go.Proofs.Ytmknnoeggkgkgaa.Short Go.Proofs.Ytmknnoeggkgkgaa.Sq
set_option linter.unusedVariables false
set_option linter.unusedSimpArgs false

/-! ### impl_TidyBits, slices.DeleteFunc with its closure over a whole number, slices.IndexFunc with it: by hand -/
def late (d : Int) (b : S82) : Bool := decide (b.f5 ≤ d)
def impl_TidyBits.f (k : Nat) (l0 : List S82) (a1 : Int) : Option (List S82) := (impl_copyBits.f k l0).bind fun t => some (t.filter fun b => !late a1 b)
theorem impl_TidyBits.mono : ∀ a0 a1 k, LeO (impl_TidyBits.f k a0 a1) (impl_TidyBits.f (k + 1) a0 a1) := by
  intro a0 a1 k
  unfold impl_TidyBits.f
  exact LeO.bind (impl_copyBits.mono _ _) (fun _ => LeO.refl _)
set_option maxHeartbeats 8000000 in
set_option maxRecDepth 100000 in
theorem late.asked (g : Nat) (d x0 x1 x4 x5 : Int) (A2 A3 : Option Addr) (n2 n3 c2 c3 : Nat) (w : World) (hb : w.heap[g]? = some (.cells #[.int .i64 d] 3 (0, 0))) :
    Calls Try.prog 107 (#[.agg #[.int .i64 x0, .int .i64 x1, .slice A2 n2 c2, .slice A3 n3 c3, .int .i64 x4, .int .i64 x5]] ++ #[.pointer (some ⟨g, 0, none⟩)]) w fun e w' => e = .returned (.bool (decide (x5 ≤ d))) ∧ Below w.heap.size w w' := by
  have hu82 := Try.underlying82
  have BK := Aside0.mk hb
  clear hb
  go_enter Try.func107, Try.ntmps107
  go_wp2_with (first | ((with_reducible refine gate_dst (N := 2) rfl ?_); refine box_event ?hg (N := 2) ?hd (cs := #[.int .i64 x0, .int .i64 x1, .slice A2 n2 c2, .slice A3 n3 c3, .int .i64 x4, .int .i64 x5]) (t := 82) ?hr ?_; (case hd => rfl); (case hg => rfl); (case hr => first | (go_simp; done) | (go_simp; rfl)); intro gb hg w2 hbox hb; replace BK := Aside0.mk (blk_below BK.out hb); have BX := Aside0.mk hbox; have HB := Aside0.mk hb; clear hb hbox hg; have hc5 := (blk_cell BX.out 5).trans rfl; have hd0 := (blk_cell BK.out 0).trans rfl))
  go_ret
  exact ⟨rfl, HB.out⟩
/-- What IndexFunc tells: the first late one, or -1. -/
def Found (d : Int) (l : List S82) (r : Int) : Prop := (r = -1 ∧ ∀ m, m < l.length → late d (l.getD m z82) = false) ∨ ∃ j : Nat, j < l.length ∧ r = (j : Int) ∧ late d (l.getD j z82) = true ∧ ∀ m, m < j → late d (l.getD m z82) = false
def Told (d : Int) (l : List S82) (w : World) (e : Ending) (w' : World) : Prop := ∃ r : Int, e = .returned (.int .i64 r) ∧ Found d l r ∧ Below w.heap.size w w'
set_option maxHeartbeats 8000000 in
set_option maxRecDepth 100000 in
theorem late.index (A0 : Option Addr) (c0 : Nat) (l0 : List S82) (g : Nat) (d : Int) (w : World) (hr0 : Kd.C k82 w A0 l0.length l0) (hc0 : l0.length ≤ c0) (hb : w.heap[g]? = some (.cells #[.int .i64 d] 3 (0, 0))) :
    Calls Try.prog 99 #[.slice A0 l0.length c0, .func (.func 107) #[] #[.pointer (some ⟨g, 0, none⟩)]] w (Told d l0 w) := by
  have hu82 := Try.underlying82
  have HR0 := Aside0.mk hr0
  have HC0 := Aside0.mk hc0
  have BK := Aside0.mk hb
  have HL := Aside0.mk (show l0.length ≤ 9223372036854775807 from hr0.2.1)
  clear hr0 hc0 hb
  go_enter Try.func99, Try.ntmps99
  go_wp2
  go_loopg [8] l0.length (fun kq v8 w' => ∃ (j : Int), v8 = .int .i64 j ∧ Aside0 (0 ≤ j ∧ j ≤ l0.length ∧ l0.length - j.toNat ≤ kq) ∧ Aside0 (∀ m, m < j.toNat → late d (l0.getD m z82) = false) ∧ Aside0 (Below w.heap.size w w'))
  case atStart => exact ⟨0, (by first | rfl | (simp; done) | (simp [*]; done)), ⟨by simp⟩, ⟨fun m hm => by simp at hm⟩, ⟨Below.refl _ _⟩⟩
  case round =>
    obtain ⟨j, rfl, HJ, HA, HB⟩ := hrel
    by_cases c1 : j < (l0.length : Int)
    · have c2 : 0 ≤ j := HJ.out.1
      obtain ⟨ad, A2, c2', A3, c3', e1, hx0, hx1, hx2, hx3, hx4, hx5, hl2, hg2, hl3, hg3⟩ := at_T82 (Kd.C_below HR0.out HB.out) j c2 c1
      clear hl2 hg2 hl3 hg3
      subst e1
      have hjn : Aside0 (wrap64 (j + 1) = j + 1) := ⟨by have := HL.out; unfold wrap64; omega⟩
      have C1 := Aside0.mk c1
      have C2 := Aside0.mk c2
      have c1b := eq_true c1
      have c2b := eq_true c2
      clear c1 c2
      have hld : Aside0 (late d (l0.getD j.toNat z82) = decide ((rd_T82 l0 j).f5 ≤ d)) := ⟨rfl⟩
      cases hq0 : decide ((rd_T82 l0 j).f5 ≤ d) with
      | true =>
        have hq := Aside0.mk hq0
        clear hq0
        go_wp2_with (go_at_call 107; refine (late.asked g d _ _ _ _ _ _ _ _ _ _ _ (blk_below BK.out HB.out)).mono ?_; rintro e w2 ⟨rfl, hb⟩; rw [hq.out]; replace HB := Aside0.mk (below_step HB.out hb); clear hb)
        go_ret
        exact ⟨j, rfl, .inr ⟨j.toNat, by have := C1.out; have := C2.out; omega, by have := C2.out; omega, by rw [hld.out, hq.out], HA.out⟩, HB.out⟩
      | false =>
        have hq := Aside0.mk hq0
        clear hq0
        go_wp2_with (go_at_call 107; refine (late.asked g d _ _ _ _ _ _ _ _ _ _ _ (blk_below BK.out HB.out)).mono ?_; rintro e w2 ⟨rfl, hb⟩; rw [hq.out]; replace HB := Aside0.mk (below_step HB.out hb); clear hb)
        go_roundg (l0.length - (j.toNat + 1))
        case measure => have := HJ.out; have := C1.out; omega
        case rel =>
          refine ⟨wrap64 (j + 1), (by first | rfl | (simp; done) | (simp [*]; done)), ⟨?_⟩, ⟨fun m hm => ?_⟩, ⟨HB.out⟩⟩
          · rw [hjn.out]; have := HJ.out; have := C1.out; omega
          · rw [hjn.out] at hm
            have hjp := C2.out
            by_cases he : m = j.toNat
            · rw [he, hld.out, hq.out]
            · exact HA.out m (by omega)
    · have C1 := Aside0.mk c1
      have c1b := eq_false c1
      clear c1
      go_wp2
      go_ret
      exact ⟨-1, rfl, .inl ⟨rfl, fun m hm => HA.out m (by have := C1.out; have := HJ.out; omega)⟩, HB.out⟩

theorem Found.none {d : Int} {l : List S82} {r : Int} (h : Found d l r) (hall : ∀ m, m < l.length → late d (l.getD m z82) = false) : r = -1 := by
  rcases h with ⟨h, _⟩ | ⟨j, hj, _, h, _⟩
  · exact h
  · rw [hall j hj] at h; cases h
theorem Found.first {d : Int} {l : List S82} {r : Int} (h : Found d l r) {j : Nat} (hj : j < l.length) (h1 : late d (l.getD j z82) = true) (h2 : ∀ m, m < j → late d (l.getD m z82) = false) : r = (j : Int) := by
  rcases h with ⟨_, h⟩ | ⟨i, hi, h, h3, h4⟩
  · rw [h j hj] at h1; cases h1
  · rcases Nat.lt_trichotomy i j with hij | hij | hij
    · rw [h2 i hij] at h3; cases h3
    · rw [h, hij]
    · rw [h4 j hij] at h1; cases h1
theorem zero82 : ∀ w : World, (zeroValue 82).run Try.prog w = .ok (.agg #[.int .i64 0, .int .i64 0, .slice none 0 0, .slice none 0 0, .int .i64 0, .int .i64 0]) w := by
  obtain ⟨i, hi, h⟩ := Option.map_eq_some_iff.1 info82
  have hz : i.zero = some (.agg #[.int .i64 0, .int .i64 0, .slice none 0 0, .slice none 0 0, .int .i64 0, .int .i64 0]) := by injection h
  intro w
  simp [zeroValue, typeInfo, hi, hz]
def Cut (d : Int) (l : List S82) (w0 : World) (ok : Nat → Prop) (e : Ending) (w' : World) : Prop := ∃ v, e = .returned v ∧ Kd.S k82 82 w' w0.heap.size ok v (l.filter fun b => !late d b) ∧ Below w0.heap.size w0 w'
/-- The elements' cells are as told. -/
theorem cells82 {w : World} {base : Nat} {okj : Nat → Prop} {x : S82} {c : List Value} (h : k82.M w base okj x c) : ∃ A2 n2 c2 A3 n3 c3, c = [.int .i64 x.f0, .int .i64 x.f1, .slice A2 n2 c2, .slice A3 n3 c3, .int .i64 x.f4, .int .i64 x.f5] := by
  obtain ⟨v2, v3, rfl, g2, g3⟩ := k82_openM h
  obtain ⟨A2, c2, rfl⟩ := Kd.R_slice g2
  obtain ⟨A3, c3, rfl⟩ := Kd.R_slice g3
  exact ⟨_, _, _, _, _, _, rfl⟩
set_option maxHeartbeats 8000000 in
set_option maxRecDepth 100000 in
theorem late.cut (l0 : List S82) (g : Nat) (d : Int) (ok : Nat → Prop) (v : Value) (w0 w : World) (hB : Below w0.heap.size w0 w) (hS : Kd.S k82 82 w w0.heap.size ok v l0) (hb : w.heap[g]? = some (.cells #[.int .i64 d] 3 (0, 0))) :
    Calls Try.prog 106 #[v, .func (.func 107) #[] #[.pointer (some ⟨g, 0, none⟩)]] w (Cut d l0 w0 ok) := by
  obtain ⟨A, c, rfl⟩ := Kd.S_slice hS
  obtain ⟨_, hnc, hC⟩ := Kd.S_reads' hS
  have HX := Aside0.mk (late.index A c l0 g d w hC hnc hb)
  rcases first_of (fun m => late d (l0.getD m z82)) l0.length with hall | ⟨j0, hj0, hl1, hl2⟩
  · have HF := Aside0.mk hall
    have HS := Aside0.mk hS
    have HB := Aside0.mk hB
    clear hB hS hb hall hC hnc
    go_enter Try.func106, Try.ntmps106
    go_wp2_with (go_at_call 99; refine HX.out.mono ?_; rintro e w1 ⟨r, rfl, hf, hb1⟩; obtain rfl := hf.none HF.out; clear hf; replace HS := Aside0.mk (Kd.S_below HS.out hb1); replace HB := Aside0.mk (below_step HB.out hb1); clear hb1)
    go_ret
    refine ⟨_, rfl, ?_, HB.out⟩
    rw [List.filter_eq_self.2 (fun b hb => by
      obtain ⟨m, hm, rfl⟩ := List.mem_iff_getElem.1 hb
      have := HF.out m hm
      simp only [List.getD_eq_getElem?_getD, List.getElem?_eq_getElem hm, Option.getD_some] at this
      rw [this]; rfl)]
    exact HS.out
  · obtain ⟨gs, cap, hv, hbg, hlt, _⟩ := Kd.S_form hS (by omega)
    injection hv with hA hn hc
    subst hA; subst hc
    clear hn
    obtain ⟨f, rows, hrl, hraw, hokg, hM⟩ := S_rows hS
    have hty := Kd.S_typed hS gs (by simp [Value.ownBlock])
    have hgg : g ≠ gs := by
      rintro rfl
      obtain ⟨cells, hc⟩ := hty
      rw [hb] at hc
      injection hc with hc
      injection hc with _ hc
      exact absurd hc (by decide)
    obtain ⟨kp, hkp⟩ : ∃ kp : Nat → Bool, kp = fun m => !late d (l0.getD m z82) := ⟨_, rfl⟩
    have HKP := Aside0.mk hkp
    have HM := Aside0.mk hM
    have HRL := Aside0.mk hrl
    have HOK := Aside0.mk hokg
    have HS := Aside0.mk hS
    have HN := Aside0.mk (show l0.length ≤ 9223372036854775807 from hC.2.1)
    have HCAP := Aside0.mk hnc
    have HJ0 := Aside0.mk hj0
    have HGG := Aside0.mk hgg
    have HLT := Aside0.mk hlt
    have HBG := Aside0.mk hbg
    have BK := Aside0.mk hb
    have HK := Aside0.mk (Kept.refl w (fun k => k = gs))
    have HR := Aside0.mk hraw
    have HB := Aside0.mk hB
    have HL1 := Aside0.mk hl1
    have HL2 := Aside0.mk hl2
    have hw0 : Aside0 (wrap64 ((j0 : Int) + 1) = (j0 : Int) + 1) := ⟨by unfold wrap64; have := hC.2.1; omega⟩
    have hne : ((j0 : Int) == -1) = false := beq_eq_false_iff_ne.2 (by omega)
    have hi0 : Aside0 (KI kp rows (j0 + 1) j0 rows) := ⟨KI.start (fun m hm => by rw [hkp]; show (!late d (l0.getD m z82)) = true; rw [hl2 m hm]; rfl) (by rw [hkp]; show (!late d (l0.getD j0 z82)) = false; rw [hl1]; rfl)⟩
    clear hB hb hkp hM hrl hokg hC hnc hj0 hl1 hl2 hS hgg hlt hbg hraw hty
    go_enter Try.func106, Try.ntmps106
    go_wp2_with (go_at_call 99; refine HX.out.mono ?_; rintro e w1 ⟨r, rfl, hf, hb1⟩; obtain rfl := hf.first HJ0.out HL1.out HL2.out; clear hf; replace HR := Aside0.mk (Kd.R_below HR.out hb1); replace HK := Aside0.mk (Kept.below HK.out hb1); replace HB := Aside0.mk (below_step HB.out hb1); clear hb1)
    go_loopg [5, 6, 7] l0.length (fun kq v5 v6 _v7 w' => ∃ (i j : Int) (cur : List (List Value)), v5 = .int .i64 i ∧ v6 = .int .i64 j ∧ Aside0 (0 ≤ i ∧ i < j ∧ j ≤ l0.length ∧ l0.length - j.toNat ≤ kq) ∧ Aside0 (KI kp rows j.toNat i.toNat cur) ∧ Aside0 ((Kd.raw 6).R 82 w' w0.heap.size (fun k => k = gs) (.slice (some ⟨gs, 0, none⟩) l0.length c) cur) ∧ Aside0 (Kept w w' (fun k => k = gs)) ∧ Aside0 (Below w0.heap.size w0 w'))
    case atStart =>
      refine ⟨(j0 : Int), wrap64 ((j0 : Int) + 1), rows, (by first | rfl | (simp; done) | (simp [*]; done)), (by first | rfl | (simp; done) | (simp [*]; done)), ⟨?_⟩, ⟨?_⟩, HR, HK, HB⟩
      · rw [hw0.out]; have := HJ0.out; omega
      · rw [hw0.out]; exact hi0.out
    case round =>
      obtain ⟨i, j, cur, rfl, rfl, HJ, HI, HR, HK, HB⟩ := hrel
      clear hi0 hw0
      by_cases c1 : j < (l0.length : Int)
      · have hj := HJ.out
        have hjn : Aside0 (wrap64 (j + 1) = j + 1) := ⟨by have := HN.out; unfold wrap64; omega⟩
        have hin : Aside0 (wrap64 (i + 1) = i + 1) := ⟨by have := HN.out; unfold wrap64; omega⟩
        have hjl : j.toNat < l0.length := by omega
        have hil : i.toNat < l0.length := by omega
        have hx := List.getElem?_eq_getElem hjl
        have hrj := List.getElem?_eq_getElem (l := rows) (i := j.toNat) (by have := HRL.out; omega)
        obtain ⟨A2, n2, c2, A3, n3, c3, hcj⟩ := cells82 (HM.out _ _ _ hx hrj)
        rw [hcj] at hrj
        have hf5 : l0[j.toNat].f5 = (l0.getD j.toNat z82).f5 := by rw [List.getD_eq_getElem?_getD, hx]; rfl
        have hcur : cur[j.toNat]? = some [.int .i64 l0[j.toNat].f0, .int .i64 l0[j.toNat].f1, .slice A2 n2 c2, .slice A3 n3 c3, .int .i64 l0[j.toNat].f4, .int .i64 l0[j.toNat].f5] := (HI.out.high _ (by omega)).trans hrj
        obtain ⟨x, hxx⟩ : ∃ x, x = l0[j.toNat] := ⟨_, rfl⟩
        rw [← hxx] at hcur hrj hf5
        have HRJ := Aside0.mk hrj
        have HQ : Aside0 (kp j.toNat = !decide (x.f5 ≤ d)) := ⟨by rw [HKP.out]; show (!decide ((l0.getD j.toNat z82).f5 ≤ d)) = _; rw [← hf5]⟩
        obtain ⟨⟨hx0, hx1, hx2, hx3, hx4, hx5⟩, _⟩ := raw6_at HR.out j (by omega) c1 hcur
        have HCU := Aside0.mk hcur
        have C1 := Aside0.mk c1
        have c1b := eq_true c1
        have c2b := eq_true (show 0 ≤ j by omega)
        have c3b := eq_true (show i < (l0.length : Int) by omega)
        have c4b := eq_true (show 0 ≤ i by omega)
        clear c1 hj hjl hil hx hrj hcj hf5 hcur hxx
        cases hq0 : decide (x.f5 ≤ d) with
        | true =>
          have hq := Aside0.mk hq0
          clear hq0
          go_wp2_with (first | ((with_reducible refine gate_dst (N := 7) rfl ?_); refine box_event ?hg (N := 7) ?hd (cs := #[.int .i64 0, .int .i64 0, .slice none 0 0, .slice none 0 0, .int .i64 0, .int .i64 0]) (t := 82) ?hr ?_; (case hd => rfl); (case hg => rfl); (case hr => first | (go_simp; done) | (go_simp; rfl)); intro gv hgv w2 hbox hb; have NV : Aside0 (gs ≠ gv) := ⟨by have := Kd.R_lt HR.out gs (by simp [Value.ownBlock]); omega⟩; have GV : Aside0 (w0.heap.size ≤ gv ∧ w.heap.size ≤ gv) := ⟨by have := below_size HB.out; have := HK.out.1; omega⟩; replace HR := Aside0.mk (Kd.R_below HR.out hb); replace HK := Aside0.mk (Kept.below HK.out hb); replace HB := Aside0.mk (below_step HB.out hb); have BV := Aside0.mk hbox; clear hbox hb hgv; obtain ⟨hc0, hc1, hc2, hc3, hc4, hc5⟩ := cl6 BV.out; obtain ⟨hz0, hz1, hz2, hz3, hz4, hz5⟩ := fr6 BV.out) | ((with_reducible refine gate_store (t := 82) (p := 7) rfl ?_); refine store_event (t := 82) (p := 7) (v := ?vo) (w1 := ((((((w2.setCell ⟨gv, 0, none⟩ (.int .i64 x.f0)).setCell ⟨gv, 1, none⟩ (.int .i64 x.f1)).setCell ⟨gv, 2, none⟩ (.slice A2 n2 c2)).setCell ⟨gv, 3, none⟩ (.slice A3 n3 c3)).setCell ⟨gv, 4, none⟩ (.int .i64 x.f4)).setCell ⟨gv, 5, none⟩ (.int .i64 x.f5))) ?hg ?ho ?hn ?hr ?_; (case ho => rfl); (case hg => rfl); (case hn => rfl); (case hr => first | (go_simp; done) | (go_simp; rfl)); intro w3 hw; replace BV := Aside0.mk (set6_self (.int .i64 x.f0) (.int .i64 x.f1) (.slice A2 n2 c2) (.slice A3 n3 c3) (.int .i64 x.f4) (.int .i64 x.f5) BV.out); rw [← hw] at BV; replace HB := Aside0.mk (set6_below (.int .i64 x.f0) (.int .i64 x.f1) (.slice A2 n2 c2) (.slice A3 n3 c3) (.int .i64 x.f4) (.int .i64 x.f5) HB.out GV.out.1 0 1 2 3 4 5); rw [← hw] at HB; replace HK := Aside0.mk (set6_kept (.int .i64 x.f0) (.int .i64 x.f1) (.slice A2 n2 c2) (.slice A3 n3 c3) (.int .i64 x.f4) (.int .i64 x.f5) HK.out (.inr GV.out.2) 0 1 2 3 4 5); rw [← hw] at HK; replace HR := Aside0.mk (Kd.R_step (w1 := w3) HR.out (fun k hk _ => by rw [hw, hk]; exact set6_far _ _ _ _ _ _ NV.out 0 1 2 3 4 5)); clear hw hc0 hc1 hc2 hc3 hc4 hc5 hz0 hz1 hz2 hz3 hz4 hz5; obtain ⟨hc0, hc1, hc2, hc3, hc4, hc5⟩ := cl6 BV.out) | (go_at_call 107; refine (late.asked g d _ _ _ _ _ _ _ _ _ _ _ ((HK.out.2 g (blk_lt BK.out) HGG.out).trans BK.out)).mono ?_; rintro e w4 ⟨rfl, hb⟩; rw [hq.out]; replace HR := Aside0.mk (Kd.R_below HR.out hb); replace HK := Aside0.mk (Kept.below HK.out hb); replace HB := Aside0.mk (below_step HB.out hb); clear hb))
          go_roundg (l0.length - (j.toNat + 1))
          case measure => have := HJ.out; have := C1.out; omega
          case rel =>
            refine ⟨i, wrap64 (j + 1), cur, (by first | rfl | (simp; done) | (simp [*]; done)), (by first | rfl | (simp; done) | (simp [*]; done)), ⟨?_⟩, ⟨?_⟩, HR, HK, HB⟩
            · rw [hjn.out]; have := HJ.out; have := C1.out; omega
            · have h := HI.out.skip (by rw [HQ.out, hq.out]; rfl)
              rw [hjn.out]
              have := HJ.out
              rw [show (j + 1).toNat = j.toNat + 1 by omega]
              exact h
        | false =>
          have hq := Aside0.mk hq0
          clear hq0
          go_wp2_with (first | ((with_reducible refine gate_dst (N := 7) rfl ?_); refine box_event ?hg (N := 7) ?hd (cs := #[.int .i64 0, .int .i64 0, .slice none 0 0, .slice none 0 0, .int .i64 0, .int .i64 0]) (t := 82) ?hr ?_; (case hd => rfl); (case hg => rfl); (case hr => first | (go_simp; done) | (go_simp; rfl)); intro gv hgv w2 hbox hb; have NV : Aside0 (gs ≠ gv) := ⟨by have := Kd.R_lt HR.out gs (by simp [Value.ownBlock]); omega⟩; have GV : Aside0 (w0.heap.size ≤ gv ∧ w.heap.size ≤ gv) := ⟨by have := below_size HB.out; have := HK.out.1; omega⟩; replace HR := Aside0.mk (Kd.R_below HR.out hb); replace HK := Aside0.mk (Kept.below HK.out hb); replace HB := Aside0.mk (below_step HB.out hb); have BV := Aside0.mk hbox; clear hbox hb hgv; obtain ⟨hc0, hc1, hc2, hc3, hc4, hc5⟩ := cl6 BV.out; obtain ⟨hz0, hz1, hz2, hz3, hz4, hz5⟩ := fr6 BV.out) | ((with_reducible refine gate_store (t := 82) (p := 7) rfl ?_); refine store_event (t := 82) (p := 7) (v := ?vo) (w1 := ((((((w2.setCell ⟨gv, 0, none⟩ (.int .i64 x.f0)).setCell ⟨gv, 1, none⟩ (.int .i64 x.f1)).setCell ⟨gv, 2, none⟩ (.slice A2 n2 c2)).setCell ⟨gv, 3, none⟩ (.slice A3 n3 c3)).setCell ⟨gv, 4, none⟩ (.int .i64 x.f4)).setCell ⟨gv, 5, none⟩ (.int .i64 x.f5))) ?hg ?ho ?hn ?hr ?_; (case ho => rfl); (case hg => rfl); (case hn => rfl); (case hr => first | (go_simp; done) | (go_simp; rfl)); intro w3 hw; replace BV := Aside0.mk (set6_self (.int .i64 x.f0) (.int .i64 x.f1) (.slice A2 n2 c2) (.slice A3 n3 c3) (.int .i64 x.f4) (.int .i64 x.f5) BV.out); rw [← hw] at BV; replace HB := Aside0.mk (set6_below (.int .i64 x.f0) (.int .i64 x.f1) (.slice A2 n2 c2) (.slice A3 n3 c3) (.int .i64 x.f4) (.int .i64 x.f5) HB.out GV.out.1 0 1 2 3 4 5); rw [← hw] at HB; replace HK := Aside0.mk (set6_kept (.int .i64 x.f0) (.int .i64 x.f1) (.slice A2 n2 c2) (.slice A3 n3 c3) (.int .i64 x.f4) (.int .i64 x.f5) HK.out (.inr GV.out.2) 0 1 2 3 4 5); rw [← hw] at HK; replace HR := Aside0.mk (Kd.R_step (w1 := w3) HR.out (fun k hk _ => by rw [hw, hk]; exact set6_far _ _ _ _ _ _ NV.out 0 1 2 3 4 5)); clear hw hc0 hc1 hc2 hc3 hc4 hc5 hz0 hz1 hz2 hz3 hz4 hz5; obtain ⟨hc0, hc1, hc2, hc3, hc4, hc5⟩ := cl6 BV.out) | (go_at_call 107; refine (late.asked g d _ _ _ _ _ _ _ _ _ _ _ ((HK.out.2 g (blk_lt BK.out) HGG.out).trans BK.out)).mono ?_; rintro e w4 ⟨rfl, hb⟩; rw [hq.out]; replace HR := Aside0.mk (Kd.R_below HR.out hb); replace HK := Aside0.mk (Kept.below HK.out hb); replace HB := Aside0.mk (below_step HB.out hb); replace BV := Aside0.mk (blk_below BV.out hb); clear hb hc0 hc1 hc2 hc3 hc4 hc5; obtain ⟨hc0, hc1, hc2, hc3, hc4, hc5⟩ := cl6 BV.out; obtain ⟨o0, o1, o2, o3, o4, o5, ho_⟩ := raw6_some HR.out i HJ.out.1 (by have := HJ.out; have := C1.out; omega); obtain ⟨⟨hy0, hy1, hy2, hy3, hy4, hy5⟩, ⟨hz0, hz1, hz2, hz3, hz4, hz5⟩⟩ := raw6_at HR.out i HJ.out.1 (by have := HJ.out; have := C1.out; omega) ho_; clear ho_))
          go_roundg (l0.length - (j.toNat + 1))
          case measure => have := HJ.out; have := C1.out; omega
          case rel =>
            refine ⟨wrap64 (i + 1), wrap64 (j + 1), _, (by first | rfl | (simp; done) | (simp [*]; done)), (by first | rfl | (simp; done) | (simp [*]; done)), ⟨?_⟩, ⟨?_⟩, ⟨(raw6_put HR.out i HJ.out.1 (by have := HJ.out; have := C1.out; omega) (.int .i64 x.f0) (.int .i64 x.f1) (.slice A2 n2 c2) (.slice A3 n3 c3) (.int .i64 x.f4) (.int .i64 x.f5) (by simp [Value.oneCell'])).1⟩, ⟨set6_kept (.int .i64 x.f0) (.int .i64 x.f1) (.slice A2 n2 c2) (.slice A3 n3 c3) (.int .i64 x.f4) (.int .i64 x.f5) HK.out (.inl rfl) (i.toNat * 6) (i.toNat * 6 + 1) (i.toNat * 6 + 2) (i.toNat * 6 + 3) (i.toNat * 6 + 4) (i.toNat * 6 + 5)⟩, ⟨set6_below (.int .i64 x.f0) (.int .i64 x.f1) (.slice A2 n2 c2) (.slice A3 n3 c3) (.int .i64 x.f4) (.int .i64 x.f5) HB.out HBG.out (i.toNat * 6) (i.toNat * 6 + 1) (i.toNat * 6 + 2) (i.toNat * 6 + 3) (i.toNat * 6 + 4) (i.toNat * 6 + 5)⟩⟩
            · rw [hjn.out, hin.out]; have := HJ.out; have := C1.out; omega
            · have h := HI.out.keep (by rw [HQ.out, hq.out]; rfl) HRJ.out
              rw [hjn.out, hin.out]
              have := HJ.out
              rw [show (j + 1).toNat = j.toNat + 1 by omega, show (i + 1).toNat = i.toNat + 1 by omega]
              exact h
      · have hje : j = (l0.length : Int) := by have := HJ.out; omega
        have hcap : c ≠ i.toNat := by have := HJ.out; have := HCAP.out; omega
        obtain ⟨i0, hi0, _, hsz0, _⟩ := info_parts info82
        have hcut1 := cut_from (P := Try.prog) 68 82 .i64 Try.underlying68 hi0 6 hsz0 (some ⟨gs, 0, none⟩) l0.length c i HJ.out.1 (by have := HJ.out; omega)
        rw [if_neg hcap, Option.map_some, add_plain] at hcut1
        have hcut2 := cut_to (P := Try.prog) 68 82 .i64 Try.underlying68 hi0 (some ⟨gs, 0, none⟩) l0.length c i HJ.out.1 (by have := HJ.out; omega) HCAP.out
        obtain ⟨vs, hvl, hcl⟩ := run_clear_rows (P := Try.prog) wr 68 82 _ Try.underlying68 zero82 (by simp [Value.oneCell', Value.cells]) gs (i.toNat * 6) (l0.length - i.toNat) (c - i.toNat) (by have := HJ.out; omega) (fun q hq => (raw_cells HR.out (i.toNat * 6 + q) (by have hq' : q < (l0.length - i.toNat) * 6 := hq; show i.toNat * 6 + q < l0.length * 6; have := HJ.out; omega)).1) (fun q hq => (raw_cells HR.out (i.toNat * 6 + q) (by have hq' : q < (l0.length - i.toNat) * 6 := hq; show i.toNat * 6 + q < l0.length * 6; have := HJ.out; omega)).2)
        have hvl6 : vs.length = (l0.length - i.toNat) * 6 := hvl
        have HT := Aside0.mk (raw_tail HR.out (m := i.toNat) (by have := HJ.out; omega) vs (by have := HJ.out; omega))
        have c1b := eq_false c1
        have HJE := Aside0.mk hje
        clear c1 hvl hvl6 hi0 hsz0 hcap hje
        go_wp2
        go_ret
        have hjn : j.toNat = l0.length := by have := HJE.out; omega
        have hI := HI.out
        rw [hjn] at hI
        have hfar : ∀ k, k < w.heap.size → k ≠ gs → (wr.setCells gs (i.toNat * 6) vs).heap[k]? = w.heap[k]? := fun k hk hne => (setCells_far vs _ k hne).trans (HK.out.2 k hk hne)
        have hfr := filter_range l0 (fun b => !late d b) z82
        have hs : ((List.range l0.length).filter kp) = (List.range l0.length).filter (fun j => !late d (l0.getD j z82)) := by rw [HKP.out]
        rw [← hs] at hfr
        obtain ⟨s, hss⟩ : ∃ s, s = (List.range l0.length).filter kp := ⟨_, rfl⟩
        have hsn : s.Nodup := by rw [hss]; exact List.nodup_range.filter _
        have hcnt : s.length = i.toNat := by rw [hss]; exact hI.cnt
        have hlow := hI.low
        rw [← hss] at hfr hlow
        have hcl : cur.length = l0.length := by rw [hI.len, HRL.out]
        refine ⟨_, rfl, ?_, ?_⟩
        · suffices hfin : Kd.S k82 82 (wr.setCells gs (i.toNat * 6) vs) w0.heap.size ok (.slice (some ⟨gs, 0, none⟩) s.length c) (l0.filter fun b => !late d b) by rw [hcnt] at hfin; exact hfin
          refine S_kept (rows' := cur.take i.toNat) HOK.out HM.out HRL.out hfar hsn (by rw [← hfr, List.length_map]) (by rw [List.length_take, hcnt]; have := HJ.out; omega) (fun q m hq => ?_) (by rw [hcnt]; exact HT.out.1)
          have hml : m < l0.length := by
            have := List.mem_of_getElem? hq
            rw [hss] at this
            exact List.mem_range.1 (List.mem_filter.1 this).1
          have hql : q < i.toNat := by rw [← hcnt]; exact (List.getElem?_eq_some_iff.1 hq).1
          refine ⟨hml, ?_, ?_⟩
          · rw [← hfr, List.getElem?_map, hq, Option.map_some, List.getD_eq_getElem?_getD, List.getElem?_eq_getElem hml]; rfl
          · rw [List.getElem?_take, if_pos hql]; exact hlow q m hq
        · exact HB.out.grown HT.out.2 (below_size HB.out) (fun k hk => by injection hk with hk; rw [← hk]; exact HBG.out)

set_option maxHeartbeats 8000000 in
set_option maxRecDepth 100000 in
theorem impl_TidyBits.calls (k : Nat) (A0 : Option Addr) (c0 : Nat) (l0 : List S82) (a1 : Int) (r : List S82) (w : World) (hr0 : Kd.C k82 w A0 l0.length l0) (hc0 : l0.length ≤ c0) (h : impl_TidyBits.f k l0 a1 = some r) :
    Calls Try.prog 43 #[.slice A0 l0.length c0, .int .i64 a1] w fun e w' => ∃ v0_ : Value, e = .returned (v0_) ∧ Kd.S k82 82 w' w.heap.size (fun _ => True) v0_ r ∧ Below w.heap.size w w' := by
  have HR0 := Aside0.mk hr0
  have HC0 := Aside0.mk hc0
  have HB := Aside0.mk (Below.refl w.heap.size w)
  clear hr0 hc0
  obtain ⟨t, A1, H⟩ := bsi (show (impl_copyBits.f k l0).bind (fun t => some (t.filter fun b => !late a1 b)) = some r from h)
  obtain rfl := Option.some.inj H
  clear h H
  go_enter Try.func43, Try.ntmps43
  go_wp2_with (first | ((with_reducible refine gate_dst (N := 3) rfl ?_); refine box_event ?hg (N := 3) ?hd (cs := #[.int .i64 a1]) (t := 3) ?hr ?_; (case hd => rfl); (case hg => rfl); (case hr => first | (go_simp; done) | (go_simp; rfl)); intro gb hg w2 hbox hb; have BK := Aside0.mk hbox; replace HB := Aside0.mk (below_step HB.out hb); clear hb hbox hg) | ((with_reducible refine gate_callee (f := 98) rfl ?_); refine goesL_ (some 6) rfl rfl Try.func98 (by kernel_rfl) rfl #[.slice A0 l0.length c0] rfl gm_ ?_; (with_reducible refine (impl_copyBits.calls k _ _ l0 t _ ?side1 ?side2 A1.out).mono ?_); (case side1 => exact (Kd.C_below HR0.out HB.out)); (case side2 => exact HC0.out); rintro e w3 ⟨v, rfl, ho0, hb⟩; refine ⟨_, rfl, ?_⟩; have HS := Aside0.mk (Kd.S_lower ho0 (below_size HB.out)); replace BK := Aside0.mk (blk_below BK.out hb); replace HB := Aside0.mk (below_step HB.out hb); clear hb ho0) | ((with_reducible refine gate_callee (f := 106) rfl ?_); refine goesL_ (some 8) rfl rfl Try.func106 (by kernel_rfl) rfl #[v, .func (.func 107) #[] #[.pointer (some ⟨gb, 0, none⟩)]] rfl gm_ ?_; (with_reducible refine (late.cut t gb a1 (fun _ => True) v w _ HB.out HS.out BK.out).mono ?_); rintro e w4 ⟨v', rfl, hs', hb'⟩; refine ⟨_, rfl, ?_⟩; replace HS := Aside0.mk hs'; replace HB := Aside0.mk hb'; clear hs' hb'))
  go_ret
  exact ⟨_, rfl, HS.out, HB.out⟩

end Go.Proofs.Ytmknnoeggkgkgaa.QFnExactTidyBits
