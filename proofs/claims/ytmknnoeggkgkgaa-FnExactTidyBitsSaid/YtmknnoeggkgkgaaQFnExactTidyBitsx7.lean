/- Functions that a law reaches, as functions of Lean, and the walks that show that the calls come to their answers: by hand. No condition. -/
import Derived.Test.YtmknnoeggkgkgaaQFnExactTidyBitsx0
import Derived.Test.YtmknnoeggkgkgaaQFnExactTidyBitsx1
import Derived.Test.YtmknnoeggkgkgaaQFnExactTidyBitsx2
import Derived.Test.YtmknnoeggkgkgaaQFnExactTidyBitsx3
import Derived.Test.YtmknnoeggkgkgaaQFnExactTidyBitsx4
import Derived.Test.YtmknnoeggkgkgaaQFnExactTidyBitsx5
import Derived.Test.YtmknnoeggkgkgaaQFnExactTidyBitsx6
import Derived.Test.YtmknnoeggkgkgaaSq
import Derived.Test.YtmknnoeggkgkgaaShort2
import Derived.Test.YtmknnoeggkgkgaaShort4
import Derived.Test.YtmknnoeggkgkgaaShort3
import Derived.Test.YtmknnoeggkgkgaaShort
import Derived.Test.YtmknnoeggkgkgaaShort5
namespace Go.Proofs.Ytmknnoeggkgkgaa.QFnExactTidyBits
open Go.RowKit Go.Proofs.YtmknnoeggkgkgaaW.PrintWords Go.Proofs.YtmknnoeggkgkgaaW.PrintLast Go.Proofs.YtmknnoeggkgkgaaW.PrintMore Go.Proofs.Ytmknnoeggkgkgaa.Short Go.Proofs.Ytmknnoeggkgkgaa.Sq
set_option linter.unusedVariables false
set_option linter.unusedSimpArgs false

/-! ### laws_markBitsS: a row whose elements' rows lie apart is marked, its elements' rows too: by hand -/
def laws_markBitsS.go (k : Nat) : List S82 → Int → Option (Int × List S82)
  | [], a => some (a, [])
  | x :: xs, a => (laws_markStringS.f k x.f2 (wrap64 (wrap64 (a + 1) + 1))).bind fun p => (laws_markIntS.f k x.f3 p.1).bind fun q => (laws_markBitsS.go k xs (wrap64 (wrap64 (q.1 + 1) + 1))).bind fun r => some (r.1, (⟨a, wrap64 (a + 1), p.2, q.2, q.1, wrap64 (q.1 + 1)⟩ : S82) :: r.2)
def laws_markBitsS.f (k : Nat) (l0 : List S82) (a1 : Int) : Option (Int × List S82) := laws_markBitsS.go k l0 a1
section
variable {W W1 : World} {base : Nat} {ok oki P : Nat → Prop} {g n cap q : Nat} {xs : List S82} {v0 v1 v2 v3 v4 v5 : Value}
theorem lend82 (h : Kd.S k82 82 W base ok (.slice (some ⟨g, 0, none⟩) n cap) xs) {x : S82} (hx : xs[q]? = some x) :
    ∃ (oki : Nat → Prop) (v2 v3 : Value), Kd.H k82 82 W base ok (.slice (some ⟨g, 0, none⟩) n cap) xs (q : Int) oki [.int .i64 x.f0, .int .i64 x.f1, v2, v3, .int .i64 x.f4, .int .i64 x.f5] ∧ Kd.string.R 9 W base oki v2 x.f2 ∧ (Kd.int .i64).R 3 W base oki v3 x.f3 ∧ (∀ k, oki k → ok k ∧ k ≠ g) := by
  have hn := (Kd.S_reads' h).1
  have hq := (List.getElem?_eq_some_iff.1 hx).1
  obtain ⟨oki, c, _, hM, _, hok, hH⟩ := Kd.S_lend h z82 (q : Int) (by omega) (by omega)
  rw [Int.toNat_natCast, List.getD_eq_getElem?_getD, hx] at hM
  obtain ⟨v2, v3, rfl, g2, g3⟩ := k82_openM hM
  exact ⟨oki, v2, v3, hH, g2, g3, hok⟩
theorem at82 (h : Kd.H k82 82 W base ok (.slice (some ⟨g, 0, none⟩) n cap) xs (q : Int) oki [v0, v1, v2, v3, v4, v5]) (hq : q < n) {o : Nat} (ho : q * 6 = o) :
    (W.cell? ⟨g, o, none⟩ = some v0 ∧ W.cell? ⟨g, o + 1, none⟩ = some v1 ∧ W.cell? ⟨g, o + 2, none⟩ = some v2 ∧ W.cell? ⟨g, o + 3, none⟩ = some v3 ∧ W.cell? ⟨g, o + 4, none⟩ = some v4 ∧ W.cell? ⟨g, o + 5, none⟩ = some v5) ∧
    (W.frozen? ⟨g, o, none⟩ = false ∧ W.frozen? ⟨g, o + 1, none⟩ = false ∧ W.frozen? ⟨g, o + 2, none⟩ = false ∧ W.frozen? ⟨g, o + 3, none⟩ = false ∧ W.frozen? ⟨g, o + 4, none⟩ = false ∧ W.frozen? ⟨g, o + 5, none⟩ = false) := by
  obtain ⟨hcc, hfr⟩ := Kd.H_at h (by omega) (by omega)
  subst ho
  exact ⟨⟨hcc 0 _ rfl, hcc 1 _ rfl, hcc 2 _ rfl, hcc 3 _ rfl, hcc 4 _ rfl, hcc 5 _ rfl⟩, ⟨hfr 0, hfr 1, hfr 2, hfr 3, hfr 4, hfr 5⟩⟩
theorem put82a (h : Kd.H k82 82 W base ok (.slice (some ⟨g, 0, none⟩) n cap) xs (q : Int) oki [v0, v1, v2, v3, v4, v5]) (hq : q < n) {o : Nat} (ho : q * 6 = o) (a b : Int) :
    Kd.H k82 82 ((W.setCell ⟨g, o, none⟩ (.int .i64 a)).setCell ⟨g, o + 1, none⟩ (.int .i64 b)) base ok (.slice (some ⟨g, 0, none⟩) n cap) xs (q : Int) oki [.int .i64 a, .int .i64 b, v2, v3, v4, v5] ∧ W.grownBy ((W.setCell ⟨g, o, none⟩ (.int .i64 a)).setCell ⟨g, o + 1, none⟩ (.int .i64 b)) (some g) := by
  subst ho
  exact Kd.H_seg (seg := [.int .i64 a, .int .i64 b]) (j := 0) h (by omega) (by omega) (by show 0 + 2 ≤ 6; omega) (by simp [Value.oneCell'])
theorem put82b (h : Kd.H k82 82 W base ok (.slice (some ⟨g, 0, none⟩) n cap) xs (q : Int) oki [v0, v1, v2, v3, v4, v5]) (hq : q < n) {o : Nat} (ho : q * 6 = o) (a b : Int) :
    Kd.H k82 82 ((W.setCell ⟨g, o + 4, none⟩ (.int .i64 a)).setCell ⟨g, o + 5, none⟩ (.int .i64 b)) base ok (.slice (some ⟨g, 0, none⟩) n cap) xs (q : Int) oki [v0, v1, v2, v3, .int .i64 a, .int .i64 b] ∧ W.grownBy ((W.setCell ⟨g, o + 4, none⟩ (.int .i64 a)).setCell ⟨g, o + 5, none⟩ (.int .i64 b)) (some g) := by
  subst ho
  exact Kd.H_seg (seg := [.int .i64 a, .int .i64 b]) (j := 4) h (by omega) (by omega) (by show 4 + 2 ≤ 6; omega) (by simp [Value.oneCell'])
theorem kept82 {c : List Value} {i : Int} (h : Kd.H k82 82 W base ok (.slice (some ⟨g, 0, none⟩) n cap) xs i oki c) (hk : Kept W W1 P) (hp : ∀ k, P k → oki k) : Kd.H k82 82 W1 base ok (.slice (some ⟨g, 0, none⟩) n cap) xs i oki c :=
  Kd.H_step h (fun k _ hn hlt => hk.2 k hlt (fun hP => hn (hp k hP)))
/-- A row of another type's elements stays. -/
theorem other_row {α : Type} {d : Kd α} (hE : d.E = []) {e e' : Nat} {v v' : Value} {l : List α} (h : d.R e W base ok v l) (hk : Kept W W1 (fun k => some k = v'.ownBlock)) (hty : ∀ k, v'.ownBlock = some k → ∃ cells, W.heap[k]? = some (.cells cells e' (0, 0))) (hne : e ≠ e') : d.R e W1 base ok v l := by
  have ht := Kd.R_typed h
  refine Kd.R_mono (Kd.R_step (Kd.R_tight hE h) (fun k hk' hlt => hk.2 k hlt (fun hP => ?_))) (fun k hk' => h.1 k hk'.symm)
  obtain ⟨c1, h1⟩ := ht k hk'.symm
  obtain ⟨c2, h2⟩ := hty k hP.symm
  rw [h1] at h2
  injection h2 with h2
  injection h2 with _ h2
  exact hne h2
end
def Marked (P0 : Nat → Prop) (u : Value) (r1 : Int) (r2 : List S82) (w0 w : World) (e : Ending) (w' : World) : Prop := e = .returned (.int .i64 r1) ∧ SQ k82 82 w' w0.heap.size P0 u r2 ∧ Below w0.heap.size w0 w' ∧ Kept w w' P0
set_option maxHeartbeats 8000000 in
set_option maxRecDepth 100000 in
theorem laws_markBitsS.calls (k : Nat) (P0 : Nat → Prop) (u : Value) (l0 : List S82) (a1 : Int) (r1 : Int) (r2 : List S82) (w0 w : World) (hB : Below w0.heap.size w0 w) (ho0 : SQ k82 82 w w0.heap.size P0 u l0) (h : laws_markBitsS.f k l0 a1 = some (r1, r2)) :
    Calls Try.prog 45 #[u, .int .i64 a1] w (Marked P0 u r1 r2 w0 w) := by
  have hu82 := Try.underlying82
  cases hl : l0 with
  | nil =>
    subst hl
    have e := Option.some.inj (show some (a1, ([] : List S82)) = some (r1, r2) from h)
    injection e with e1 e2
    subst e1; subst e2
    have HS := Aside0.mk ho0
    obtain ⟨A, c, rfl⟩ := SQ_slice ho0
    have HB := Aside0.mk hB
    clear h ho0 hB
    go_enter Try.func45, Try.ntmps45
    go_wp2
    go_loopg [1, 5] 0 (fun kq v1 v5 w' => v1 = .int .i64 a1 ∧ v5 = .int .i64 0 ∧ Drawn0 w w')
    case atStart => exact ⟨rfl, rfl, Drawn0.refl _⟩
    case round =>
      obtain ⟨rfl, rfl, ⟨m1, rfl⟩⟩ := hrel
      go_wp2
      go_ret
      exact ⟨rfl, SQ_drewN HS.out _, pw_below_drewN HB.out _, Kept.drewN (Kept.refl _ _) _⟩
  | cons x0 xs0 =>
    have hpos : 0 < l0.length := by rw [hl]; simp
    clear hl
    obtain ⟨g, m, cap, ys, hu, hym, hS⟩ := SQ_open ho0 hpos
    replace hu : u = .slice (some ⟨g, m * 6, none⟩) l0.length cap := hu
    subst hu
    have hP0 : P0 g := by obtain ⟨f, hR⟩ := hS; exact hR.1 g (by simp [Value.ownBlock])
    have hbg : w0.heap.size ≤ g := Kd.S_base hS g (by simp [Value.ownBlock])
    have hmax : l0.length ≤ 9223372036854775807 := by
      obtain ⟨A, c, _, _, hC⟩ := SQ_reads ho0
      exact hC.2.1
    have HY := Aside0.mk hym
    have HS := Aside0.mk hS
    have HP0 := Aside0.mk hP0
    have HBG := Aside0.mk hbg
    have HMX := Aside0.mk hmax
    have HB := Aside0.mk hB
    have HK := Aside0.mk (Kept.refl w P0)
    have HG := Aside0.mk (show laws_markBitsS.go k l0 a1 = some (r1, r2) from h)
    clear hym hS hP0 hbg hmax hB h hpos ho0
    go_enter Try.func45, Try.ntmps45
    go_wp2
    go_loopg [1, 5] l0.length (fun kq v1 v5 w' => ∃ (a i : Int) (ds rest rr : List S82), v1 = .int .i64 a ∧ v5 = .int .i64 i ∧ Aside0 (0 ≤ i ∧ i.toNat = ds.length ∧ ds.length + rest.length = l0.length ∧ rest.length ≤ kq) ∧ Aside0 (laws_markBitsS.go k rest a = some (r1, rr) ∧ r2 = ds ++ rr) ∧ Aside0 (Kd.S k82 82 w' w0.heap.size P0 (.slice (some ⟨g, 0, none⟩) (m + l0.length) (m + cap)) (ys ++ (ds ++ rest))) ∧ Aside0 (Below w0.heap.size w0 w') ∧ Aside0 (Kept w w' P0))
    case atStart => exact ⟨a1, 0, [], l0, r2, (by first | rfl | (simp; done) | (simp [*]; done)), (by first | rfl | (simp; done) | (simp [*]; done)), ⟨by simp⟩, ⟨HG.out, rfl⟩, HS, HB, HK⟩
    case round =>
      obtain ⟨a, i, ds, rest, rr, rfl, rfl, HJ, HA, HS, HB, HK⟩ := hrel
      cases hrest : rest with
      | nil =>
        subst hrest
        have hin : ¬ i < (l0.length : Int) := by have := HJ.out; simp only [List.length_nil] at this; omega
        have c1b := eq_false hin
        clear hin
        have hA := HA.out
        have e := Option.some.inj (show some (a, ([] : List S82)) = some (r1, rr) from hA.1)
        injection e with e1 e2
        have HR2 := Aside0.mk (show r2 = ds by rw [hA.2, ← e2, List.append_nil])
        subst e1
        clear hA e2
        go_wp2
        go_ret
        refine ⟨rfl, SQ_back HY.out ?_ ?_, HB.out, HK.out⟩
        · have h := HS.out
          rw [List.append_nil] at h
          rw [HR2.out, show ds.length = l0.length by have := HJ.out; simp only [List.length_nil] at this; omega]
          exact h
        · rw [HR2.out]; have := HJ.out; simp only [List.length_nil] at this; omega
      | cons x rest1 =>
        subst hrest
        obtain ⟨⟨p1, p2⟩, Ap, H⟩ := bsi HA.out.1
        obtain ⟨⟨q1, q2⟩, Aq, H⟩ := bsi H
        obtain ⟨⟨s1, s2⟩, As, H⟩ := bsi H
        have e := Option.some.inj H
        injection e with e1 e2
        have e1' : s1 = r1 := e1
        have e2' : (⟨a, wrap64 (a + 1), p2, q2, q1, wrap64 (q1 + 1)⟩ : S82) :: s2 = rr := e2
        have HR2 := Aside0.mk (show r2 = (ds ++ [(⟨a, wrap64 (a + 1), p2, q2, q1, wrap64 (q1 + 1)⟩ : S82)]) ++ s2 by rw [HA.out.2, ← e2', List.append_assoc]; rfl)
        subst e1'
        clear e1 e2 e2' H HA
        have hlen := HJ.out
        rw [List.length_cons] at hlen
        have hqe : (ys ++ (ds ++ x :: rest1))[m + i.toNat]? = some x := by rw [List.getElem?_append_right (by have := HY.out; omega), HY.out, Nat.add_sub_cancel_left, List.getElem?_append_right (by omega), hlen.2.1, Nat.sub_self]; rfl
        obtain ⟨oki, v2, v3, hH, hT2, hT3, hoki⟩ := lend82 HS.out hqe
        obtain ⟨A2, c2, rfl⟩ := Kd.R_slice hT2
        obtain ⟨A3, c3, rfl⟩ := Kd.R_slice hT3
        have hqn : m + i.toNat < m + l0.length := by omega
        have ho : (m + i.toNat) * 6 = m * 6 + i.toNat * 6 := Nat.add_mul _ _ _
        obtain ⟨⟨hx0, hx1, hx2, hx3, hx4, hx5⟩, ⟨hz0, hz1, hz2, hz3, hz4, hz5⟩⟩ := at82 hH hqn ho
        have HH := Aside0.mk hH
        have T2 := Aside0.mk hT2
        have T3 := Aside0.mk hT3
        have OKI := Aside0.mk hoki
        have QN := Aside0.mk hqn
        have HO := Aside0.mk ho
        have HIN := Aside0.mk (show wrap64 (i + 1) = i + 1 by have := HMX.out; unfold wrap64; omega)
        have c1b := eq_true (show i < (l0.length : Int) by omega)
        have c2b := eq_true (show 0 ≤ i by omega)
        clear hH hT2 hT3 hoki hqn ho hqe hlen
        go_wp2_with (first | (go_at_call 16; have hp := put82a HH.out QN.out HO.out a (wrap64 (a + 1)); have t2 := Kd.R_grown T2.out hp.2 (fun k hk e_ => (OKI.out k hk).2 (by injection e_)); have t3 := Kd.R_grown T3.out hp.2 (fun k hk e_ => (OKI.out k hk).2 (by injection e_)); refine (laws_markStringS.calls k _ _ x.f2 _ p1 p2 w0 _ (HB.out.grown hp.2 (below_size HB.out) (fun k hk => by injection hk with hk; rw [← hk]; exact HBG.out)) (Kd.R_tight rfl t2) Ap.out).mono ?_; rintro e w2 ⟨rfl, ho, hb, hk⟩; replace HH := Aside0.mk (kept82 hp.1 hk (fun k hk => T2.out.1 k hk.symm)); have T2b := Aside0.mk (Kd.R_mono (Kd.R_tight rfl ho) (fun k hk => T2.out.1 k hk.symm)); have T3b := Aside0.mk (other_row rfl t3 hk (Kd.R_typed t2) (by decide)); replace HK := Aside0.mk (Kept.then_ (Kept.of_grown hp.2 HK.out (fun k hk => .inl (by injection hk with hk; rw [← hk]; exact HP0.out))) hk (fun k hk => .inl (OKI.out k (T2.out.1 k hk.symm)).1)); replace HB := Aside0.mk hb; clear hp t2 t3 ho hb hk hx0 hx1 hx2 hx3 hx4 hx5 hz0 hz1 hz2 hz3 hz4 hz5; obtain ⟨⟨hx0, hx1, hx2, hx3, hx4, hx5⟩, ⟨hz0, hz1, hz2, hz3, hz4, hz5⟩⟩ := at82 HH.out QN.out HO.out) | (go_at_call 87; refine (laws_markIntS.calls k _ _ x.f3 _ q1 q2 w0 _ HB.out (Kd.R_tight rfl T3b.out) Aq.out).mono ?_; rintro e w3 ⟨rfl, ho, hb, hk⟩; replace HH := Aside0.mk (kept82 HH.out hk (fun k hk => T3b.out.1 k hk.symm)); have T2c := Aside0.mk (other_row rfl T2b.out hk (Kd.R_typed T3b.out) (by decide)); have T3c := Aside0.mk (Kd.R_mono (Kd.R_tight rfl ho) (fun k hk => T3b.out.1 k hk.symm)); replace HK := Aside0.mk (Kept.then_ HK.out hk (fun k hk => .inl (OKI.out k (T3b.out.1 k hk.symm)).1)); replace HB := Aside0.mk hb; clear ho hb hk hx0 hx1 hx2 hx3 hx4 hx5 hz0 hz1 hz2 hz3 hz4 hz5; obtain ⟨⟨hx0, hx1, hx2, hx3, hx4, hx5⟩, ⟨hz0, hz1, hz2, hz3, hz4, hz5⟩⟩ := at82 HH.out QN.out HO.out))
        have hp := put82b HH.out QN.out HO.out q1 (wrap64 (q1 + 1))
        have t2 := Kd.R_grown T2c.out hp.2 (fun k hk e_ => (OKI.out k hk).2 (by injection e_))
        have t3 := Kd.R_grown T3c.out hp.2 (fun k hk e_ => (OKI.out k hk).2 (by injection e_))
        have hs := Kd.H_back hp.1 (x' := (⟨a, wrap64 (a + 1), p2, q2, q1, wrap64 (q1 + 1)⟩ : S82)) (k82_mkM _ _ _ _ t2 t3) (fun _ h_ => h_)
        have hb2 := HB.out.grown hp.2 (below_size HB.out) (fun k hk => by injection hk with hk; rw [← hk]; exact HBG.out)
        have hk2 := Kept.of_grown (S := P0) hp.2 HK.out (fun k hk => .inl (by injection hk with hk; rw [← hk]; exact HP0.out))
        have HS2 := Aside0.mk hs
        have HB2 := Aside0.mk hb2
        have HK2 := Aside0.mk hk2
        clear hp t2 t3 hs hb2 hk2
        go_roundg (rest1.length)
        case measure => have := HJ.out; simp only [List.length_cons] at this; omega
        case rel =>
          refine ⟨wrap64 (wrap64 (q1 + 1) + 1), wrap64 (i + 1), ds ++ [(⟨a, wrap64 (a + 1), p2, q2, q1, wrap64 (q1 + 1)⟩ : S82)], rest1, s2, rfl, rfl, ⟨?_⟩, ⟨As.out, HR2.out⟩, ⟨?_⟩, HB2, HK2⟩
          · rw [HIN.out]; have := HJ.out; simp only [List.length_cons] at this; rw [List.length_append, List.length_singleton]; omega
          · have hj := HJ.out
            have he : ∀ x' : S82, (ys ++ (ds ++ x :: rest1)).set (((m + i.toNat : Nat) : Int).toNat) x' = ys ++ ((ds ++ [x']) ++ rest1) := by
              intro x'
              rw [Int.toNat_natCast, List.set_append_right _ _ (by have := HY.out; omega), HY.out, Nat.add_sub_cancel_left, List.set_append_right _ _ (by omega), hj.2.1, Nat.sub_self, List.set_cons_zero, List.append_assoc, List.singleton_append]
            rw [← he]
            exact HS2.out

end Go.Proofs.Ytmknnoeggkgkgaa.QFnExactTidyBits
