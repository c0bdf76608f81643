/- The words of rows of one's own that begin at their block's head, for rows that begin anywhere in it. No condition. -/
import Derived.Test.YtjaamflffmhicaaVFnExactUnwrapq
namespace Go.Proofs.Ytjaamflffmhicaa.Sq
open Go.RowKit Go.Proofs.YtjaamflffmhicaaW.PrintWords Go.Proofs.YtjaamflffmhicaaW.PrintLast Go.Proofs.YtjaamflffmhicaaW.PrintMore
open Go.Proofs.YtjaamflffmhicaaW.PrintWords.Kd (R_head S_R raw R_reads' tag FK FK_of_M)
set_option linter.unusedVariables false

namespace KQ
def S {α : Type} (d : Kd α) (e : Nat) (w : World) (base : Nat) (ok : Nat → Prop) (v : Value) (xs : List α) : Prop := SQ d e w base ok v xs
def H {α : Type} (d : Kd α) (e : Nat) (w : World) (base : Nat) (ok : Nat → Prop) (v : Value) (xs : List α) (i : Int) (oki : Nat → Prop) (c : List Value) : Prop :=
  ∃ (g m n cap : Nat) (ys : List α), v = .slice (some ⟨g, m * d.sz, none⟩) n cap ∧ ys.length = m ∧ 0 ≤ i ∧ i < n ∧ n = xs.length ∧ Kd.H d e w base ok (.slice (some ⟨g, 0, none⟩) (m + n) (m + cap)) (ys ++ xs) ((m + i.toNat : Nat) : Int) oki c
section
variable {α : Type} {d : Kd α} {e g of_ n cap : Nat} {w w1 W : World} {base : Nat} {ok ok' oki okp : Nat → Prop} {v : Value} {xs : List α} {i : Int} {c : List Value}
theorem S_alloc (h : S d e w base ok v xs) (o : Obj) : S d e (w.alloc o) base ok v xs := SQ_alloc h o
theorem S_drew (h : S d e w base ok v xs) : S d e w.drew base ok v xs := SQ_drew h
theorem S_drewN (h : S d e w base ok v xs) (m : Nat) : S d e (w.drewN m) base ok v xs := SQ_drewN h m
theorem S_below (h : S d e w base ok v xs) (hb : Below w.heap.size w w1) : S d e w1 base ok v xs := SQ_below h hb
theorem S_far (h : S d e w base ok v xs) {p : Addr} (hok : ∀ k, ok k → k ≠ p.block) (u : Value) : S d e (w.setCell p u) base ok v xs := SQ_far h hok u
theorem S_mono (h : S d e w base ok v xs) (hok : ∀ k, ok k → ok' k) : S d e w base ok' v xs := SQ_mono h hok
theorem S_types (h : S d e w base ok v xs) {g t : Nat} {cells : Array Value} (hb : w.heap[g]? = some (.cells cells t (0, 0))) (ht : ∀ q, q ∈ e :: d.E → q ≠ t) : S d e w base (fun k => ok k ∧ k ≠ g) v xs := SQ_types h hb ht
theorem S_reads' {A : Option Addr} {n c : Nat} (h : S d e w base ok (.slice A n c) xs) : n = xs.length ∧ n ≤ c ∧ d.C w A xs.length xs := SQ_reads' h
theorem S_slice (h : S d e w base ok v xs) : ∃ A c, v = .slice A xs.length c := SQ_slice h
theorem S_lower {base' : Nat} (h : S d e w base ok v xs) (hb : base' ≤ base) : S d e w base' ok v xs := SQ_lower h hb
theorem S_bound (h : S d e w base ok v xs) : S d e w base (fun k => ok k ∧ base ≤ k ∧ k < w.heap.size ∧ ∃ q, q ∈ e :: d.E ∧ ∃ cells, w.heap[k]? = some (.cells cells q (0, 0))) v xs := SQ_bound h
theorem S_at (h : S d e w base ok (.slice (some ⟨g, of_, none⟩) n cap) xs) : ∃ (m : Nat) (ys : List α), of_ = m * d.sz ∧ ys.length = m ∧ n = xs.length ∧ Kd.S d e w base ok (.slice (some ⟨g, 0, none⟩) (m + n) (m + cap)) (ys ++ xs) := by
  rcases h with h | ⟨g', m, cap', ys, hv, hm, h⟩
  · obtain ⟨g', hg⟩ := R_head (S_R h)
    injection hg with hg ho
    subst hg; subst ho
    exact ⟨0, [], by rw [Nat.zero_mul], rfl, (Kd.S_reads' h).1, by rw [Nat.zero_add, Nat.zero_add]; exact h⟩
  · injection hv with ha hn hc
    injection ha with ha
    injection ha with hg ho
    subst hg; subst hc; subst hn
    exact ⟨m, ys, ho, hm, rfl, h⟩
theorem S_mk {m : Nat} {ys : List α} (hm : ys.length = m) (hn : n = xs.length) (h : Kd.S d e w base ok (.slice (some ⟨g, 0, none⟩) (m + n) (m + cap)) (ys ++ xs)) : S d e w base ok (.slice (some ⟨g, m * d.sz, none⟩) n cap) xs := by
  subst hn
  exact .inr ⟨g, m, cap, ys, rfl, hm, h⟩
theorem own_at (h : S d e w base ok v xs) : ∃ (u : Value) (zs : List α), Kd.S d e w base ok u zs ∧ v.ownBlock = u.ownBlock := by
  rcases h with h | ⟨g', m, cap', ys, rfl, hm, h⟩
  · exact ⟨_, _, h, rfl⟩
  · exact ⟨_, _, h, by simp [Value.ownBlock]⟩
theorem S_ne (h : S d e w base ok v xs) {t : Nat} {cells : Array Value} (hb : w.heap[g]? = some (.cells cells t (0, 0))) (ht : e ≠ t) : some g ≠ v.ownBlock := by
  obtain ⟨u, zs, h, ho⟩ := own_at h
  rw [ho]
  exact Kd.S_ne h hb ht
theorem S_lt (h : S d e w base ok v xs) : ∀ k, v.ownBlock = some k → k < w.heap.size := by
  obtain ⟨u, zs, h, ho⟩ := own_at h
  rw [ho]
  exact Kd.S_lt h
theorem S_base (h : S d e w base ok v xs) : ∀ k, v.ownBlock = some k → base ≤ k := by
  obtain ⟨u, zs, h, ho⟩ := own_at h
  rw [ho]
  exact Kd.S_base h
theorem S_elderB (h : S d e w base ok v xs) (a : Nat) (ha : w.heap.size ≤ a) : S d e w base (fun k => ok k ∧ k ≠ a) v xs := SQ_imp h (fun _ _ h => Kd.S_elderB h a ha)
theorem S_elder' {u : Value} (h : S d e W base ok v xs) (hbase : ∀ k, u.ownBlock = some k → W.heap.size ≤ k) (hb : Below W.heap.size W w1) : S d e w1 base (fun k => ok k ∧ some k ≠ u.ownBlock) v xs := SQ_imp h (fun _ _ h => Kd.S_elder' h hbase hb)
theorem S_form (h : S d e w base ok v xs) (hp : 0 < xs.length) : ∃ g of_ cap, v = .slice (some ⟨g, of_, none⟩) xs.length cap ∧ base ≤ g ∧ g < w.heap.size ∧ ∃ cells, w.heap[g]? = some (.cells cells e (0, 0)) := by
  obtain ⟨g, m, cap, ys, rfl, hm, h⟩ := SQ_open h hp
  exact ⟨g, _, cap, rfl, Kd.S_base h g (by simp [Value.ownBlock]), Kd.S_lt h g (by simp [Value.ownBlock]), Kd.S_typed h g (by simp [Value.ownBlock])⟩
theorem at_idx {m : Nat} {ys : List α} (hm : ys.length = m) (z : α) (q : Nat) : (ys ++ xs).getD (m + q) z = xs.getD q z := by
  rw [List.getD_eq_getElem?_getD, List.getD_eq_getElem?_getD, List.getElem?_append_right (by omega), hm, Nat.add_sub_cancel_left]
theorem S_get (h : S d e W base ok (.slice (some ⟨g, of_, none⟩) n cap) xs) (z : α) (i : Int) (h0 : 0 ≤ i) (h1 : i < n) :
    ∃ c, c.length = d.sz ∧ d.M W base (fun k => ok k ∧ some k ≠ (Value.slice (some ⟨g, of_, none⟩) n cap).ownBlock) (xs.getD i.toNat z) c ∧ ∀ j u, c[j]? = some u → W.cell? ((⟨g, of_, none⟩ : Addr).add (i.toNat * d.sz + j)) = some u := by
  obtain ⟨m, ys, rfl, hm, hn, h⟩ := S_at h
  obtain ⟨c, hcl, hM, hcc⟩ := Kd.S_get h z ((m + i.toNat : Nat) : Int) (by omega) (by omega)
  rw [Int.toNat_natCast, at_idx hm] at hM
  refine ⟨c, hcl, d.M_mono (fun k hk => ⟨hk.1, by simpa [Value.ownBlock] using hk.2⟩) hM, fun j u hu => ?_⟩
  have := hcc j u hu
  rw [Int.toNat_natCast, add_at, Nat.zero_add, Nat.add_mul, Nat.add_assoc] at this
  rw [add_at]
  exact this
theorem S_elem (h : S d e W base ok (.slice (some ⟨g, of_, none⟩) n cap) xs) (z : α) (i : Int) (h0 : 0 ≤ i) (h1 : i < n) :
    ∃ (oki : Nat → Prop) (c : List Value), c.length = d.sz ∧ d.M W base oki (xs.getD i.toNat z) c ∧ (∀ j u, c[j]? = some u → W.cell? ⟨g, of_ + i.toNat * d.sz + j, none⟩ = some u) ∧ (∀ j, W.frozen? ⟨g, of_ + i.toNat * d.sz + j, none⟩ = false) ∧ (∀ k, oki k → ok k ∧ k ≠ g) ∧ H d e W base ok (.slice (some ⟨g, of_, none⟩) n cap) xs i oki c := by
  obtain ⟨m, ys, rfl, hm, hn, h⟩ := S_at h
  obtain ⟨oki, c, hcl, hM, hcc, hfr, hok, hH⟩ := Kd.S_elem h z ((m + i.toNat : Nat) : Int) (by omega) (by omega)
  rw [Int.toNat_natCast, at_idx hm] at hM
  refine ⟨oki, c, hcl, hM, fun j u hu => ?_, fun j => ?_, hok, g, m, n, cap, ys, rfl, hm, h0, h1, hn, hH⟩
  · have := hcc j u hu
    rw [Int.toNat_natCast, Nat.add_mul] at this
    exact this
  · have := hfr j
    rw [Int.toNat_natCast, Nat.add_mul] at this
    exact this
theorem H_map {ok' oki' : Nat → Prop} {c' : List Value} (h : H d e w base ok v xs i oki c) (f : ∀ u zs i, Kd.H d e w base ok u zs i oki c → Kd.H d e w1 base ok' u zs i oki' c') : H d e w1 base ok' v xs i oki' c' := by
  obtain ⟨g, m, n, cap, ys, hv, hm, h0, h1, hn, h⟩ := h
  exact ⟨g, m, n, cap, ys, hv, hm, h0, h1, hn, f _ _ _ h⟩
theorem H_widen (h : H d e w base ok v xs i oki c) : H d e w base ok v xs i (fun k => oki k ∨ ok k ∧ w.heap.size ≤ k) c := H_map h (fun _ _ _ h => Kd.H_widen h)
theorem H_grown (h : H d e w base ok v xs i oki c) {row : Option Nat} (hg : w.grownBy w1 row) (hrow : ∀ k, row = some k → oki k) : H d e w1 base ok v xs i oki c := H_map h (fun _ _ _ h => Kd.H_grown h hg hrow)
theorem H_alloc (h : H d e w base ok v xs i oki c) (o : Obj) : H d e (w.alloc o) base ok v xs i oki c := H_map h (fun _ _ _ h => Kd.H_alloc h o)
theorem H_drew (h : H d e w base ok v xs i oki c) : H d e w.drew base ok v xs i oki c := H_map h (fun _ _ _ h => Kd.H_drew h)
theorem H_drewN (h : H d e w base ok v xs i oki c) (m : Nat) : H d e (w.drewN m) base ok v xs i oki c := H_map h (fun _ _ _ h => Kd.H_drewN h m)
theorem H_open (h : H d e w base ok (.slice (some ⟨g, of_, none⟩) n cap) xs i oki c) : ∃ (m : Nat) (ys : List α), of_ = m * d.sz ∧ ys.length = m ∧ 0 ≤ i ∧ i < n ∧ n = xs.length ∧ Kd.H d e w base ok (.slice (some ⟨g, 0, none⟩) (m + n) (m + cap)) (ys ++ xs) ((m + i.toNat : Nat) : Int) oki c := by
  obtain ⟨g', m, n', cap', ys, hv, hm, h0, h1, hn, h⟩ := h
  injection hv with ha hn' hc
  injection ha with ha
  injection ha with hg ho
  subst hg; subst hc; subst hn'
  exact ⟨m, ys, ho, hm, h0, h1, hn, h⟩
theorem H_at (h : H d e W base ok (.slice (some ⟨g, of_, none⟩) n cap) xs i oki c) (h0 : 0 ≤ i) (h1 : i < n) : (∀ j u, c[j]? = some u → W.cell? ⟨g, of_ + i.toNat * d.sz + j, none⟩ = some u) ∧ ∀ j, W.frozen? ⟨g, of_ + i.toNat * d.sz + j, none⟩ = false := by
  obtain ⟨m, ys, rfl, hm, _, _, hn, h⟩ := H_open h
  obtain ⟨hcc, hfr⟩ := Kd.H_at h (by omega) (by omega)
  refine ⟨fun j u hu => ?_, fun j => ?_⟩
  · have := hcc j u hu
    rw [Int.toNat_natCast, Nat.add_mul] at this
    exact this
  · have := hfr j
    rw [Int.toNat_natCast, Nat.add_mul] at this
    exact this
theorem H_raw (h : H d e W base ok (.slice (some ⟨g, of_, none⟩) n cap) xs i oki c) (h0 : 0 ≤ i) (h1 : i < n) :
    ∃ (rows : List (List Value)) (cap' : Nat), (raw d.sz).R e W base (fun _ => True) (.slice (some ⟨g, 0, none⟩) rows.length cap') rows ∧ True ∧ True ∧ (∀ j u, c[j]? = some u → W.cell? ⟨g, of_ + i.toNat * d.sz + j, none⟩ = some u) ∧ True := by
  obtain ⟨hcc, _⟩ := H_at h h0 h1
  obtain ⟨m, ys, ho, hm, _, _, hn, h⟩ := H_open h
  obtain ⟨rows, hl, hraw, hcl, _⟩ := Kd.H_raw h (by omega) (by omega)
  have hrn := (R_reads' hraw).1
  exact ⟨rows, _, by rw [← hrn]; exact hraw, trivial, trivial, hcc, trivial⟩
theorem set_idx {m : Nat} {ys : List α} (hm : ys.length = m) (x : α) (q : Nat) : (ys ++ xs).set (m + q) x = ys ++ xs.set q x := by
  rw [List.set_append_right _ _ (by omega), hm, Nat.add_sub_cancel_left]
theorem S_seg {okg : Nat → Prop} (hH : H d e W base (fun k => ok k ∧ ¬ okg k) (.slice (some ⟨g, of_, none⟩) n cap) xs i oki c) (h0 : 0 ≤ i) (h1 : i < n) {seg : List Value} {j : Nat} (hj : j + seg.length ≤ d.sz)
    {x' : α} (hM : d.M W base okp x' (c.take j ++ seg ++ c.drop (j + seg.length))) (hokp : ∀ k, okp k → oki k ∨ okg k) (hg : ∀ k, okg k → ok k ∧ k ≠ g) :
    S d e (W.setCells g (of_ + i.toNat * d.sz + j) seg) base ok (.slice (some ⟨g, of_, none⟩) n cap) (xs.set i.toNat x') ∧ W.grownBy (W.setCells g (of_ + i.toNat * d.sz + j) seg) (some g) := by
  obtain ⟨m, ys, rfl, hm, _, _, hn, h⟩ := H_open hH
  obtain ⟨h2, h3⟩ := Kd.S_seg h (by omega) (by omega) hj hM hokp hg
  rw [Int.toNat_natCast, Nat.add_mul] at h2 h3
  rw [set_idx hm] at h2
  exact ⟨S_mk hm (by rw [List.length_set]; exact hn) h2, h3⟩
theorem S_seg0 (hH : H d e W base ok (.slice (some ⟨g, of_, none⟩) n cap) xs i oki c) (h0 : 0 ≤ i) (h1 : i < n) {seg : List Value} {j : Nat} (hj : j + seg.length ≤ d.sz)
    {x' : α} (hM : d.M W base okp x' (c.take j ++ seg ++ c.drop (j + seg.length))) (hokp : ∀ k, okp k → oki k) :
    S d e (W.setCells g (of_ + i.toNat * d.sz + j) seg) base ok (.slice (some ⟨g, of_, none⟩) n cap) (xs.set i.toNat x') ∧ W.grownBy (W.setCells g (of_ + i.toNat * d.sz + j) seg) (some g) := by
  obtain ⟨m, ys, rfl, hm, _, _, hn, h⟩ := H_open hH
  obtain ⟨h2, h3⟩ := Kd.S_seg0 h (by omega) (by omega) hj hM hokp
  rw [Int.toNat_natCast, Nat.add_mul] at h2 h3
  rw [set_idx hm] at h2
  exact ⟨S_mk hm (by rw [List.length_set]; exact hn) h2, h3⟩
end
section
variable {P : Program} {ops : Array Oper} {rest : List Oper} {o : Oper} {a : Act} {Q : Exit → Act → World → Prop} {Kc : Act → World → Prop} {α : Type}
theorem S_delete_step (d : Kd α) {w0 W : World} (base : Nat) (hw : Region.wanted o (yielded ops a.tmps) = true) (s x : Operand) (t e : TypeId) (ho : o.op = .call { callee := .builtin .append, args := #[s, x], argTypes := #[t, t] })
    (ht : P.underlying t = some (.slice e)) (hinfo : (P.info? e).map (·.size) = some d.sz) {g of_ n c k m c2 : Nat} {A : Option Addr} {xs : List α} {ok : Nat → Prop}
    (hs : a.eval s = .slice (some ⟨g, of_, none⟩) k c) (hx : a.eval x = .slice A m c2) (hA : A = if c = k + 1 then some ⟨g, of_, none⟩ else (some (⟨g, of_, none⟩ : Addr)).map (·.add ((k + 1) * d.sz))) (hm : m = n - (k + 1))
    (HO : S d e W base ok (.slice (some ⟨g, of_, none⟩) n c) xs) (hk : k < n) (HB : Below base w0 W) (hbase : base ≤ W.heap.size)
    (h : ∀ w1, S d e w1 base ok (.slice (some ⟨g, of_, none⟩) (n - 1) c) (xs.eraseIdx k) → Below base w0 w1 → W.grownBy w1 (some g) → Kc (a.put o.dst (.slice (some ⟨g, of_, none⟩) (n - 1) c)) w1) :
    if Region.wanted o (yielded ops a.tmps) = true then Oper.wp P o a W Kc Q else Kc (a.put o.dst undef) W := by
  obtain ⟨q, ys, rfl, hq, hn, HS⟩ := S_at HO
  exact SQ_delete_step d base hw s x t e ho ht hinfo hs hx hA hm hq HS hk HB hbase (fun w1 h1 h2 h3 => h w1 (S_mk hq (by rw [List.length_eraseIdx_of_lt (by omega)]; omega) h1) h2 h3)
end
section
variable {α : Type} {d : Kd α} {e g n cap : Nat} {w w1 W : World} {base : Nat} {ok ok' : Nat → Prop} {v u : Value} {xs : List α}
def N {α : Type} (d : Kd α) (e : Nat) (w : World) (base : Nat) (ok : Nat → Prop) (v : Value) (xs : List α) : Prop := S d e w base ok v xs
theorem S_N (h : S d e w base ok v xs) : N d e w base ok v xs := h
theorem N_alloc (h : N d e w base ok v xs) (o : Obj) : N d e (w.alloc o) base ok v xs := S_alloc h o
theorem N_drew (h : N d e w base ok v xs) : N d e w.drew base ok v xs := S_drew h
theorem N_drewN (h : N d e w base ok v xs) (m : Nat) : N d e (w.drewN m) base ok v xs := S_drewN h m
theorem N_below (h : N d e w base ok v xs) (hb : Below w.heap.size w w1) : N d e w1 base ok v xs := S_below h hb
theorem N_far (h : N d e w base ok v xs) {p : Addr} (hok : ∀ k, ok k → k ≠ p.block) (x : Value) : N d e (w.setCell p x) base ok v xs := S_far h hok x
theorem N_mono (h : N d e w base ok v xs) (hok : ∀ k, ok k → ok' k) : N d e w base ok' v xs := S_mono h hok
theorem N_lower {base' : Nat} (h : N d e w base ok v xs) (hb : base' ≤ base) : N d e w base' ok v xs := S_lower h hb
theorem N_lt (h : N d e w base ok v xs) : ∀ k, v.ownBlock = some k → k < w.heap.size := S_lt h
theorem N_base (h : N d e w base ok v xs) : ∀ k, v.ownBlock = some k → base ≤ k := S_base h
theorem N_elderB (h : N d e w base ok v xs) (a : Nat) (ha : w.heap.size ≤ a) : N d e w base (fun k => ok k ∧ k ≠ a) v xs := S_elderB h a ha
theorem N_elder' (h : N d e W base ok v xs) (hbase : ∀ k, u.ownBlock = some k → W.heap.size ≤ k) (hb : Below W.heap.size W w1) : N d e w1 base (fun k => ok k ∧ some k ≠ u.ownBlock) v xs := S_elder' h hbase hb
theorem N_reads' {A : Option Addr} {n c : Nat} (h : N d e w base ok (.slice A n c) xs) : n = xs.length ∧ n ≤ c ∧ d.C w A xs.length xs := S_reads' h
theorem N_slice (h : N d e w base ok v xs) : ∃ A c, v = .slice A xs.length c := S_slice h
theorem N_get {ad : Addr} (h : N d e W base ok (.slice (some ad) n cap) xs) (z : α) (i : Int) (h0 : 0 ≤ i) (h1 : i < n) :
    ∃ c, c.length = d.sz ∧ FK d W (fun k => ok k ∧ some k ≠ (Value.slice (some ad) n cap).ownBlock) (xs.getD i.toNat z) c ∧ ∀ j u, c[j]? = some u → W.cell? (ad.add (i.toNat * d.sz + j)) = some u := by
  obtain ⟨g, of_, rfl⟩ : ∃ g of_, ad = ⟨g, of_, none⟩ := by
    rcases h with h | ⟨g, m, cap', ys, hv, _⟩
    · obtain ⟨g, rfl⟩ := R_head (S_R h)
      exact ⟨g, 0, rfl⟩
    · injection hv with ha _ _
      injection ha with ha
      exact ⟨g, _, ha⟩
  obtain ⟨c, hcl, hM, hcc⟩ := S_get h z i h0 h1
  exact ⟨c, hcl, FK_of_M hM, hcc⟩
end
end KQ
end Go.Proofs.Ytjaamflffmhicaa.Sq
