/- Rows of one's own that begin somewhere inside their block, their elements' rows apart; elements taken out of them. No condition. -/
import Derived.Test.YtmknnoeggkgkgaaVFnBitsMore
import Derived.Lib.SliceRun
import Derived.WalkKit
import Derived.RowKit
namespace Go.Proofs.Ytmknnoeggkgkgaa.Sq
open Go.RowKit Go.Proofs.YtmknnoeggkgkgaaW.PrintWords Go.Proofs.YtmknnoeggkgkgaaW.PrintLast Go.Proofs.YtmknnoeggkgkgaaW.PrintMore
open Go.Proofs.YtmknnoeggkgkgaaW.PrintWords.Kd
set_option linter.unusedVariables false

/-- As Kd.S; or the row is the end of such a row, from element m on. -/
def SQ {α : Type} (d : Kd α) (e : Nat) (w : World) (base : Nat) (ok : Nat → Prop) (v : Value) (xs : List α) : Prop :=
  Kd.S d e w base ok v xs ∨ ∃ (g m cap : Nat) (ys : List α), v = .slice (some ⟨g, m * d.sz, none⟩) xs.length cap ∧ ys.length = m ∧ Kd.S d e w base ok (.slice (some ⟨g, 0, none⟩) (m + xs.length) (m + cap)) (ys ++ xs)
section
variable {α : Type} {d : Kd α} {e : Nat} {w w1 W : World} {base base' : Nat} {ok ok' : Nat → Prop} {v : Value} {xs : List α}
theorem SQ_of (h : Kd.S d e w base ok v xs) : SQ d e w base ok v xs := .inl h
theorem SQ_imp (h : SQ d e w base ok v xs) (hi : ∀ u zs, Kd.S d e w base ok u zs → Kd.S d e w1 base' ok' u zs) : SQ d e w1 base' ok' v xs := by
  rcases h with h | ⟨g, m, cap, ys, hv, hm, h⟩
  · exact .inl (hi _ _ h)
  · exact .inr ⟨g, m, cap, ys, hv, hm, hi _ _ h⟩
theorem SQ_mono (h : SQ d e w base ok v xs) (hok : ∀ k, ok k → ok' k) : SQ d e w base ok' v xs := SQ_imp h (fun _ _ h => S_mono h hok)
theorem SQ_lower (h : SQ d e w base ok v xs) (hb : base' ≤ base) : SQ d e w base' ok v xs := SQ_imp h (fun _ _ h => S_lower h hb)
theorem SQ_step (h : SQ d e w base ok v xs) (hm : ∀ k, ok k → k < w.heap.size → w1.heap[k]? = w.heap[k]?) : SQ d e w1 base ok v xs := SQ_imp h (fun _ _ h => S_step h hm)
theorem SQ_below (h : SQ d e w base ok v xs) (hb : Below w.heap.size w w1) : SQ d e w1 base ok v xs := SQ_imp h (fun _ _ h => S_below h hb)
theorem SQ_alloc (h : SQ d e w base ok v xs) (o : Obj) : SQ d e (w.alloc o) base ok v xs := SQ_imp h (fun _ _ h => S_alloc h o)
theorem SQ_drew (h : SQ d e w base ok v xs) : SQ d e w.drew base ok v xs := SQ_imp h (fun _ _ h => S_drew h)
theorem SQ_drewN (h : SQ d e w base ok v xs) (m : Nat) : SQ d e (w.drewN m) base ok v xs := SQ_imp h (fun _ _ h => S_drewN h m)
theorem SQ_far (h : SQ d e w base ok v xs) {p : Addr} (hok : ∀ k, ok k → k ≠ p.block) (u : Value) : SQ d e (w.setCell p u) base ok v xs := SQ_imp h (fun _ _ h => S_far h hok u)
theorem SQ_types (h : SQ d e w base ok v xs) {g t : Nat} {cells : Array Value} (hb : w.heap[g]? = some (.cells cells t (0, 0))) (ht : ∀ q, q ∈ e :: d.E → q ≠ t) : SQ d e w base (fun k => ok k ∧ k ≠ g) v xs := SQ_imp h (fun _ _ h => S_types h hb ht)
theorem SQ_bound (h : SQ d e w base ok v xs) : SQ d e w base (fun k => ok k ∧ base ≤ k ∧ k < w.heap.size ∧ ∃ q, q ∈ e :: d.E ∧ ∃ cells, w.heap[k]? = some (.cells cells q (0, 0))) v xs := SQ_imp h (fun _ _ h => S_bound h)
/-- Its elements, as those of the row that it ends. -/
theorem SQ_open (h : SQ d e w base ok v xs) (hp : 0 < xs.length) : ∃ (g m cap : Nat) (ys : List α), v = .slice (some ⟨g, m * d.sz, none⟩) xs.length cap ∧ ys.length = m ∧ Kd.S d e w base ok (.slice (some ⟨g, 0, none⟩) (m + xs.length) (m + cap)) (ys ++ xs) := by
  rcases h with h | h
  · obtain ⟨g, cap, rfl, _⟩ := S_form h hp
    exact ⟨g, 0, cap, [], by rw [Nat.zero_mul], rfl, by rw [Nat.zero_add, Nat.zero_add]; exact h⟩
  · exact h
theorem SQ_back {g m cap n : Nat} {ys : List α} (hm : ys.length = m) (h : Kd.S d e w base ok (.slice (some ⟨g, 0, none⟩) (m + xs.length) (m + cap)) (ys ++ xs)) (hn : n = xs.length) : SQ d e w base ok (.slice (some ⟨g, m * d.sz, none⟩) n cap) xs := .inr ⟨g, m, cap, ys, by rw [hn], hm, h⟩
theorem SQ_slice (h : SQ d e w base ok v xs) : ∃ A c, v = .slice A xs.length c := by
  rcases h with h | ⟨g, m, cap, ys, hv, _⟩
  · exact S_slice h
  · exact ⟨_, _, hv⟩
/-- The end of a row that is read. -/
theorem C_tail {g m n : Nat} {zs ys : List α} (hm : ys.length = m) (h : d.C w (some ⟨g, 0, none⟩) n (ys ++ xs)) : d.C w (some ⟨g, m * d.sz, none⟩) xs.length xs := by
  obtain ⟨h1, h2, h3⟩ := h
  rw [List.length_append] at h1
  refine ⟨rfl, by omega, fun hp => ?_⟩
  obtain ⟨ad, he, hc⟩ := h3 (by omega)
  injection he with he
  subst he
  refine ⟨_, rfl, fun j p hj => ?_⟩
  obtain ⟨c, hs, hr, hcell⟩ := hc (m + j) p (by rw [List.getElem?_append_right (by omega), hm, Nat.add_sub_cancel_left]; exact hj)
  refine ⟨c, hs, hr, fun i u hu => ?_⟩
  have := hcell i u hu
  rw [add_at, Nat.zero_add, Nat.add_mul, Nat.add_assoc] at this
  rw [add_at]
  exact this
theorem SQ_reads' {A : Option Addr} {n c : Nat} (h : SQ d e w base ok (.slice A n c) xs) : n = xs.length ∧ n ≤ c ∧ d.C w A xs.length xs := by
  rcases h with h | ⟨g, m, cap, ys, hv, hm, h⟩
  · exact S_reads' h
  · injection hv with ha hn hc
    subst ha; subst hn; subst hc
    obtain ⟨h1, h2, h3⟩ := S_reads' h
    exact ⟨rfl, by omega, C_tail (zs := []) hm h3⟩
theorem SQ_reads (h : SQ d e w base ok v xs) : ∃ A c, v = .slice A xs.length c ∧ xs.length ≤ c ∧ d.C w A xs.length xs := by
  obtain ⟨A, c, rfl⟩ := SQ_slice h
  exact ⟨A, c, rfl, (SQ_reads' h).2⟩
/-- xs[j:] -/
theorem SQ_drop {A : Option Addr} {n c j : Nat} (h : Kd.S d e w base ok (.slice A n c) xs) (hj : j < xs.length) (hs : 0 < d.sz) : SQ d e w base ok (.slice (if c = j then A else A.map (·.add (j * d.sz))) (n - j) (c - j)) (xs.drop j) := by
  obtain ⟨g, cap, hv, _⟩ := S_form h (by omega)
  injection hv with ha hn hc
  subst ha; subst hc; subst hn
  have hle := (S_reads' h).2.1
  rw [if_neg (by omega), Option.map_some, add_plain]
  refine .inr ⟨g, j, c - j, xs.take j, by rw [List.length_drop], by rw [List.length_take]; omega, ?_⟩
  rw [List.length_drop, List.take_append_drop, show j + (xs.length - j) = xs.length by omega, show j + (c - j) = c by omega]
  exact h
/-- An element taken out of the end of a row, in place. -/
theorem R_delete_off {P : Program} (d : Kd α) {W : World} (base : Nat) (t ty e : TypeId) (i : TypeInfo) (ht : P.underlying t = some (.slice e)) (hi : P.info? e = some i) (hsz : i.size = d.sz)
    {g n m c k : Nat} {xs : List α} {ok : Nat → Prop} (HO : d.R e W base ok (.slice (some ⟨g, 0, none⟩) (m + n) (m + c)) xs) (hk : k < n) {A : Option Addr} (hA : A = if c = k + 1 then some ⟨g, m * d.sz, none⟩ else (some (⟨g, m * d.sz, none⟩ : Addr)).map (·.add ((k + 1) * d.sz))) (c2 : Nat) :
    ∃ w1, (Builtin.append_ #[t, t] ty #[.slice (some ⟨g, m * d.sz, none⟩) k c, .slice A (n - (k + 1)) c2]).run P W = .ok (.slice (some ⟨g, m * d.sz, none⟩) (n - 1) c) w1 ∧ d.R e w1 base ok (.slice (some ⟨g, 0, none⟩) (m + (n - 1)) (m + c)) (xs.eraseIdx (m + k)) ∧ W.grownBy w1 (some g) := by
  obtain ⟨hn, hnc, _⟩ := R_reads' HO
  obtain ⟨hok, inner, hown, hr⟩ := HO
  have hin : inner.length = (m + n) * d.sz := by rw [hr.1, hn]
  rcases hown.2 with ⟨hv, _⟩ | ⟨g', cap', cur, hv, hb, hh, _, hcm, hcs, htake⟩
  · cases hv
  injection hv with ha _ hc
  injection ha with ha
  injection ha with hg
  subst hg; subst hc
  rw [← hn] at htake
  obtain ⟨news, hnews⟩ : ∃ news, news = inner.drop ((m + k + 1) * d.sz) := ⟨_, rfl⟩
  have hnl : news.length = (n - (k + 1)) * d.sz := by rw [hnews, List.length_drop, hin, ← Nat.sub_mul]; congr 1; omega
  have hle : (m + k + 1) * d.sz ≤ (m + n) * d.sz := Nat.mul_le_mul_right _ (by omega)
  have hks : (m + k + 1) * d.sz = m * d.sz + k * d.sz + d.sz := by rw [Nat.succ_mul, Nat.add_mul]
  have hk1 : (k + 1) * d.sz = k * d.sz + d.sz := Nat.succ_mul _ _
  have hnc' : (m + n) * d.sz ≤ (m + c) * d.sz := Nat.mul_le_mul_right _ hnc
  have hsub : (n - (k + 1)) * d.sz = (m + n) * d.sz - (m + k + 1) * d.sz := by rw [← Nat.sub_mul]; congr 1; omega
  have hcur : ∀ q, q < (m + n) * d.sz → cur.toList[q]? = inner[q]? := by
    intro q hq
    rw [← htake, List.getElem?_take, if_pos hq]
  obtain ⟨a, rfl, hcell⟩ : ∃ a, A = some a ∧ ∀ j u, news[j]? = some u → W.cell? (a.add j) = some u := by
    by_cases hck : c = k + 1
    · rw [if_pos hck] at hA
      refine ⟨_, hA, fun j u hu => ?_⟩
      have h0 : news = [] := List.eq_nil_of_length_eq_zero (by rw [hnl, show n - (k + 1) = 0 by omega, Nat.zero_mul])
      rw [h0] at hu
      simp at hu
    · rw [if_neg hck, Option.map_some] at hA
      refine ⟨_, hA, fun j u hu => ?_⟩
      have hj : j < news.length := (List.getElem?_eq_some_iff.1 hu).1
      rw [add_add, add_at, cell_of_row W g _ cur e (0, 0) hh, ← Array.getElem?_toList]
      rw [hnews, List.getElem?_drop] at hu
      rw [← hu, show m * d.sz + ((k + 1) * d.sz + j) = (m + k + 1) * d.sz + j by omega]
      exact hcur _ (by omega)
  have hone : ∀ u ∈ news, u.oneCell' = true := by
    intro u hu
    have hu' : u ∈ inner := by rw [hnews] at hu; exact List.mem_of_mem_drop hu
    obtain ⟨q, hq, rfl⟩ := List.mem_iff_getElem.1 hu'
    have hs0 : 0 < d.sz := by
      rcases Nat.eq_zero_or_pos d.sz with h | h
      · rw [h, Nat.mul_zero] at hin; omega
      · exact h
    have hql : q / d.sz < xs.length := by
      rw [Nat.div_lt_iff_lt_mul hs0, ← hr.1]
      exact hq
    refine d.K_one (d.K_of_M (hr.2 (q / d.sz) _ (List.getElem?_eq_getElem hql))) _ ?_
    rw [List.mem_iff_getElem?]
    refine ⟨q % d.sz, ?_⟩
    rw [List.getElem?_take, if_pos (Nat.mod_lt _ hs0), List.getElem?_drop, Nat.mul_comm, Nat.div_add_mod, List.getElem?_eq_getElem hq]
  have hfit : m * d.sz + k * d.sz + news.length ≤ cur.size := by omega
  have hrun := run_append_room_cells (P := P) (w := W) t ty e i ht hi g (m * d.sz) k c a (n - (k + 1)) c2 news (by rw [hnl, hsz]) hcell hone (by omega)
    (fun j hj => by rw [hsz, cell_of_row W g _ cur e (0, 0) hh]; simp; omega) (fun j _ => blk_frozen hh _)
  rw [hsz, show k + (n - (k + 1)) = n - 1 by omega] at hrun
  obtain ⟨cur', h3, h4, h5⟩ := setCells_row news (m * d.sz + k * d.sz) W cur hh hfit
  obtain ⟨s1, s2, s3, s4⟩ := setCells_same g news (m * d.sz + k * d.sz) W
  have hfar : ∀ k', k' ≠ g → (W.setCells g (m * d.sz + k * d.sz) news).heap[k']? = W.heap[k']? := fun k' hk' => setCells_far news _ k' hk'
  have hgo : ∀ m', some g = (Value.slice (some ⟨g, 0, none⟩) m' (m + c)).ownBlock := fun m' => by simp [Value.ownBlock]
  have hel : (xs.eraseIdx (m + k)).length = m + (n - 1) := by rw [List.length_eraseIdx_of_lt (by omega)]; omega
  refine ⟨_, hrun, ⟨fun k' hk' => hok k' (by rw [← hgo] at hk' ⊢; exact hk'), inner.take ((m + k) * d.sz) ++ news, ⟨?_, .inr ⟨g, m + c, cur', by rw [hel], hb, h3, by rw [hel]; omega, hcm, by rw [h4, hcs], ?_⟩⟩, ?_⟩, ⟨s1, s2, s3, by rw [s4]; exact Nat.le_refl _, fun k' _ hk' => hfar k' (fun he => hk' (by rw [he]))⟩⟩
  · rw [List.length_append, List.length_take, hnl, hel]
    have : (m + (n - 1)) * d.sz = (m + n) * d.sz - d.sz := by rw [show m + (n - 1) = (m + n) - 1 by omega, Nat.sub_mul, Nat.one_mul]
    have : (m + k) * d.sz = m * d.sz + k * d.sz := Nat.add_mul _ _ _
    omega
  · rw [hel, h5]
    have h6 : (m + (n - 1)) * d.sz = (m + n) * d.sz - d.sz := by rw [show m + (n - 1) = (m + n) - 1 by omega, Nat.sub_mul, Nat.one_mul]
    have h8 : (m + k) * d.sz = m * d.sz + k * d.sz := Nat.add_mul _ _ _
    have h7 : cur.toList.take (m * d.sz + k * d.sz) = inner.take ((m + k) * d.sz) := by
      rw [← htake, List.take_take, Nat.min_eq_left (by omega), h8]
    rw [h7]
    exact List.take_left' (by rw [List.length_append, List.length_take, hnl]; omega)
  · rw [List.eraseIdx_eq_take_drop_succ]
    have hmv : ∀ p q, d.M W base (fun k' => ok k' ∧ some k' ≠ (Value.slice (some ⟨g, 0, none⟩) (m + n) (m + c)).ownBlock) p q → d.M (W.setCells g (m * d.sz + k * d.sz) news) base (fun k' => ok k' ∧ some k' ≠ (Value.slice (some ⟨g, 0, none⟩) (m + (n - 1)) (m + c)).ownBlock) p q := fun p q hp =>
      d.M_mono (fun k' hk' => ⟨hk'.1, by rw [← hgo]; rw [← hgo] at hk'; exact hk'.2⟩) (d.M_move (fun k' hk' => hfar k' (fun he => hk'.2 (by rw [← hgo, he]))) hp)
    subst hnews
    exact reps_append ((reps_take hr (by omega)).imp_ hmv) ((reps_drop hr).imp_ hmv)
section
variable {P : Program} {ops : Array Oper} {rest : List Oper} {o : Oper} {a : Act} {Q : Exit → Act → World → Prop} {Kc : Act → World → Prop}
theorem SQ_delete_step (d : Kd α) {w0 W : World} (base : Nat) (hw : Region.wanted o (yielded ops a.tmps) = true) (s x : Operand) (t e : TypeId) (ho : o.op = .call { callee := .builtin .append, args := #[s, x], argTypes := #[t, t] })
    (ht : P.underlying t = some (.slice e)) (hinfo : (P.info? e).map (·.size) = some d.sz) {g n c k m m2 c2 : Nat} {A : Option Addr} {xs ys : List α} {ok : Nat → Prop}
    (hs : a.eval s = .slice (some ⟨g, m * d.sz, none⟩) k c) (hx : a.eval x = .slice A m2 c2) (hA : A = if c = k + 1 then some ⟨g, m * d.sz, none⟩ else (some (⟨g, m * d.sz, none⟩ : Addr)).map (·.add ((k + 1) * d.sz))) (hm : m2 = n - (k + 1))
    (hy : ys.length = m) (HO : Kd.S d e W base ok (.slice (some ⟨g, 0, none⟩) (m + n) (m + c)) (ys ++ xs)) (hk : k < n) (HB : Below base w0 W) (hbase : base ≤ W.heap.size)
    (h : ∀ w1, Kd.S d e w1 base ok (.slice (some ⟨g, 0, none⟩) (m + (n - 1)) (m + c)) (ys ++ xs.eraseIdx k) → Below base w0 w1 → W.grownBy w1 (some g) → Kc (a.put o.dst (.slice (some ⟨g, m * d.sz, none⟩) (n - 1) c)) w1) :
    if Region.wanted o (yielded ops a.tmps) = true then Oper.wp P o a W Kc Q else Kc (a.put o.dst undef) W := by
  obtain ⟨f, HR⟩ := HO
  obtain ⟨i0, hi, hsz⟩ := Option.map_eq_some_iff.1 hinfo
  subst hm
  obtain ⟨w1, hr, h1, h2⟩ := R_delete_off (P := P) (tag f d) base t o.type e i0 ht hi hsz HR hk hA c2
  rw [if_pos hw]
  unfold Oper.wp execOp
  simp only [ho, resolve, invoke, builtin, Sem.run_bind, Sem.run_pure, Result.andThen_ok, List.map_toArray, List.map_cons, List.map_nil, hs, hx]
  have hr' : (Builtin.append_ #[t, t] o.type #[.slice (some ⟨g, m * d.sz, none⟩) k c, .slice A (n - (k + 1)) c2]).run P W = .ok (.slice (some ⟨g, m * d.sz, none⟩) (n - 1) c) w1 := hr
  rw [hr']
  refine h w1 ?_ (HB.grown h2 hbase (fun k hk => by injection hk with hk; subst hk; exact R_base HR _ (by simp [Value.ownBlock]))) h2
  have h3 := S_erase h1
  rwa [List.eraseIdx_append_of_length_le (by omega), hy, Nat.add_sub_cancel_left] at h3
end
end
/-! ### Elements kept in place: what slices.DeleteFunc does -/
section
variable {α : Type} {d : Kd α} {e : Nat} {w w1 W : World} {base : Nat} {ok : Nat → Prop} {xs : List α} {g n cap : Nat}
/-- The row's cells, element by element, and what they lead to. -/
theorem S_rows (h : Kd.S d e W base ok (.slice (some ⟨g, 0, none⟩) n cap) xs) :
    ∃ (f : Nat → Nat) (rows : List (List Value)), rows.length = xs.length ∧ (raw d.sz).R e W base (fun k => k = g) (.slice (some ⟨g, 0, none⟩) n cap) rows ∧ ok g ∧ ∀ (j : Nat) (x : α) (c : List Value), xs[j]? = some x → rows[j]? = some c → d.M W base (fun k => (ok k ∧ k ≠ g) ∧ f k = j) x c := by
  obtain ⟨f, h0, inner, ho, hr⟩ := h
  rw [List.length_zipIdx] at ho
  have hgo : (Value.slice (some ⟨g, 0, none⟩) n cap).ownBlock = some g := by simp [Value.ownBlock]
  have hin : inner.length = xs.length * d.sz := by have := hr.1; rwa [List.length_zipIdx] at this
  refine ⟨f, chunks d.sz xs.length inner, chunks_length _ _ _, ⟨fun k hk => by rw [hgo] at hk; injection hk with hk; exact hk.symm, inner, by rw [chunks_length]; exact ho, ?_⟩, h0 g hgo, fun j x c hx hc => ?_⟩
  · have := reps_raw hr (fun x c hp => ⟨(tag f d).K_len ((tag f d).K_of_M hp), (tag f d).K_one ((tag f d).K_of_M hp)⟩)
    rw [List.length_zipIdx] at this
    exact this
  · rw [chunks_get hc]
    refine d.M_mono (fun k hk => ⟨⟨hk.1.1, fun he => hk.1.2 (by rw [he, hgo])⟩, hk.2⟩) (hr.2 j (x, j) (zip_at hx))
/-- Some of the elements (s: which, each once) as a row. -/
theorem S_kept {f : Nat → Nat} {rows rows' : List (List Value)} {s : List Nat} {xs' : List α} {okr : Nat → Prop} (hok : ok g) (hM : ∀ (j : Nat) (x : α) (c : List Value), xs[j]? = some x → rows[j]? = some c → d.M W base (fun k => (ok k ∧ k ≠ g) ∧ f k = j) x c)
    (hlr : rows.length = xs.length) (hmv : ∀ k, k < W.heap.size → k ≠ g → w1.heap[k]? = W.heap[k]?) (hs : s.Nodup) (hl : xs'.length = s.length) (hl' : rows'.length = s.length) (hx : ∀ (j m : Nat), s[j]? = some m → m < xs.length ∧ xs'[j]? = xs[m]? ∧ rows'[j]? = rows[m]?)
    (hR : (raw d.sz).R e w1 base okr (.slice (some ⟨g, 0, none⟩) s.length cap) rows') : Kd.S d e w1 base ok (.slice (some ⟨g, 0, none⟩) s.length cap) xs' := by
  obtain ⟨_, inner, ho, hr⟩ := hR
  have hgo : (Value.slice (some ⟨g, 0, none⟩) s.length cap).ownBlock = some g := by simp [Value.ownBlock]
  rw [hl'] at ho
  refine ⟨fun k => s.idxOf (f k), fun k hk => by rw [hgo] at hk; injection hk with hk; exact hk ▸ hok, inner, by rw [List.length_zipIdx, hl]; exact ho, by rw [List.length_zipIdx, hl, ← hl']; exact hr.1, fun j p hj => ?_⟩
  rw [List.getElem?_zipIdx, Nat.zero_add] at hj
  obtain ⟨x, hx', rfl⟩ := Option.map_eq_some_iff.1 hj
  have hjl : j < s.length := by rw [← hl]; exact (List.getElem?_eq_some_iff.1 hx').1
  obtain ⟨hm, h1, h2⟩ := hx j s[j] (List.getElem?_eq_getElem hjl)
  rw [h1] at hx'
  have hrj : rows[s[j]]? = some rows[s[j]] := List.getElem?_eq_getElem (by omega)
  have hch := hr.2 j _ (h2.trans hrj)
  have hc : (inner.drop (j * d.sz)).take d.sz = rows[s[j]] := hch.1
  have hold := hM s[j] x _ hx' hrj
  show d.M w1 base _ x ((inner.drop (j * d.sz)).take d.sz)
  rw [hc]
  refine d.M_mono (fun k hk => ⟨⟨hk.1.1.1, fun he => hk.1.1.2 (by rw [hgo] at he; injection he)⟩, ?_⟩) (d.M_move (fun k hk => hmv k hk.2.2.1 hk.1.1.2) (d.M_bound hold))
  show s.idxOf (f k) = j
  rw [hk.1.2]
  exact List.Nodup.idxOf_getElem hs j hjl
/-- Cells behind the row's last element are written: the row stays. -/
theorem raw_tail {sz : Nat} {rows : List (List Value)} {m : Nat} (h : (raw sz).R e W base ok (.slice (some ⟨g, 0, none⟩) n cap) rows) (hm : m ≤ n) (vs : List Value) (hv : m * sz + vs.length ≤ n * sz) :
    (raw sz).R e (W.setCells g (m * sz) vs) base ok (.slice (some ⟨g, 0, none⟩) m cap) (rows.take m) ∧ W.grownBy (W.setCells g (m * sz) vs) (some g) := by
  have hn := (R_reads' h).1
  have h2 := R_take h (m := m) (by omega)
  obtain ⟨h0, inner, ho, hr⟩ := h2
  obtain ⟨s1, s2, s3, s4⟩ := setCells_same g vs (m * sz) W
  have hfar : ∀ k', k' ≠ g → (W.setCells g (m * sz) vs).heap[k']? = W.heap[k']? := fun k' hk' => setCells_far vs _ k' hk'
  refine ⟨⟨h0, inner, ?_, hr⟩, ⟨s1, s2, s3, by rw [s4]; exact Nat.le_refl _, fun k' _ hk' => hfar k' (fun he => hk' (by rw [he]))⟩⟩
  refine ⟨ho.1, ?_⟩
  rcases ho.2 with ⟨hv', _⟩ | ⟨g', cap', cur, hv', hb, hh, hnc, hcm, hcs, ht⟩
  · cases hv'
  · injection hv' with ha hn' hc
    injection ha with ha
    injection ha with hg
    subst hg; subst hc
    have hnc0 := (R_reads' h).2.1
    have hle : n * sz ≤ cap * sz := Nat.mul_le_mul_right _ hnc0
    have hsz : cur.size = cap * sz := hcs
    obtain ⟨cur', h3, h4, h5⟩ := setCells_row vs (m * sz) W cur hh (by omega)
    refine .inr ⟨g, cap, cur', by rw [← hn'], hb, h3, hnc, hcm, by rw [h4]; exact hcs, ?_⟩
    rw [← ht, ← hn', h5]
    have hml : (cur.toList.take (m * sz)).length = m * sz := by rw [List.length_take, Array.length_toList]; omega
    rw [List.append_assoc]
    exact List.take_left' hml
theorem raw_cells {sz : Nat} {rows : List (List Value)} (h : (raw sz).R e W base ok (.slice (some ⟨g, 0, none⟩) n cap) rows) (q : Nat) (hq : q < n * sz) : (W.cell? ⟨g, q, none⟩).isSome = true ∧ W.frozen? ⟨g, q, none⟩ = false := by
  have hn := (R_reads' h).1
  have hnc := (R_reads' h).2.1
  obtain ⟨inner, ho⟩ := R_own h
  rcases ho.2 with ⟨hv', _⟩ | ⟨g', cap', cur, hv', hb, hh, _, hcm, hcs, ht⟩
  · cases hv'
  · injection hv' with ha hn' hc
    injection ha with ha
    injection ha with hg
    subst hg; subst hc
    have hle : n * sz ≤ cap * sz := Nat.mul_le_mul_right _ hnc
    have hsz : cur.size = cap * sz := hcs
    refine ⟨?_, blk_frozen hh q⟩
    rw [blk_cell hh q, Array.getElem?_eq_getElem (by omega)]
    rfl
/-- 'clear(s)': n > 0 elements of several cells. -/
theorem run_clear_rows {P : Program} (w : World) (t e : TypeId) (z : Value) (ht : P.underlying t = some (.slice e)) (hv : ∀ w, (zeroValue e).run P w = .ok z w) (h1 : ∀ u ∈ z.cells, u.oneCell' = true) (b o n c : Nat) (hn : 0 < n)
    (hc : ∀ j, j < n * z.cells.size → (w.cell? ⟨b, o + j, none⟩).isSome = true) (hf : ∀ j, j < n * z.cells.size → w.frozen? ⟨b, o + j, none⟩ = false) :
    ∃ vs : List Value, vs.length = n * z.cells.size ∧ ∀ ty : TypeId, (Builtin.clear_ #[t] ty #[.slice (some ⟨b, o, none⟩) n c]).run P w = .ok (.tuple #[]) (w.setCells b o vs) := by
  have hlen : (Builtin.zeroCells z.cells n).toList.length = n * z.cells.size := by simp [Builtin.zeroCells]
  have hst := run_storeCells_cells (P := P) b o (Builtin.zeroCells z.cells n).toList 0 w (by rw [hlen]; simpa using hc) (by rw [hlen]; simpa using hf) (by
    intro v hv'
    simp only [Builtin.zeroCells, Array.toList_map, List.mem_map, Array.mem_toList_iff, Array.mem_range] at hv'
    obtain ⟨i, hi, rfl⟩ := hv'
    have hp : 0 < z.cells.size := by rcases Nat.eq_zero_or_pos z.cells.size with h | h; (rw [h, Nat.mul_zero] at hi; omega); exact h
    have hm := Nat.mod_lt i hp
    rw [getElem!_pos z.cells _ hm]
    exact h1 _ (Array.getElem_mem hm))
  simp only [Nat.add_zero] at hst
  refine ⟨_, hlen, fun ty => ?_⟩
  obtain ⟨m, rfl⟩ : ∃ m, n = m + 1 := ⟨n - 1, by omega⟩
  simp [Builtin.clear_, run_underlying ht, hv, hst]
end
/-- A row of cells, six to an element: an element's cells, and none is frozen. -/
theorem raw6_at {e : Nat} {w : World} {base : Nat} {ok : Nat → Prop} {g n cap : Nat} {rows : List (List Value)} {v0 v1 v2 v3 v4 v5 : Value} (h : (raw 6).R e w base ok (.slice (some ⟨g, 0, none⟩) n cap) rows) (i : Int) (h0 : 0 ≤ i) (h1 : i < n) (hr : rows[i.toNat]? = some [v0, v1, v2, v3, v4, v5]) :
    (w.cell? ⟨g, i.toNat * 6, none⟩ = some v0 ∧ w.cell? ⟨g, i.toNat * 6 + 1, none⟩ = some v1 ∧ w.cell? ⟨g, i.toNat * 6 + 2, none⟩ = some v2 ∧ w.cell? ⟨g, i.toNat * 6 + 3, none⟩ = some v3 ∧ w.cell? ⟨g, i.toNat * 6 + 4, none⟩ = some v4 ∧ w.cell? ⟨g, i.toNat * 6 + 5, none⟩ = some v5) ∧
    (w.frozen? ⟨g, i.toNat * 6, none⟩ = false ∧ w.frozen? ⟨g, i.toNat * 6 + 1, none⟩ = false ∧ w.frozen? ⟨g, i.toNat * 6 + 2, none⟩ = false ∧ w.frozen? ⟨g, i.toNat * 6 + 3, none⟩ = false ∧ w.frozen? ⟨g, i.toNat * 6 + 4, none⟩ = false ∧ w.frozen? ⟨g, i.toNat * 6 + 5, none⟩ = false) := by
  obtain ⟨c, hcl, hM, hcc, hfr⟩ := R_elem h [] i h0 h1
  have hc : c = [v0, v1, v2, v3, v4, v5] := by
    have := hM.1
    rw [List.getD_eq_getElem?_getD, hr] at this
    exact this
  subst hc
  exact ⟨⟨hcc 0 _ rfl, hcc 1 _ rfl, hcc 2 _ rfl, hcc 3 _ rfl, hcc 4 _ rfl, hcc 5 _ rfl⟩, ⟨hfr 0, hfr 1, hfr 2, hfr 3, hfr 4, hfr 5⟩⟩
theorem raw6_some {e : Nat} {w : World} {base : Nat} {ok : Nat → Prop} {g n cap : Nat} {rows : List (List Value)} (h : (raw 6).R e w base ok (.slice (some ⟨g, 0, none⟩) n cap) rows) (i : Int) (h0 : 0 ≤ i) (h1 : i < n) : ∃ v0 v1 v2 v3 v4 v5, rows[i.toNat]? = some [v0, v1, v2, v3, v4, v5] := by
  obtain ⟨c, hcl, hM, hcc, hfr⟩ := R_elem h [] i h0 h1
  have hn := (R_reads' h).1
  have hl : i.toNat < rows.length := by omega
  have he : c = rows[i.toNat] := by
    have := hM.1
    rw [List.getD_eq_getElem?_getD, List.getElem?_eq_getElem hl] at this
    exact this
  have hcl6 : c.length = 6 := hcl
  rw [List.getElem?_eq_getElem hl, ← he]
  match c, hcl6 with
  | [a, b, c, d, e, f], _ => exact ⟨a, b, c, d, e, f, rfl⟩
theorem raw6_put {e : Nat} {w : World} {base : Nat} {ok : Nat → Prop} {g n cap : Nat} {rows : List (List Value)} (h : (raw 6).R e w base ok (.slice (some ⟨g, 0, none⟩) n cap) rows) (i : Int) (h0 : 0 ≤ i) (h1 : i < n) (v0 v1 v2 v3 v4 v5 : Value) (hone : ∀ u ∈ [v0, v1, v2, v3, v4, v5], u.oneCell' = true) :
    (raw 6).R e ((((((w.setCell ⟨g, i.toNat * 6, none⟩ v0).setCell ⟨g, i.toNat * 6 + 1, none⟩ v1).setCell ⟨g, i.toNat * 6 + 2, none⟩ v2).setCell ⟨g, i.toNat * 6 + 3, none⟩ v3).setCell ⟨g, i.toNat * 6 + 4, none⟩ v4).setCell ⟨g, i.toNat * 6 + 5, none⟩ v5) base ok (.slice (some ⟨g, 0, none⟩) n cap) (rows.set i.toNat [v0, v1, v2, v3, v4, v5]) ∧
    w.grownBy ((((((w.setCell ⟨g, i.toNat * 6, none⟩ v0).setCell ⟨g, i.toNat * 6 + 1, none⟩ v1).setCell ⟨g, i.toNat * 6 + 2, none⟩ v2).setCell ⟨g, i.toNat * 6 + 3, none⟩ v3).setCell ⟨g, i.toNat * 6 + 4, none⟩ v4).setCell ⟨g, i.toNat * 6 + 5, none⟩ v5) (some g) := by
  obtain ⟨c, hcl, hM, hcc, hfr⟩ := R_elem h [] i h0 h1
  have hcl6 : c.length = 6 := hcl
  exact R_seg (seg := [v0, v1, v2, v3, v4, v5]) (j := 0) h i h0 h1 hcl hcc (by show 0 + 6 ≤ 6; omega) (x' := [v0, v1, v2, v3, v4, v5]) (okp := fun _ => False)
    ⟨by rw [List.take_zero, List.drop_eq_nil_of_le (by rw [hcl6]; exact Nat.le_refl _)]; simp, by rw [List.take_zero, List.drop_eq_nil_of_le (by rw [hcl6]; exact Nat.le_refl _)]; rfl, by rw [List.take_zero, List.drop_eq_nil_of_le (by rw [hcl6]; exact Nat.le_refl _)]; simpa using hone⟩ (fun _ hk => hk.elim)
/-- Six stores into a block of its own. -/
theorem set6_self {w : World} {g t : Nat} {a0 a1 a2 a3 a4 a5 : Value} (v0 v1 v2 v3 v4 v5 : Value) (h : w.heap[g]? = some (.cells #[a0, a1, a2, a3, a4, a5] t (0, 0))) :
    ((((((w.setCell ⟨g, 0, none⟩ v0).setCell ⟨g, 1, none⟩ v1).setCell ⟨g, 2, none⟩ v2).setCell ⟨g, 3, none⟩ v3).setCell ⟨g, 4, none⟩ v4).setCell ⟨g, 5, none⟩ v5).heap[g]? = some (.cells #[v0, v1, v2, v3, v4, v5] t (0, 0)) :=
  blk_put (blk_put (blk_put (blk_put (blk_put (blk_put h 0 v0 rfl) 1 v1 rfl) 2 v2 rfl) 3 v3 rfl) 4 v4 rfl) 5 v5 rfl
theorem set6_far {w : World} {g k : Nat} (v0 v1 v2 v3 v4 v5 : Value) (hk : k ≠ g) (o0 o1 o2 o3 o4 o5 : Nat) :
    ((((((w.setCell ⟨g, o0, none⟩ v0).setCell ⟨g, o1, none⟩ v1).setCell ⟨g, o2, none⟩ v2).setCell ⟨g, o3, none⟩ v3).setCell ⟨g, o4, none⟩ v4).setCell ⟨g, o5, none⟩ v5).heap[k]? = w.heap[k]? := by
  rw [Below.heap_setCell _ _ _ _ hk, Below.heap_setCell _ _ _ _ hk, Below.heap_setCell _ _ _ _ hk, Below.heap_setCell _ _ _ _ hk, Below.heap_setCell _ _ _ _ hk, Below.heap_setCell _ _ _ _ hk]
theorem set6_below {w0 w : World} {g : Nat} (v0 v1 v2 v3 v4 v5 : Value) (h : Below w0.heap.size w0 w) (hk : w0.heap.size ≤ g) (o0 o1 o2 o3 o4 o5 : Nat) :
    Below w0.heap.size w0 ((((((w.setCell ⟨g, o0, none⟩ v0).setCell ⟨g, o1, none⟩ v1).setCell ⟨g, o2, none⟩ v2).setCell ⟨g, o3, none⟩ v3).setCell ⟨g, o4, none⟩ v4).setCell ⟨g, o5, none⟩ v5) :=
  below_set (below_set (below_set (below_set (below_set (below_set h hk) hk) hk) hk) hk) hk
theorem set6_kept {w0 w : World} {g : Nat} {S : Nat → Prop} (v0 v1 v2 v3 v4 v5 : Value) (h : Kept w0 w S) (hk : S g ∨ w0.heap.size ≤ g) (o0 o1 o2 o3 o4 o5 : Nat) :
    Kept w0 ((((((w.setCell ⟨g, o0, none⟩ v0).setCell ⟨g, o1, none⟩ v1).setCell ⟨g, o2, none⟩ v2).setCell ⟨g, o3, none⟩ v3).setCell ⟨g, o4, none⟩ v4).setCell ⟨g, o5, none⟩ v5) S :=
  Kept.setCell (Kept.setCell (Kept.setCell (Kept.setCell (Kept.setCell (Kept.setCell h hk _) hk _) hk _) hk _) hk _) hk _
theorem first_of (p : Nat → Bool) : ∀ n, (∀ m, m < n → p m = false) ∨ ∃ j, j < n ∧ p j = true ∧ ∀ m, m < j → p m = false
  | 0 => .inl (fun m hm => absurd hm (Nat.not_lt_zero _))
  | n + 1 => by
    rcases first_of p n with h | ⟨j, hj, h1, h2⟩
    · cases hp : p n with
      | true => exact .inr ⟨n, Nat.lt_succ_self _, hp, h⟩
      | false =>
        refine .inl (fun m hm => ?_)
        by_cases he : m = n
        · rw [he]; exact hp
        · exact h m (by omega)
    · exact .inr ⟨j, by omega, h1, h2⟩
/-- Behind j places looked at: those kept lie at the head, i of them; from place i on all is as it was. -/
structure KI {β : Type} (kp : Nat → Bool) (rows : List β) (j i : Nat) (cur : List β) : Prop where
  len : cur.length = rows.length
  lt : i < j
  cnt : ((List.range j).filter kp).length = i
  low : ∀ (q m : Nat), ((List.range j).filter kp)[q]? = some m → cur[q]? = rows[m]?
  high : ∀ (m : Nat), i ≤ m → cur[m]? = rows[m]?
theorem range_all {kp : Nat → Bool} {j : Nat} (h : ∀ m, m < j → kp m = true) : (List.range j).filter kp = List.range j := List.filter_eq_self.2 (fun m hm => h m (List.mem_range.1 hm))
section
variable {β : Type} {kp : Nat → Bool} {rows cur : List β} {i j : Nat}
theorem KI.start (hall : ∀ m, m < j → kp m = true) (hdrop : kp j = false) : KI kp rows (j + 1) j rows := by
  have h : (List.range (j + 1)).filter kp = List.range j := by rw [List.range_succ, List.filter_append, range_all hall]; simp [hdrop]
  refine ⟨rfl, Nat.lt_succ_self _, by rw [h, List.length_range], fun q m hq => ?_, fun _ _ => rfl⟩
  rw [h, List.getElem?_range (by have := (List.getElem?_eq_some_iff.1 hq).1; rw [List.length_range] at this; exact this)] at hq
  injection hq with hq
  rw [hq]
theorem KI.keep {r : β} (h : KI kp rows j i cur) (hk : kp j = true) (hr : rows[j]? = some r) : KI kp rows (j + 1) (i + 1) (cur.set i r) := by
  have hs : (List.range (j + 1)).filter kp = (List.range j).filter kp ++ [j] := by rw [List.range_succ, List.filter_append]; simp [hk]
  have hj : j < rows.length := (List.getElem?_eq_some_iff.1 hr).1
  have hlt := h.lt
  have hlen := h.len
  refine ⟨by rw [List.length_set]; exact h.len, by omega, by rw [hs, List.length_append, h.cnt]; rfl, fun q m hq => ?_, fun m hm => ?_⟩
  · rw [hs] at hq
    by_cases hqi : q < i
    · rw [List.getElem?_append_left (by rw [h.cnt]; exact hqi)] at hq
      rw [List.getElem?_set_ne (by omega)]
      exact h.low q m hq
    · have hq2 : q = i := by
        have := (List.getElem?_eq_some_iff.1 hq).1
        rw [List.length_append, h.cnt, List.length_singleton] at this
        omega
      subst hq2
      rw [List.getElem?_append_right (by rw [h.cnt]; exact Nat.le_refl _), h.cnt, Nat.sub_self] at hq
      have : j = m := by simpa using hq
      subst this
      rw [List.getElem?_set_self (by omega), hr]
  · rw [List.getElem?_set_ne (by omega)]
    exact h.high m (by omega)
theorem KI.skip (h : KI kp rows j i cur) (hk : kp j = false) : KI kp rows (j + 1) i cur := by
  have hs : (List.range (j + 1)).filter kp = (List.range j).filter kp := by rw [List.range_succ, List.filter_append]; simp [hk]
  have hlt := h.lt
  exact ⟨h.len, by omega, by rw [hs]; exact h.cnt, fun q m hq => h.low q m (by rw [hs] at hq; exact hq), h.high⟩
/-- What a filter keeps, by its places. -/
theorem filter_range {γ : Type} (xs : List γ) (p : γ → Bool) (z : γ) : ((List.range xs.length).filter (fun j => p (xs.getD j z))).map (fun j => xs.getD j z) = xs.filter p := by
  have h : xs = (List.range xs.length).map (fun j => xs.getD j z) := by
    apply List.ext_getElem?
    intro j
    by_cases hj : j < xs.length
    · rw [List.getElem?_map, List.getElem?_range hj, List.getElem?_eq_getElem hj]
      simp [List.getD_eq_getElem?_getD, List.getElem?_eq_getElem hj]
    · rw [List.getElem?_eq_none (by omega), List.getElem?_eq_none (by rw [List.length_map, List.length_range]; omega)]
  conv => rhs; rw [h]
  rw [List.filter_map]
  rfl
end
end Go.Proofs.Ytmknnoeggkgkgaa.Sq
