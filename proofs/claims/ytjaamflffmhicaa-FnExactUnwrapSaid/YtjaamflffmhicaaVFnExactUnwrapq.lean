/- Rows of one's own that begin somewhere inside their block, their elements' rows apart; elements taken out of them. No condition. -/
import Derived.Test.YtjaamflffmhicaaVFnExactUnwrapMore
import Derived.Lib.SliceRun
import Derived.WalkKit
import Derived.RowKit
namespace Go.Proofs.Ytjaamflffmhicaa.Sq
open Go.RowKit Go.Proofs.YtjaamflffmhicaaW.PrintWords Go.Proofs.YtjaamflffmhicaaW.PrintLast Go.Proofs.YtjaamflffmhicaaW.PrintMore
open Go.Proofs.YtjaamflffmhicaaW.PrintWords.Kd
set_option linter.unusedVariables false

def SQ {α : Type} (d : Kd α) (e : Nat) (w : World) (base : Nat) (ok : Nat → Prop) (v : Value) (xs : List α) : Prop :=
  Kd.S d e w base ok v xs ∨ ∃ (g m cap : Nat) (ys : List α), v = .slice (some ⟨g, m * d.sz, none⟩) xs.length cap ∧ ys.length = m ∧ Kd.S d e w base ok (.slice (some ⟨g, 0, none⟩) (m + xs.length) (m + cap)) (ys ++ xs)
section
variable {α : Type} {d : Kd α} {e : Nat} {w w1 W : World} {base base' : Nat} {ok ok' : Nat → Prop} {v : Value} {xs : List α}
theorem SQ_of (h : Kd.S d e w base ok v xs) : SQ d e w base ok v xs := .inl h
theorem SQ_imp (h : SQ d e w base ok v xs) (hi : ∀ u zs, Kd.S d e w base ok u zs → Kd.S d e w1 base' ok' u zs) : SQ d e w1 base' ok' v xs := by
  rcases h with h | ⟨g, m, cap, ys, hv, hm, h⟩
  · exact .inl (hi _ _ h)
  · exact .inr ⟨g, m, cap, ys, hv, hm, hi _ _ h⟩
theorem SQ_mono (h : SQ d e w base ok v xs) (hok : ∀ k, ok k → ok' k) : SQ d e w base ok' v xs := SQ_imp h (fun _ _ h => S_mono h hok)
theorem SQ_lower (h : SQ d e w base ok v xs) (hb : base' ≤ base) : SQ d e w base' ok v xs := SQ_imp h (fun _ _ h => S_lower h hb)
theorem SQ_step (h : SQ d e w base ok v xs) (hm : ∀ k, ok k → k < w.heap.size → w1.heap[k]? = w.heap[k]?) : SQ d e w1 base ok v xs := SQ_imp h (fun _ _ h => S_step h hm)
theorem SQ_below (h : SQ d e w base ok v xs) (hb : Below w.heap.size w w1) : SQ d e w1 base ok v xs := SQ_imp h (fun _ _ h => S_below h hb)
theorem SQ_alloc (h : SQ d e w base ok v xs) (o : Obj) : SQ d e (w.alloc o) base ok v xs := SQ_imp h (fun _ _ h => S_alloc h o)
theorem SQ_drew (h : SQ d e w base ok v xs) : SQ d e w.drew base ok v xs := SQ_imp h (fun _ _ h => S_drew h)
theorem SQ_drewN (h : SQ d e w base ok v xs) (m : Nat) : SQ d e (w.drewN m) base ok v xs := SQ_imp h (fun _ _ h => S_drewN h m)
theorem SQ_far (h : SQ d e w base ok v xs) {p : Addr} (hok : ∀ k, ok k → k ≠ p.block) (u : Value) : SQ d e (w.setCell p u) base ok v xs := SQ_imp h (fun _ _ h => S_far h hok u)
theorem SQ_types (h : SQ d e w base ok v xs) {g t : Nat} {cells : Array Value} (hb : w.heap[g]? = some (.cells cells t (0, 0))) (ht : ∀ q, q ∈ e :: d.E → q ≠ t) : SQ d e w base (fun k => ok k ∧ k ≠ g) v xs := SQ_imp h (fun _ _ h => S_types h hb ht)
theorem SQ_bound (h : SQ d e w base ok v xs) : SQ d e w base (fun k => ok k ∧ base ≤ k ∧ k < w.heap.size ∧ ∃ q, q ∈ e :: d.E ∧ ∃ cells, w.heap[k]? = some (.cells cells q (0, 0))) v xs := SQ_imp h (fun _ _ h => S_bound h)
theorem SQ_open (h : SQ d e w base ok v xs) (hp : 0 < xs.length) : ∃ (g m cap : Nat) (ys : List α), v = .slice (some ⟨g, m * d.sz, none⟩) xs.length cap ∧ ys.length = m ∧ Kd.S d e w base ok (.slice (some ⟨g, 0, none⟩) (m + xs.length) (m + cap)) (ys ++ xs) := by
  rcases h with h | h
  · obtain ⟨g, cap, rfl, _⟩ := S_form h hp
    exact ⟨g, 0, cap, [], by rw [Nat.zero_mul], rfl, by rw [Nat.zero_add, Nat.zero_add]; exact h⟩
  · exact h
theorem SQ_back {g m cap n : Nat} {ys : List α} (hm : ys.length = m) (h : Kd.S d e w base ok (.slice (some ⟨g, 0, none⟩) (m + xs.length) (m + cap)) (ys ++ xs)) (hn : n = xs.length) : SQ d e w base ok (.slice (some ⟨g, m * d.sz, none⟩) n cap) xs := .inr ⟨g, m, cap, ys, by rw [hn], hm, h⟩
theorem SQ_slice (h : SQ d e w base ok v xs) : ∃ A c, v = .slice A xs.length c := by
  rcases h with h | ⟨g, m, cap, ys, hv, _⟩
  · exact S_slice h
  · exact ⟨_, _, hv⟩
theorem C_tail {g m n : Nat} {zs ys : List α} (hm : ys.length = m) (h : d.C w (some ⟨g, 0, none⟩) n (ys ++ xs)) : d.C w (some ⟨g, m * d.sz, none⟩) xs.length xs := by
  obtain ⟨h1, h2, h3⟩ := h
  rw [List.length_append] at h1
  refine ⟨rfl, by omega, fun hp => ?_⟩
  obtain ⟨ad, he, hc⟩ := h3 (by omega)
  injection he with he
  subst he
  refine ⟨_, rfl, fun j p hj => ?_⟩
  obtain ⟨c, hs, hr, hcell⟩ := hc (m + j) p (by rw [List.getElem?_append_right (by omega), hm, Nat.add_sub_cancel_left]; exact hj)
  refine ⟨c, hs, hr, fun i u hu => ?_⟩
  have := hcell i u hu
  rw [add_at, Nat.zero_add, Nat.add_mul, Nat.add_assoc] at this
  rw [add_at]
  exact this
theorem SQ_reads' {A : Option Addr} {n c : Nat} (h : SQ d e w base ok (.slice A n c) xs) : n = xs.length ∧ n ≤ c ∧ d.C w A xs.length xs := by
  rcases h with h | ⟨g, m, cap, ys, hv, hm, h⟩
  · exact S_reads' h
  · injection hv with ha hn hc
    subst ha; subst hn; subst hc
    obtain ⟨h1, h2, h3⟩ := S_reads' h
    exact ⟨rfl, by omega, C_tail (zs := []) hm h3⟩
theorem SQ_reads (h : SQ d e w base ok v xs) : ∃ A c, v = .slice A xs.length c ∧ xs.length ≤ c ∧ d.C w A xs.length xs := by
  obtain ⟨A, c, rfl⟩ := SQ_slice h
  exact ⟨A, c, rfl, (SQ_reads' h).2⟩
theorem SQ_drop {A : Option Addr} {n c j : Nat} (h : Kd.S d e w base ok (.slice A n c) xs) (hj : j < xs.length) (hs : 0 < d.sz) : SQ d e w base ok (.slice (if c = j then A else A.map (·.add (j * d.sz))) (n - j) (c - j)) (xs.drop j) := by
  obtain ⟨g, cap, hv, _⟩ := S_form h (by omega)
  injection hv with ha hn hc
  subst ha; subst hc; subst hn
  have hle := (S_reads' h).2.1
  rw [if_neg (by omega), Option.map_some, add_plain]
  refine .inr ⟨g, j, c - j, xs.take j, by rw [List.length_drop], by rw [List.length_take]; omega, ?_⟩
  rw [List.length_drop, List.take_append_drop, show j + (xs.length - j) = xs.length by omega, show j + (c - j) = c by omega]
  exact h
theorem R_delete_off {P : Program} (d : Kd α) {W : World} (base : Nat) (t ty e : TypeId) (i : TypeInfo) (ht : P.underlying t = some (.slice e)) (hi : P.info? e = some i) (hsz : i.size = d.sz)
    {g n m c k : Nat} {xs : List α} {ok : Nat → Prop} (HO : d.R e W base ok (.slice (some ⟨g, 0, none⟩) (m + n) (m + c)) xs) (hk : k < n) {A : Option Addr} (hA : A = if c = k + 1 then some ⟨g, m * d.sz, none⟩ else (some (⟨g, m * d.sz, none⟩ : Addr)).map (·.add ((k + 1) * d.sz))) (c2 : Nat) :
    ∃ w1, (Builtin.append_ #[t, t] ty #[.slice (some ⟨g, m * d.sz, none⟩) k c, .slice A (n - (k + 1)) c2]).run P W = .ok (.slice (some ⟨g, m * d.sz, none⟩) (n - 1) c) w1 ∧ d.R e w1 base ok (.slice (some ⟨g, 0, none⟩) (m + (n - 1)) (m + c)) (xs.eraseIdx (m + k)) ∧ W.grownBy w1 (some g) := by
  obtain ⟨hn, hnc, _⟩ := R_reads' HO
  obtain ⟨hok, inner, hown, hr⟩ := HO
  have hin : inner.length = (m + n) * d.sz := by rw [hr.1, hn]
  rcases hown.2 with ⟨hv, _⟩ | ⟨g', cap', cur, hv, hb, hh, _, hcm, hcs, htake⟩
  · cases hv
  injection hv with ha _ hc
  injection ha with ha
  injection ha with hg
  subst hg; subst hc
  rw [← hn] at htake
  obtain ⟨news, hnews⟩ : ∃ news, news = inner.drop ((m + k + 1) * d.sz) := ⟨_, rfl⟩
  have hnl : news.length = (n - (k + 1)) * d.sz := by rw [hnews, List.length_drop, hin, ← Nat.sub_mul]; congr 1; omega
  have hle : (m + k + 1) * d.sz ≤ (m + n) * d.sz := Nat.mul_le_mul_right _ (by omega)
  have hks : (m + k + 1) * d.sz = m * d.sz + k * d.sz + d.sz := by rw [Nat.succ_mul, Nat.add_mul]
  have hk1 : (k + 1) * d.sz = k * d.sz + d.sz := Nat.succ_mul _ _
  have hnc' : (m + n) * d.sz ≤ (m + c) * d.sz := Nat.mul_le_mul_right _ hnc
  have hsub : (n - (k + 1)) * d.sz = (m + n) * d.sz - (m + k + 1) * d.sz := by rw [← Nat.sub_mul]; congr 1; omega
  have hcur : ∀ q, q < (m + n) * d.sz → cur.toList[q]? = inner[q]? := by
    intro q hq
    rw [← htake, List.getElem?_take, if_pos hq]
  obtain ⟨a, rfl, hcell⟩ : ∃ a, A = some a ∧ ∀ j u, news[j]? = some u → W.cell? (a.add j) = some u := by
    by_cases hck : c = k + 1
    · rw [if_pos hck] at hA
      refine ⟨_, hA, fun j u hu => ?_⟩
      have h0 : news = [] := List.eq_nil_of_length_eq_zero (by rw [hnl, show n - (k + 1) = 0 by omega, Nat.zero_mul])
      rw [h0] at hu
      simp at hu
    · rw [if_neg hck, Option.map_some] at hA
      refine ⟨_, hA, fun j u hu => ?_⟩
      have hj : j < news.length := (List.getElem?_eq_some_iff.1 hu).1
      rw [add_add, add_at, cell_of_row W g _ cur e (0, 0) hh, ← Array.getElem?_toList]
      rw [hnews, List.getElem?_drop] at hu
      rw [← hu, show m * d.sz + ((k + 1) * d.sz + j) = (m + k + 1) * d.sz + j by omega]
      exact hcur _ (by omega)
  have hone : ∀ u ∈ news, u.oneCell' = true := by
    intro u hu
    have hu' : u ∈ inner := by rw [hnews] at hu; exact List.mem_of_mem_drop hu
    obtain ⟨q, hq, rfl⟩ := List.mem_iff_getElem.1 hu'
    have hs0 : 0 < d.sz := by
      rcases Nat.eq_zero_or_pos d.sz with h | h
      · rw [h, Nat.mul_zero] at hin; omega
      · exact h
    have hql : q / d.sz < xs.length := by
      rw [Nat.div_lt_iff_lt_mul hs0, ← hr.1]
      exact hq
    refine d.K_one (d.K_of_M (hr.2 (q / d.sz) _ (List.getElem?_eq_getElem hql))) _ ?_
    rw [List.mem_iff_getElem?]
    refine ⟨q % d.sz, ?_⟩
    rw [List.getElem?_take, if_pos (Nat.mod_lt _ hs0), List.getElem?_drop, Nat.mul_comm, Nat.div_add_mod, List.getElem?_eq_getElem hq]
  have hfit : m * d.sz + k * d.sz + news.length ≤ cur.size := by omega
  have hrun := run_append_room_cells (P := P) (w := W) t ty e i ht hi g (m * d.sz) k c a (n - (k + 1)) c2 news (by rw [hnl, hsz]) hcell hone (by omega)
    (fun j hj => by rw [hsz, cell_of_row W g _ cur e (0, 0) hh]; simp; omega) (fun j _ => blk_frozen hh _)
  rw [hsz, show k + (n - (k + 1)) = n - 1 by omega] at hrun
  obtain ⟨cur', h3, h4, h5⟩ := setCells_row news (m * d.sz + k * d.sz) W cur hh hfit
  obtain ⟨s1, s2, s3, s4⟩ := setCells_same g news (m * d.sz + k * d.sz) W
  have hfar : ∀ k', k' ≠ g → (W.setCells g (m * d.sz + k * d.sz) news).heap[k']? = W.heap[k']? := fun k' hk' => setCells_far news _ k' hk'
  have hgo : ∀ m', some g = (Value.slice (some ⟨g, 0, none⟩) m' (m + c)).ownBlock := fun m' => by simp [Value.ownBlock]
  have hel : (xs.eraseIdx (m + k)).length = m + (n - 1) := by rw [List.length_eraseIdx_of_lt (by omega)]; omega
  refine ⟨_, hrun, ⟨fun k' hk' => hok k' (by rw [← hgo] at hk' ⊢; exact hk'), inner.take ((m + k) * d.sz) ++ news, ⟨?_, .inr ⟨g, m + c, cur', by rw [hel], hb, h3, by rw [hel]; omega, hcm, by rw [h4, hcs], ?_⟩⟩, ?_⟩, ⟨s1, s2, s3, by rw [s4]; exact Nat.le_refl _, fun k' _ hk' => hfar k' (fun he => hk' (by rw [he]))⟩⟩
  · rw [List.length_append, List.length_take, hnl, hel]
    have : (m + (n - 1)) * d.sz = (m + n) * d.sz - d.sz := by rw [show m + (n - 1) = (m + n) - 1 by omega, Nat.sub_mul, Nat.one_mul]
    have : (m + k) * d.sz = m * d.sz + k * d.sz := Nat.add_mul _ _ _
    omega
  · rw [hel, h5]
    have h6 : (m + (n - 1)) * d.sz = (m + n) * d.sz - d.sz := by rw [show m + (n - 1) = (m + n) - 1 by omega, Nat.sub_mul, Nat.one_mul]
    have h8 : (m + k) * d.sz = m * d.sz + k * d.sz := Nat.add_mul _ _ _
    have h7 : cur.toList.take (m * d.sz + k * d.sz) = inner.take ((m + k) * d.sz) := by
      rw [← htake, List.take_take, Nat.min_eq_left (by omega), h8]
    rw [h7]
    exact List.take_left' (by rw [List.length_append, List.length_take, hnl]; omega)
  · rw [List.eraseIdx_eq_take_drop_succ]
    have hmv : ∀ p q, d.M W base (fun k' => ok k' ∧ some k' ≠ (Value.slice (some ⟨g, 0, none⟩) (m + n) (m + c)).ownBlock) p q → d.M (W.setCells g (m * d.sz + k * d.sz) news) base (fun k' => ok k' ∧ some k' ≠ (Value.slice (some ⟨g, 0, none⟩) (m + (n - 1)) (m + c)).ownBlock) p q := fun p q hp =>
      d.M_mono (fun k' hk' => ⟨hk'.1, by rw [← hgo]; rw [← hgo] at hk'; exact hk'.2⟩) (d.M_move (fun k' hk' => hfar k' (fun he => hk'.2 (by rw [← hgo, he]))) hp)
    subst hnews
    exact reps_append ((reps_take hr (by omega)).imp_ hmv) ((reps_drop hr).imp_ hmv)
section
variable {P : Program} {ops : Array Oper} {rest : List Oper} {o : Oper} {a : Act} {Q : Exit → Act → World → Prop} {Kc : Act → World → Prop}
theorem SQ_delete_step (d : Kd α) {w0 W : World} (base : Nat) (hw : Region.wanted o (yielded ops a.tmps) = true) (s x : Operand) (t e : TypeId) (ho : o.op = .call { callee := .builtin .append, args := #[s, x], argTypes := #[t, t] })
    (ht : P.underlying t = some (.slice e)) (hinfo : (P.info? e).map (·.size) = some d.sz) {g n c k m m2 c2 : Nat} {A : Option Addr} {xs ys : List α} {ok : Nat → Prop}
    (hs : a.eval s = .slice (some ⟨g, m * d.sz, none⟩) k c) (hx : a.eval x = .slice A m2 c2) (hA : A = if c = k + 1 then some ⟨g, m * d.sz, none⟩ else (some (⟨g, m * d.sz, none⟩ : Addr)).map (·.add ((k + 1) * d.sz))) (hm : m2 = n - (k + 1))
    (hy : ys.length = m) (HO : Kd.S d e W base ok (.slice (some ⟨g, 0, none⟩) (m + n) (m + c)) (ys ++ xs)) (hk : k < n) (HB : Below base w0 W) (hbase : base ≤ W.heap.size)
    (h : ∀ w1, Kd.S d e w1 base ok (.slice (some ⟨g, 0, none⟩) (m + (n - 1)) (m + c)) (ys ++ xs.eraseIdx k) → Below base w0 w1 → W.grownBy w1 (some g) → Kc (a.put o.dst (.slice (some ⟨g, m * d.sz, none⟩) (n - 1) c)) w1) :
    if Region.wanted o (yielded ops a.tmps) = true then Oper.wp P o a W Kc Q else Kc (a.put o.dst undef) W := by
  obtain ⟨f, HR⟩ := HO
  obtain ⟨i0, hi, hsz⟩ := Option.map_eq_some_iff.1 hinfo
  subst hm
  obtain ⟨w1, hr, h1, h2⟩ := R_delete_off (P := P) (tag f d) base t o.type e i0 ht hi hsz HR hk hA c2
  rw [if_pos hw]
  unfold Oper.wp execOp
  simp only [ho, resolve, invoke, builtin, Sem.run_bind, Sem.run_pure, Result.andThen_ok, List.map_toArray, List.map_cons, List.map_nil, hs, hx]
  have hr' : (Builtin.append_ #[t, t] o.type #[.slice (some ⟨g, m * d.sz, none⟩) k c, .slice A (n - (k + 1)) c2]).run P W = .ok (.slice (some ⟨g, m * d.sz, none⟩) (n - 1) c) w1 := hr
  rw [hr']
  refine h w1 ?_ (HB.grown h2 hbase (fun k hk => by injection hk with hk; subst hk; exact R_base HR _ (by simp [Value.ownBlock]))) h2
  have h3 := S_erase h1
  rwa [List.eraseIdx_append_of_length_le (by omega), hy, Nat.add_sub_cancel_left] at h3
end
end
section
variable {α : Type} {d : Kd α} {e : Nat} {w w1 W : World} {base : Nat} {ok : Nat → Prop} {xs : List α} {g n cap : Nat}
end
structure KI {β : Type} (kp : Nat → Bool) (rows : List β) (j i : Nat) (cur : List β) : Prop where
  len : cur.length = rows.length
  lt : i < j
  cnt : ((List.range j).filter kp).length = i
  low : ∀ (q m : Nat), ((List.range j).filter kp)[q]? = some m → cur[q]? = rows[m]?
  high : ∀ (m : Nat), i ≤ m → cur[m]? = rows[m]?
section
variable {β : Type} {kp : Nat → Bool} {rows cur : List β} {i j : Nat}
theorem KI.skip (h : KI kp rows j i cur) (hk : kp j = false) : KI kp rows (j + 1) i cur := by
  have hs : (List.range (j + 1)).filter kp = (List.range j).filter kp := by rw [List.range_succ, List.filter_append]; simp [hk]
  have hlt := h.lt
  exact ⟨h.len, by omega, by rw [hs]; exact h.cnt, fun q m hq => h.low q m (by rw [hs] at hq; exact hq), h.high⟩
end
end Go.Proofs.Ytjaamflffmhicaa.Sq
