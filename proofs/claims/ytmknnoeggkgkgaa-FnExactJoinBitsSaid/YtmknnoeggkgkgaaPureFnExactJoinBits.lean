/- The pure statement of the law 'FnExactJoinBits', proved: over numbers, lists and texts alone. No condition. -/
import Derived.Test.YtmknnoeggkgkgaaStFnExactJoinBits
import Derived.Laws.BitsLemmas
namespace Go.Proofs.Ytmknnoeggkgkgaa.Pure
open Go.RowKit Go.Proofs.Ytmknnoeggkgkgaa.QFnExactJoinBits Go.Proofs.YtmknnoeggkgkgaaW.PrintWords Go.Proofs.YtmknnoeggkgkgaaW.PrintLast Go.Proofs.YtmknnoeggkgkgaaW.PrintMore Go.Proofs.Ytmknnoeggkgkgaa.StFnExactJoinBits Go.Proofs.Ytmknnoeggkgkgaa.Opens
set_option linter.unusedVariables false
set_option linter.unusedSimpArgs false

/-! ### base -/
theorem w64 {x : Int} (h0 : -9223372036854775808 ≤ x) (h1 : x ≤ 9223372036854775807) : wrap64 x = x := by unfold wrap64; omega
theorem ip {α : Type} {c : Prop} [Decidable c] {a b : α} (h : c) : (if c then a else b) = a := if_pos h
theorem Ev.ex {α : Type} {g : Nat → Option α} {r : α} (h : Ev g r) : ∃ k, g k = some r := h.rounds
theorem Ev.from_ {α : Type} {g : Nat → Option α} {r : α} (K : Nat) (h : ∀ k, K ≤ k → g k = some r) : Ev g r := ⟨K, h⟩
theorem up_loop {β : Type} {F : Nat → Int → Option β} {n : Nat} {r : β} (hs : ∀ k (j : Nat), j < n → F (k + 1) (j : Int) = F k ((j + 1 : Nat) : Int)) (he : ∀ k, F (k + 1) (n : Int) = some r) :
    ∀ (d j : Nat), n - j = d → j ≤ n → ∀ k, d < k → F k (j : Int) = some r := by
  intro d
  induction d with
  | zero =>
    intro j hd hj k hk
    obtain ⟨k, rfl⟩ : ∃ m, k = m + 1 := ⟨k - 1, by omega⟩
    obtain rfl : j = n := by omega
    exact he k
  | succ d ih =>
    intro j hd hj k hk
    obtain ⟨k, rfl⟩ : ∃ m, k = m + 1 := ⟨k - 1, by omega⟩
    rw [hs k j (by omega)]
    exact ih (j + 1) (by omega) (by omega) k (by omega)
theorem map_loop {α β : Type} {F : Nat → List β → Int → Option (List β)} {g : α → β} {l : List α}
    (hs : ∀ k (acc : List β) (j : Nat) (hj : j < l.length), acc.length = l.length → F (k + 1) acc (j : Int) = F k (acc.set j (g l[j])) ((j + 1 : Nat) : Int))
    (he : ∀ k (acc : List β), F (k + 1) acc (l.length : Int) = some acc) :
    ∀ (d j : Nat) (acc : List β), l.length - j = d → j ≤ l.length → acc.length = l.length → (∀ i, i < j → acc[i]? = (l[i]?).map g) → ∀ k, d < k → F k acc (j : Int) = some (l.map g) := by
  intro d
  induction d with
  | zero =>
    intro j acc hd hj hl ha k hk
    obtain ⟨k, rfl⟩ : ∃ m, k = m + 1 := ⟨k - 1, by omega⟩
    obtain rfl : j = l.length := by omega
    rw [he]
    congr 1
    apply List.ext_getElem?
    intro i
    rw [List.getElem?_map]
    by_cases hi : i < l.length
    · exact ha i hi
    · rw [List.getElem?_eq_none (by omega), List.getElem?_eq_none (by omega)]; rfl
  | succ d ih =>
    intro j acc hd hj hl ha k hk
    obtain ⟨k, rfl⟩ : ∃ m, k = m + 1 := ⟨k - 1, by omega⟩
    have hjl : j < l.length := by omega
    rw [hs k acc j hjl hl]
    refine ih (j + 1) _ (by omega) (by omega) (by rw [List.length_set]; exact hl) (fun i hi => ?_) k (by omega)
    by_cases hij : i = j
    · subst hij
      rw [List.getElem?_set_self (by omega), List.getElem?_eq_getElem hjl]
      rfl
    · rw [List.getElem?_set_ne (fun h => hij h.symm)]
      exact ha i (by omega)
theorem getD_at {α : Type} {l : List α} {j : Nat} (z : α) (h : j < l.length) : l.getD (j : Int).toNat z = l[j] := by
  simp [List.getD_eq_getElem?_getD, List.getElem?_eq_getElem h]

/-! ### sz -/
theorem sz_loop {α : Type} {F : Nat → Int → Int → Option Int} {g : α → Int → Option Int} {l : List α} {P : α → Prop}
    (hs : ∀ k (left : Int) (j : Nat) (hj : j < l.length), l.length ≤ 2000000 → F (k + 1) left (j : Int) = (g l[j] left).bind fun t => if t < 0 then some (-1) else F k t ((j + 1 : Nat) : Int))
    (he : ∀ k (left : Int), F (k + 1) left (l.length : Int) = some left)
    (hg : ∀ x ∈ l, ∀ left : Int, 0 ≤ left → left ≤ 1048576 → ∃ t, g x left = some t ∧ (t < 0 ∨ (0 ≤ t ∧ t ≤ left ∧ P x))) (hl : l.length ≤ 2000000) :
    ∀ (d j : Nat) (left : Int), l.length - j = d → j ≤ l.length → 0 ≤ left → left ≤ 1048576 → ∃ t, (∀ k, d < k → F k left (j : Int) = some t) ∧ (t < 0 ∨ (0 ≤ t ∧ t ≤ left ∧ ∀ i (hi : i < l.length), j ≤ i → P l[i])) := by
  intro d
  induction d with
  | zero =>
    intro j left hd hj h0 h1
    obtain rfl : j = l.length := by omega
    refine ⟨left, fun k hk => ?_, .inr ⟨h0, Int.le_refl _, fun i hi h => absurd hi (by omega)⟩⟩
    obtain ⟨k, rfl⟩ : ∃ m, k = m + 1 := ⟨k - 1, by omega⟩
    exact he k left
  | succ d ih =>
    intro j left hd hj h0 h1
    have hjl : j < l.length := by omega
    obtain ⟨t, ht, hc⟩ := hg l[j] (List.getElem_mem _) left h0 h1
    rcases hc with hc | ⟨h2, h3, hP⟩
    · refine ⟨-1, fun k hk => ?_, .inl (by omega)⟩
      obtain ⟨k, rfl⟩ : ∃ m, k = m + 1 := ⟨k - 1, by omega⟩
      rw [hs k left j hjl hl, ht]
      simp only [Option.bind_some]
      rw [if_pos hc]
    · obtain ⟨t2, ih1, ih2⟩ := ih (j + 1) t (by omega) (by omega) h2 (by omega)
      refine ⟨t2, fun k hk => ?_, ?_⟩
      · obtain ⟨k, rfl⟩ : ∃ m, k = m + 1 := ⟨k - 1, by omega⟩
        rw [hs k left j hjl hl, ht]
        simp only [Option.bind_some]
        rw [if_neg (by omega)]
        exact ih1 k (by omega)
      · rcases ih2 with h4 | ⟨h4, h5, h6⟩
        · exact .inl h4
        · refine .inr ⟨h4, by omega, fun i hi hji => ?_⟩
          by_cases hij : i = j
          · subst hij; exact hP
          · exact h6 i hi (by omega)

/-! ### mark -/
theorem mt_loop : ∀ (d : Nat) (x : Int) (s : ByteArray), 0 ≤ x → x < 10 ^ d → x ≤ 9223372036854775807 → s.size + d ≤ 1000 → ∃ t, ∀ k, d < k → laws_markText.l0 k x s = some t := by
  intro d
  induction d with
  | zero =>
    intro x s h0 h1 h2 hs
    refine ⟨(⟨#[109]⟩ : ByteArray) ++ s, fun k hk => ?_⟩
    obtain ⟨k, rfl⟩ : ∃ m, k = m + 1 := ⟨k - 1, by omega⟩
    simp only [laws_markText.l0]
    rw [if_neg (by omega), if_pos (by omega)]
  | succ d ih =>
    intro x s h0 h1 h2 hs
    by_cases hx : x > 0
    · have h10 : x / 10 < 10 ^ d := by
        have : (10 : Int) ^ (d + 1) = 10 ^ d * 10 := Int.pow_succ 10 d
        omega
      obtain ⟨t, ih⟩ := ih (x / 10) (strOfNums [(48 + x % 10) % 256] ++ s) (by omega) h10 (by omega) (by rw [ByteArray.size_append, strOfNums_size]; simp only [List.length_cons, List.length_nil]; omega)
      refine ⟨t, fun k hk => ?_⟩
      obtain ⟨k, rfl⟩ : ∃ m, k = m + 1 := ⟨k - 1, by omega⟩
      simp only [laws_markText.l0]
      rw [if_pos hx, Int.tmod_eq_emod_of_nonneg h0, Int.tdiv_eq_ediv_of_nonneg h0, w64 (x := 48 + x % 10) (by omega) (by omega)]
      simp only [Option.bind_some]
      rw [if_pos (by rw [strOfNums_size]; simp only [List.length_cons, List.length_nil]; omega)]
      rw [w64 (by omega) (by omega)]
      exact ih k (by omega)
    · refine ⟨(⟨#[109]⟩ : ByteArray) ++ s, fun k hk => ?_⟩
      obtain ⟨k, rfl⟩ : ∃ m, k = m + 1 := ⟨k - 1, by omega⟩
      simp only [laws_markText.l0]
      rw [if_neg hx, if_pos (by omega)]
theorem markText_ok (n : Int) (h0 : 0 ≤ n) (h1 : n < 1000000000000000) : ∃ t, ∀ k, 20 ≤ k → laws_markText.f k n = some t := by
  by_cases hn : n ≤ 0
  · exact ⟨_, fun k _ => by unfold laws_markText.f; rw [if_pos hn]⟩
  · obtain ⟨t, ht⟩ := mt_loop 15 n ⟨#[]⟩ h0 (by omega) (by omega) (by decide)
    exact ⟨t, fun k hk => by unfold laws_markText.f; rw [if_neg hn]; exact ht k (by omega)⟩
def mt (n : Int) : ByteArray := (laws_markText.f 20 n).getD ⟨#[]⟩
theorem markText_eq {k : Nat} {n : Int} (hk : 20 ≤ k) (h0 : 0 ≤ n) (h1 : n < 1000000000000000) : laws_markText.f k n = some (mt n) := by
  obtain ⟨t, ht⟩ := markText_ok n h0 h1
  unfold mt
  rw [ht k hk, ht 20 (by omega)]
  rfl
theorem mark_loop {α : Type} {F : Nat → List α → Int → Int → Option (Int × List α)} {G : Int → α} {w : Nat}
    (hs : ∀ k (l : List α) (c : Int) (j : Nat), j < l.length → l.length ≤ 2000000 → 20 ≤ k → 0 ≤ c → c ≤ 100000000000000 → F (k + 1) l c (j : Int) = F k (l.set j (G c)) (c + w) ((j + 1 : Nat) : Int))
    (he : ∀ k (l : List α) (c : Int), F (k + 1) l c (l.length : Int) = some (c, l)) :
    ∀ (d j : Nat) (l : List α) (c : Int), l.length - j = d → j ≤ l.length → l.length ≤ 2000000 → 0 ≤ c → c + w * d ≤ 100000000000000 →
    ∃ l' : List α, l'.length = l.length ∧ (∀ i, i < j → l'[i]? = l[i]?) ∧ (∀ i, j ≤ i → i < l.length → l'[i]? = some (G (c + w * ((i - j : Nat) : Int)))) ∧ ∀ k, d + 20 < k → F k l c (j : Int) = some (c + w * d, l') := by
  intro d
  induction d with
  | zero =>
    intro j l c hd hj hl h0 h1
    obtain rfl : j = l.length := by omega
    refine ⟨l, rfl, fun _ _ => rfl, fun i h2 h3 => by omega, fun k hk => ?_⟩
    obtain ⟨k, rfl⟩ : ∃ m, k = m + 1 := ⟨k - 1, by omega⟩
    rw [he]
    simp
  | succ d ih =>
    intro j l c hd hj hl h0 h1
    have hmul : (w : Int) * ((d + 1 : Nat) : Int) = w + w * d := by rw [Int.natCast_succ, Int.mul_add, Int.mul_one, Int.add_comm]
    have hwd : 0 ≤ (w : Int) * (d : Int) := Int.mul_nonneg (by omega) (by omega)
    obtain ⟨l', hl', h2, h3, h4⟩ := ih (j + 1) (l.set j (G c)) (c + w) (by rw [List.length_set]; omega) (by rw [List.length_set]; omega) (by rw [List.length_set]; exact hl) (by omega) (by omega)
    rw [List.length_set] at hl' h3
    refine ⟨l', hl', fun i hi => ?_, fun i hi1 hi2 => ?_, fun k hk => ?_⟩
    · rw [h2 i (by omega), List.getElem?_set_ne (by omega)]
    · by_cases hij : i = j
      · subst hij
        rw [h2 i (by omega), List.getElem?_set_self (by omega)]
        simp
      · rw [h3 i (by omega) hi2]
        congr 2
        have : ((i - j : Nat) : Int) = ((i - (j + 1) : Nat) : Int) + 1 := by omega
        rw [this, Int.mul_add, Int.mul_one]
        omega
    · obtain ⟨k, rfl⟩ : ∃ m, k = m + 1 := ⟨k - 1, by omega⟩
      rw [hs k l c j (by omega) hl (by omega) h0 (by omega), h4 k (by omega), hmul]
      congr 2
      omega
theorem held_loop {α : Type} {F : Nat → List α → Int → Int → Option Int} {G : Int → α} {w : Nat} {l : List α}
    (hs : ∀ k (c : Int) (j : Nat) (hj : j < l.length), l.length ≤ 2000000 → 20 ≤ k → 0 ≤ c → c ≤ 100000000000000 → l[j] = G c → F (k + 1) l c (j : Int) = F k l (c + w) ((j + 1 : Nat) : Int))
    (he : ∀ k (c : Int), F (k + 1) l c (l.length : Int) = some c) (hl : l.length ≤ 2000000) :
    ∀ (d j : Nat) (c : Int), l.length - j = d → j ≤ l.length → 0 ≤ c → c + w * d ≤ 100000000000000 → (∀ i, j ≤ i → i < l.length → l[i]? = some (G (c + w * ((i - j : Nat) : Int)))) → ∀ k, d + 20 < k → F k l c (j : Int) = some (c + w * d) := by
  intro d
  induction d with
  | zero =>
    intro j c hd hj h0 h1 hG k hk
    obtain rfl : j = l.length := by omega
    obtain ⟨k, rfl⟩ : ∃ m, k = m + 1 := ⟨k - 1, by omega⟩
    rw [he]
    simp
  | succ d ih =>
    intro j c hd hj h0 h1 hG k hk
    obtain ⟨k, rfl⟩ : ∃ m, k = m + 1 := ⟨k - 1, by omega⟩
    have hjl : j < l.length := by omega
    have hmul : (w : Int) * ((d + 1 : Nat) : Int) = w + w * d := by rw [Int.natCast_succ, Int.mul_add, Int.mul_one, Int.add_comm]
    have hwd : 0 ≤ (w : Int) * (d : Int) := Int.mul_nonneg (by omega) (by omega)
    have hj0 : l[j] = G c := by
      have := hG j (Nat.le_refl _) hjl
      rw [List.getElem?_eq_getElem hjl] at this
      simpa using this
    rw [hs k c j hjl hl (by omega) h0 (by omega) hj0, ih (j + 1) (c + w) (by omega) (by omega) (by omega) (by omega) (fun i h2 h3 => ?_) k (by omega), hmul]
    · congr 1; omega
    · rw [hG i (by omega) h3]
      congr 2
      have : ((i - j : Nat) : Int) = ((i - (j + 1) : Nat) : Int) + 1 := by omega
      rw [this, Int.mul_add, Int.mul_one]
      omega

/-! ### m_String -/
theorem rdS_at {l : List ByteArray} {j : Nat} (h : j < l.length) : rdOf ByteArray.empty l (j : Int) = l[j] := by
  unfold rdOf
  rw [List.getD_eq_getElem?_getD, Int.toNat_natCast, List.getElem?_eq_getElem h]
  rfl
theorem markStringS_ok (l : List ByteArray) (c : Int) (hl : l.length ≤ 2000000) (h0 : 0 ≤ c) (h1 : c + 1 * l.length ≤ 100000000000000) :
    ∃ l' : List ByteArray, l'.length = l.length ∧ (∀ i, i < l.length → l'[i]? = some (mt (c + 1 * (i : Int)))) ∧ ∀ k, l.length + 20 < k → laws_markStringS.f k l c = some (c + 1 * l.length, l') := by
  obtain ⟨l', hl', _, h3, h4⟩ := mark_loop (F := fun k l c j => laws_markStringS.l0 k l c j) (G := mt) (w := 1) (fun k l c j hj hl hk h0 h1 => by
      simp (disch := omega) only [laws_markStringS.l0, ip, Option.bind_some, w64, markText_eq, List.set_set, Int.toNat_natCast]
      congr 1 <;> omega) (fun k l c => by simp only [laws_markStringS.l0]; rw [if_neg (by omega)]) l.length 0 l c (by omega) (by omega) hl h0 h1
  exact ⟨l', hl', fun i hi => by simpa using h3 i (by omega) hi, h4⟩
theorem heldStringS_ok (l : List ByteArray) (c : Int) (hl : l.length ≤ 2000000) (h0 : 0 ≤ c) (h1 : c + 1 * l.length ≤ 100000000000000) (hG : ∀ i, i < l.length → l[i]? = some (mt (c + 1 * (i : Int)))) :
    ∀ k, l.length + 20 < k → laws_heldStringS.f k l c = some (c + 1 * l.length) := by
  exact held_loop (F := fun k l c j => laws_heldStringS.l0 k l c j) (G := mt) (w := 1) (fun k c j hj hl hk h0 h1 hP => by
      have hr : rdOf ByteArray.empty l (j : Int) = mt c := by rw [rdS_at hj]; exact hP
      simp (disch := omega) only [laws_heldStringS.l0, hr, ip, Option.bind_some, w64, markText_eq, if_true, bne_self_eq_false, Bool.false_eq_true, if_false]
      congr 1 <;> omega) (fun k c => by simp only [laws_heldStringS.l0]; rw [if_neg (by omega)]) hl l.length 0 c (by omega) (by omega) h0 h1 (fun i _ hi => by simpa using hG i hi)
theorem markheldString (l : List ByteArray) (hl : l.length ≤ 2000000) (c : Int) (h0 : 0 ≤ c) (h1 : c ≤ 10000000000000) : ∃ (m : Int) (l' : List ByteArray), 0 ≤ m ∧ m ≤ c + 1 * l.length ∧ Ev (fun k => laws_markStringS.f k l c) (m, l') ∧ Ev (fun k => laws_heldStringS.f k l' c) m := by
  obtain ⟨l', hl', h2, h3⟩ := markStringS_ok l c hl h0 (by omega)
  refine ⟨c + 1 * l.length, l', by omega, by omega, ⟨l.length + 21, fun k hk => h3 k (by omega)⟩, ⟨l.length + 21, fun k hk => ?_⟩⟩
  have := heldStringS_ok l' c (by omega) h0 (by omega) (fun i hi => h2 i (by omega)) k (by omega)
  rw [hl'] at this
  exact this
theorem eqStringS_ok (l : List ByteArray) (hl : l.length ≤ 2000000) : ∀ k, l.length < k → laws_eqStringS.f k l l = some true := by
  intro k hk
  unfold laws_eqStringS.f
  rw [if_pos rfl]
  refine up_loop (F := fun k j => laws_eqStringS.l0 k l l j) (n := l.length) ?_ ?_ l.length 0 (by omega) (by omega) k hk
  · intro k j hj
    simp (disch := omega) only [laws_eqStringS.l0, ip, w64, Option.bind_some, if_true, bne_self_eq_false, Bool.false_eq_true, if_false]
    rfl
  · intro k
    simp only [laws_eqStringS.l0]
    rw [if_neg (by omega)]

/-! ### bits -/
theorem ev_up {β : Type} {F : Nat → Int → Option β} {n : Nat} {r : β} (hs : ∀ (j : Nat), j < n → Ev (fun k => F k ((j + 1 : Nat) : Int)) r → Ev (fun k => F k (j : Int)) r) (he : Ev (fun k => F k (n : Int)) r) :
    ∀ (d j : Nat), n - j = d → j ≤ n → Ev (fun k => F k (j : Int)) r := by
  intro d
  induction d with
  | zero =>
    intro j hd hj
    obtain rfl : j = n := by omega
    exact he
  | succ d ih =>
    intro j hd hj
    exact hs j (by omega) (ih (j + 1) (by omega) (by omega))
theorem ev_map {α β : Type} {F : Nat → List β → Int → Option (List β)} {g : α → β} {l : List α}
    (hs : ∀ (acc : List β) (j : Nat) (hj : j < l.length) (r : List β), acc.length = l.length → Ev (fun k => F k (acc.set j (g l[j])) ((j + 1 : Nat) : Int)) r → Ev (fun k => F k acc (j : Int)) r)
    (he : ∀ (acc : List β), Ev (fun k => F k acc (l.length : Int)) acc) :
    ∀ (d j : Nat) (acc : List β), l.length - j = d → j ≤ l.length → acc.length = l.length → (∀ i, i < j → acc[i]? = (l[i]?).map g) → Ev (fun k => F k acc (j : Int)) (l.map g) := by
  intro d
  induction d with
  | zero =>
    intro j acc hd hj hl ha
    obtain rfl : j = l.length := by omega
    have h := he acc
    have e : acc = l.map g := by
      apply List.ext_getElem?
      intro i
      rw [List.getElem?_map]
      by_cases hi : i < l.length
      · exact ha i hi
      · rw [List.getElem?_eq_none (by omega), List.getElem?_eq_none (by omega)]; rfl
    rw [← e]
    exact h
  | succ d ih =>
    intro j acc hd hj hl ha
    have hjl : j < l.length := by omega
    refine hs acc j hjl _ hl (ih (j + 1) _ (by omega) (by omega) (by rw [List.length_set]; exact hl) (fun i hi => ?_))
    by_cases hij : i = j
    · subst hij
      rw [List.getElem?_set_self (by omega), List.getElem?_eq_getElem hjl]
      rfl
    · rw [List.getElem?_set_ne (fun h => hij h.symm)]
      exact ha i (by omega)
def bOk (x : S82) : Prop := x.f2.length ≤ 1050000 ∧ x.f3.length ≤ 1050000 ∧ ∀ s ∈ x.f2, s.size ≤ 1050000
def bS (x : S82) : Prop := x.f2.length ≤ 1049000 ∧ x.f3.length ≤ 1049000 ∧ ∀ s ∈ x.f2, s.size ≤ 1050000
theorem bS.ok {x : S82} (h : bS x) : bOk x := ⟨Nat.le_trans h.1 (by omega), Nat.le_trans h.2.1 (by omega), h.2.2⟩
theorem rdB {l : List S82} {j : Nat} (h : j < l.length) : rd_T82 l (j : Int) = l[j] := by unfold rd_T82; exact getD_at _ h
def conB (x : S133) : S82 := ⟨x.f0, x.f1, x.f2, x.f3, x.f4, x.f5⟩
theorem rdL {l : List S133} {j : Nat} (h : j < l.length) : rd_T133 l (j : Int) = l[j] := by unfold rd_T133; exact getD_at _ h
theorem szS_ok (l : List ByteArray) (hl : l.length ≤ 140737488351232) (hw : ∀ s ∈ l, s.size ≤ 140737488351232) (left : Int) (h0 : 0 ≤ left) (h1 : left ≤ 1048576) :
    ∃ t, Ev (fun k => laws_szStringS.f k l left) t ∧ (t < 0 ∨ (0 ≤ t ∧ t ≤ left ∧ l.length ≤ 1048576 ∧ ∀ s ∈ l, s.size ≤ 1048576)) := by
  have hwl : wrap64 (left - (l.length : Int)) = left - l.length := w64 (by omega) (by omega)
  by_cases hn : left - (l.length : Int) < 0
  · exact ⟨-1, Ev.from_ 0 (fun k _ => by unfold laws_szStringS.f; rw [hwl, if_pos hn]), .inl (by omega)⟩
  · obtain ⟨t, ht, hc⟩ := sz_loop (F := fun k left j => laws_szStringS.l0 k l left j) (g := fun x left => some (wrap64 (left - (x.size : Int)))) (l := l) (P := fun s => s.size ≤ 1048576) (fun k left j hj _ => by
        have hr : rdOf ByteArray.empty l (j : Int) = l[j] := rdS_at hj
        simp only [laws_szStringS.l0, Option.bind_some]
        rw [if_pos (by omega), if_pos (by omega), hr, w64 (x := (j : Int) + 1) (by omega) (by omega)]
        rfl) (fun k left => by simp only [laws_szStringS.l0]; rw [if_neg (by omega)]) (fun x hx left h0 h1 => by
        have := hw x hx
        refine ⟨_, rfl, ?_⟩
        rw [w64 (by omega) (by omega)]
        by_cases h : left - (x.size : Int) < 0
        · exact .inl h
        · exact .inr ⟨by omega, by omega, by omega⟩) (by omega) l.length 0 (left - l.length) (by omega) (by omega) (by omega) (by omega)
    refine ⟨t, Ev.from_ (l.length + 1) (fun k hk => by unfold laws_szStringS.f; rw [hwl, if_neg hn]; exact ht k (by omega)), ?_⟩
    rcases hc with hc | ⟨h2, h3, h4⟩
    · exact .inl hc
    · refine .inr ⟨h2, by omega, by omega, fun s hs => ?_⟩
      obtain ⟨i, hi, rfl⟩ := List.mem_iff_getElem.1 hs
      exact h4 i hi (by omega)
theorem szI_ok (l : List Int) (hl : l.length ≤ 140737488351232) (left : Int) (h0 : 0 ≤ left) (h1 : left ≤ 1048576) :
    ∃ t, laws_szIntS.f l left = some t ∧ (t < 0 ∨ (0 ≤ t ∧ t ≤ left ∧ l.length ≤ 1048576)) := by
  have hwl : wrap64 (left - (l.length : Int)) = left - l.length := w64 (by omega) (by omega)
  unfold laws_szIntS.f
  rw [hwl]
  by_cases hn : left - (l.length : Int) < 0
  · exact ⟨-1, if_pos hn, .inl (by omega)⟩
  · exact ⟨_, if_neg hn, .inr ⟨by omega, by omega, by omega⟩⟩
def wB (x : S133) : Prop := x.f2.length ≤ 140737488351232 ∧ x.f3.length ≤ 140737488351232 ∧ ∀ s ∈ x.f2, s.size ≤ 140737488351232
theorem szB_ok (x : S133) (hw : wB x) (left : Int) (h0 : 0 ≤ left) (h1 : left ≤ 1048576) :
    ∃ t, Ev (fun k => laws_szBits.f k x.f0 x.f1 x.f2 x.f3 x.f4 x.f5 left) t ∧ (t < 0 ∨ (0 ≤ t ∧ t ≤ left ∧ bS (conB x))) := by
  obtain ⟨t, ht, hc⟩ := szS_ok x.f2 hw.1 hw.2.2 left h0 h1
  rcases hc with hc | ⟨h2, h3, h4, h5⟩
  · refine ⟨-1, ?_, .inl (by omega)⟩
    unfold laws_szBits.f
    refine Ev.bind ht ?_
    rw [if_pos hc]
    exact Ev.now _
  · obtain ⟨q, hq, hd⟩ := szI_ok x.f3 hw.2.1 t h2 (by omega)
    by_cases hn : q < 0
    · refine ⟨-1, ?_, .inl (by omega)⟩
      unfold laws_szBits.f
      refine Ev.bind ht ?_
      rw [if_neg (by omega), hq]
      simp only [Option.bind_some]
      rw [if_pos hn]
      exact Ev.now _
    · obtain ⟨h6, h7, h8⟩ := hd.resolve_left hn
      refine ⟨q, ?_, .inr ⟨h6, by omega, Nat.le_trans h4 (by omega), Nat.le_trans h8 (by omega), fun s hs => Nat.le_trans (h5 s hs) (by omega)⟩⟩
      unfold laws_szBits.f
      refine Ev.bind ht ?_
      rw [if_neg (by omega), hq]
      simp only [Option.bind_some]
      rw [if_neg hn]
      exact Ev.now _
theorem szBS_loop (l : List S133) (hl : l.length ≤ 2000000) (hw : ∀ x ∈ l, wB x) : ∀ (d j : Nat) (left : Int), l.length - j = d → j ≤ l.length → 0 ≤ left → left ≤ 1048576 →
    ∃ t, Ev (fun k => laws_szBitsS.l0 k l left (j : Int)) t ∧ (t < 0 ∨ ∀ (i : Nat) (hi : i < l.length), j ≤ i → bS (conB l[i])) := by
  intro d
  induction d with
  | zero =>
    intro j left hd hj h0 h1
    exact ⟨left, Ev.step (f := fun _ => some left) (fun k => by simp only [laws_szBitsS.l0]; rw [if_neg (by omega)]) (Ev.now _), .inr (fun i hi hji => absurd hi (by omega))⟩
  | succ d ih =>
    intro j left hd hj h0 h1
    have hjl : j < l.length := by omega
    obtain ⟨t, ht, hc⟩ := szB_ok l[j] (hw _ (List.getElem_mem hjl)) left h0 h1
    have hstep : ∀ (q : Int), Ev (fun k => if t < 0 then some (-1) else laws_szBitsS.l0 k l t ((j + 1 : Nat) : Int)) q → Ev (fun k => laws_szBitsS.l0 k l left (j : Int)) q := by
      intro q hq
      refine Ev.step (fun k => rfl) ?_
      simp only [laws_szBitsS.l0, if_pos (show (j : Int) < (l.length : Int) by omega), if_pos (show (0 : Int) ≤ (j : Int) by omega), rdL hjl, w64 (x := (j : Int) + 1) (by omega) (by omega)]
      exact Ev.bind ht hq
    rcases hc with hc | ⟨h2, h3, h4⟩
    · exact ⟨-1, hstep _ (by simp only [if_pos hc]; exact Ev.now _), .inl (by omega)⟩
    · obtain ⟨q, hq, hd2⟩ := ih (j + 1) t (by omega) (by omega) h2 (by omega)
      refine ⟨q, hstep _ (by simp only [if_neg (show ¬ t < 0 by omega)]; exact hq), ?_⟩
      rcases hd2 with h | h
      · exact .inl h
      · refine .inr (fun i hi hji => ?_)
        by_cases hij : i = j
        · subst hij; exact h4
        · exact h i hi (by omega)
theorem szBitsS_ok (l : List S133) (hl : l.length ≤ 140737488351232) (hw : ∀ x ∈ l, wB x) : ∃ t, Ev (fun k => laws_szBitsS.f k l 1048576) t ∧ (t < 0 ∨ (l.length ≤ 1048576 ∧ ∀ x ∈ l.map conB, bS x)) := by
  have hwl : wrap64 (1048576 - (l.length : Int)) = 1048576 - l.length := w64 (by omega) (by omega)
  by_cases hn : 1048576 - (l.length : Int) < 0
  · exact ⟨-1, Ev.from_ 0 (fun k _ => by unfold laws_szBitsS.f; rw [hwl, if_pos hn]), .inl (by omega)⟩
  · obtain ⟨t, ht, hc⟩ := szBS_loop l (by omega) hw l.length 0 (1048576 - l.length) (by omega) (by omega) (by omega) (by omega)
    refine ⟨t, ?_, ?_⟩
    · unfold laws_szBitsS.f
      rw [hwl]
      simp only [if_neg hn]
      exact ht
    · rcases hc with h | h
      · exact .inl h
      · refine .inr ⟨by omega, fun x hx => ?_⟩
        obtain ⟨y, hy, rfl⟩ := List.mem_map.1 hx
        obtain ⟨i, hi, rfl⟩ := List.mem_iff_getElem.1 hy
        exact h i hi (by omega)
theorem toS_ok (l : List ByteArray) (hl : l.length ≤ 2000000) : Ev (fun k => laws_toStringS.f k l) l := by
  refine ⟨l.length + 1, fun k hk => ?_⟩
  show laws_toStringS.f k l = some l
  unfold laws_toStringS.f
  rw [if_pos (by omega), if_pos (by omega)]
  have := map_loop (F := fun k acc j => laws_toStringS.l0 k l acc j) (g := fun x : ByteArray => x) (l := l) ?_ ?_ l.length 0 (List.replicate ((l.length : Int) : Int).toNat ⟨#[]⟩) (by omega) (by omega) (by simp) (fun i hi => absurd hi (by omega)) k (by omega)
  · simpa using this
  · intro k acc j hj ha
    simp only [laws_toStringS.l0]
    rw [if_pos (by omega), if_pos (by omega), if_pos (by omega), w64 (by omega) (by omega), rdS_at hj]
    rfl
  · intro k acc
    simp only [laws_toStringS.l0]
    rw [if_neg (by omega)]
theorem toI_ok (l : List Int) (hl : l.length ≤ 2000000) : Ev (fun k => laws_toIntS.f k l) l := by
  refine ⟨l.length + 1, fun k hk => ?_⟩
  show laws_toIntS.f k l = some l
  unfold laws_toIntS.f
  rw [if_pos (by omega), if_pos (by omega)]
  have := map_loop (F := fun k acc j => laws_toIntS.l0 k l acc j) (g := fun x : Int => x) (l := l) ?_ ?_ l.length 0 (List.replicate ((l.length : Int) : Int).toNat 0) (by omega) (by omega) (by simp) (fun i hi => absurd hi (by omega)) k (by omega)
  · simpa using this
  · intro k acc j hj ha
    simp only [laws_toIntS.l0]
    rw [if_pos (by omega), if_pos (by omega), if_pos (by omega), w64 (by omega) (by omega)]
    unfold rd
    rw [getD_at _ hj]
    rfl
  · intro k acc
    simp only [laws_toIntS.l0]
    rw [if_neg (by omega)]
theorem toBitsS_ok (l : List S133) (hl : l.length ≤ 1048576) (hb : ∀ x ∈ l.map conB, bOk x) : Ev (fun k => laws_toBitsS.f k l) (l.map conB) := by
  unfold laws_toBitsS.f
  simp only [if_pos (show (0 : Int) ≤ (l.length : Int) by omega), if_pos (show ((l.length : Int) : Int).toNat ≤ 3518437208883 by omega)]
  refine ev_map (F := fun k acc j => laws_toBitsS.l0 k l acc j) (g := conB) (l := l) ?_ ?_ l.length 0 (List.replicate ((l.length : Int) : Int).toNat z82) (by omega) (by omega) (by simp) (fun i hi => absurd hi (by omega))
  · intro acc j hj r ha h
    obtain ⟨b1, b2, _⟩ := hb _ (List.mem_map.2 ⟨l[j], List.getElem_mem hj, rfl⟩)
    refine Ev.step (fun k => rfl) ?_
    have hto : Ev (fun k => laws_toBits.f k l[j].f0 l[j].f1 l[j].f2 l[j].f3 l[j].f4 l[j].f5) (l[j].f0, l[j].f1, l[j].f2, l[j].f3, l[j].f4, l[j].f5) := by
      unfold laws_toBits.f
      exact Ev.bind (toS_ok _ (Nat.le_trans b1 (by omega))) (Ev.bind (toI_ok _ (Nat.le_trans b2 (by omega))) (Ev.now _))
    simp only [laws_toBitsS.l0, if_pos (show (j : Int) < (l.length : Int) by omega), if_pos (show (0 : Int) ≤ (j : Int) by omega), rdL hj, w64 (x := (j : Int) + 1) (by omega) (by omega)]
    refine Ev.bind hto ?_
    simp only [if_pos (show (j : Int) < (acc.length : Int) by omega), Int.toNat_natCast]
    exact h
  · intro acc
    exact Ev.step (f := fun _ => some acc) (fun k => by simp only [laws_toBitsS.l0]; rw [if_neg (by omega)]) (Ev.now _)
theorem cpI_ok (l : List Int) (hl : l.length ≤ 2000000) : impl_copyInts.f l = some l := by
  unfold impl_copyInts.f
  simp only [Option.bind_some, List.length_nil, List.nil_append]
  rw [if_pos (by omega)]
theorem cpB_loop (l : List S82) (hl : l.length ≤ 2000000) (hx : ∀ x ∈ l, x.f2.length ≤ 2000000 ∧ x.f3.length ≤ 2000000) : ∀ (d j : Nat), l.length - j = d → j ≤ l.length → Ev (fun k => impl_copyBits.l0 k (l.take j) l (l.length : Int) (j : Int)) l := by
  intro d
  induction d with
  | zero =>
    intro j hd hj
    rw [List.take_of_length_le (by omega)]
    exact Ev.step (f := fun _ => some l) (fun k => by simp only [impl_copyBits.l0]; rw [if_neg (by omega)]) (Ev.now _)
  | succ d ih =>
    intro j hd hj
    have hjl : j < l.length := by omega
    obtain ⟨h1, h2⟩ := hx _ (List.getElem_mem hjl)
    refine Ev.step (fun k => rfl) ?_
    have hlen : (l.take j).length < 1759218604441 := by rw [List.length_take]; omega
    simp only [impl_copyBits.l0, if_pos (show (j : Int) < (l.length : Int) by omega), if_pos (show (0 : Int) ≤ (j : Int) by omega), rdB hjl, Option.bind_some, List.length_nil, List.nil_append, if_pos (show 0 + l[j].f2.length < 8796093022208 by omega), cpI_ok l[j].f3 h2, if_pos hlen, w64 (x := (j : Int) + 1) (by omega) (by omega)]
    have := ih (j + 1) (by omega) (by omega)
    rw [List.take_succ_eq_append_getElem hjl] at this
    exact this
theorem cpB_ok (l : List S82) (hl : l.length ≤ 2000000) (hx : ∀ x ∈ l, x.f2.length ≤ 2000000 ∧ x.f3.length ≤ 2000000) : Ev (fun k => impl_copyBits.f k l) l := by
  have := cpB_loop l hl hx l.length 0 (by omega) (by omega)
  rw [List.take_zero] at this
  exact this
theorem cqB_loop (l : List S82) (hl : l.length ≤ 2000000) (hx : ∀ x ∈ l, x.f2.length ≤ 2000000 ∧ x.f3.length ≤ 2000000) : ∀ (d j : Nat), l.length - j = d → j ≤ l.length → Ev (fun k => spec_l11CopyBits.l0 k l (l.take j) (j : Int)) l := by
  intro d
  induction d with
  | zero =>
    intro j hd hj
    rw [List.take_of_length_le (by omega)]
    exact Ev.step (f := fun _ => some l) (fun k => by simp only [spec_l11CopyBits.l0]; rw [if_neg (by omega)]) (Ev.now _)
  | succ d ih =>
    intro j hd hj
    have hjl : j < l.length := by omega
    obtain ⟨h1, h2⟩ := hx _ (List.getElem_mem hjl)
    refine Ev.step (fun k => rfl) ?_
    have hlen : (l.take j).length < 1759218604441 := by rw [List.length_take]; omega
    simp only [spec_l11CopyBits.l0, if_pos (show (j : Int) < (l.length : Int) by omega), if_pos (show (0 : Int) ≤ (j : Int) by omega), rdB hjl, Option.bind_some, List.length_nil, List.nil_append, if_pos (show 0 + l[j].f2.length < 8796093022208 by omega), if_pos (show 0 + l[j].f3.length < 17592186044416 by omega), if_pos hlen, w64 (x := (j : Int) + 1) (by omega) (by omega)]
    have := ih (j + 1) (by omega) (by omega)
    rw [List.take_succ_eq_append_getElem hjl] at this
    exact this
theorem cqB_ok (l : List S82) (hl : l.length ≤ 2000000) (hx : ∀ x ∈ l, x.f2.length ≤ 2000000 ∧ x.f3.length ≤ 2000000) : Ev (fun k => spec_l11CopyBits.f k l) l := by
  have := cqB_loop l hl hx l.length 0 (by omega) (by omega)
  rw [List.take_zero] at this
  exact this
theorem eqI_ok (l : List Int) (hl : l.length ≤ 2000000) : Ev (fun k => laws_eqIntS.f k l l) true := by
  refine ⟨l.length + 1, fun k hk => ?_⟩
  show laws_eqIntS.f k l l = some true
  unfold laws_eqIntS.f
  rw [if_pos rfl]
  refine up_loop (F := fun k j => laws_eqIntS.l0 k l l j) (n := l.length) ?_ ?_ l.length 0 (by omega) (by omega) k (by omega)
  · intro k j hj
    simp (disch := omega) only [laws_eqIntS.l0, ip, w64, if_true]
    rfl
  · intro k
    simp only [laws_eqIntS.l0]
    rw [if_neg (by omega)]
theorem eqB_ok (x : S82) (hx : bOk x) : Ev (fun k => laws_eqBits.f k x.f0 x.f1 x.f2 x.f3 x.f4 x.f5 x.f0 x.f1 x.f2 x.f3 x.f4 x.f5) true := by
  unfold laws_eqBits.f
  simp only [if_true]
  refine Ev.bind (a := true) ⟨x.f2.length + 1, fun k hk => eqStringS_ok x.f2 (by have := hx.1; omega) k (by omega)⟩ ?_
  simp only [if_true]
  refine Ev.bind (eqI_ok x.f3 (by have := hx.2.1; omega)) ?_
  simp only [if_true]
  exact Ev.now _
theorem eqBitsS_ok (l : List S82) (hl : l.length ≤ 2000000) (hb : ∀ x ∈ l, bOk x) : Ev (fun k => laws_eqBitsS.f k l l) true := by
  unfold laws_eqBitsS.f
  simp only [eq_self, if_true]
  refine ev_up (F := fun k j => laws_eqBitsS.l0 k l l j) (n := l.length) ?_ ?_ l.length 0 (by omega) (by omega)
  · intro j hj h
    refine Ev.step (fun k => rfl) ?_
    simp only [laws_eqBitsS.l0, if_pos (show (j : Int) < (l.length : Int) by omega), if_pos (show (0 : Int) ≤ (j : Int) by omega), rdB hj, w64 (x := (j : Int) + 1) (by omega) (by omega)]
    refine Ev.bind (eqB_ok _ (hb _ (List.getElem_mem hj))) ?_
    simp only [if_true]
    exact h
  · exact Ev.step (f := fun _ => some true) (fun k => by simp only [laws_eqBitsS.l0]; rw [if_neg (by omega)]) (Ev.now _)
theorem rdI_at {l : List Int} {j : Nat} (h : j < l.length) : rd l (j : Int) = l[j] := by unfold rd; exact getD_at _ h
theorem markheldInt (l : List Int) (hl : l.length ≤ 2000000) (c : Int) (h0 : 0 ≤ c) (h1 : c ≤ 10000000000000) : ∃ (m : Int) (l' : List Int), 0 ≤ m ∧ m ≤ c + 1 * l.length ∧ Ev (fun k => laws_markIntS.f k l c) (m, l') ∧ Ev (fun k => laws_heldIntS.f k l' c) m := by
  obtain ⟨l', hl', _, h3, h4⟩ := mark_loop (F := fun k l c j => laws_markIntS.l0 k l c j) (G := fun x : Int => x) (w := 1) (fun k l c j hj hl hk h0 h1 => by
      simp (disch := omega) only [laws_markIntS.l0, ip, Option.bind_some, w64, List.set_set, Int.toNat_natCast]
      congr 1 <;> omega) (fun k l c => by simp only [laws_markIntS.l0]; rw [if_neg (by omega)]) l.length 0 l c (by omega) (by omega) hl h0 (by omega)
  refine ⟨c + 1 * l.length, l', by omega, by omega, ⟨l.length + 21, fun k hk => h4 k (by omega)⟩, ⟨l.length + 21, fun k hk => ?_⟩⟩
  have := held_loop (F := fun k l c j => laws_heldIntS.l0 k l c j) (G := fun x : Int => x) (w := 1) (l := l') (fun k c j hj hl hk h0 h1 hP => by
      have hr : rd l' (j : Int) = c := by rw [rdI_at hj]; exact hP
      simp (disch := omega) only [laws_heldIntS.l0, hr, ip, Option.bind_some, w64, if_true]
      congr 1 <;> omega) (fun k c => by simp only [laws_heldIntS.l0]; rw [if_neg (by omega)]) (by omega) l'.length 0 c (by omega) (by omega) h0 (by omega) (fun i _ hi => by simpa using h3 i (by omega) (by omega)) k (by omega)
  rw [hl'] at this
  exact this
theorem markheldBits : ∀ (l : List S82) (c : Int), (∀ x ∈ l, bOk x) → l.length ≤ 1048577 → 0 ≤ c → c + l.length * 4000000 ≤ 9000000000000 →
    ∃ (m : Int) (l' : List S82), l'.length = l.length ∧ 0 ≤ m ∧ Ev (fun k => laws_markBitsS.go k l c) (m, l') ∧ ∀ pre : List S82, pre.length + l.length ≤ 2000000 → Ev (fun k => laws_heldBitsS.l0 k (pre ++ l') c (pre.length : Int)) m
  | [], c, _, _, h0, _ => ⟨c, [], rfl, h0, Ev.now _, fun pre _ => Ev.step (f := fun _ => some c) (fun k => by simp only [laws_heldBitsS.l0, List.append_nil]; rw [if_neg (by omega)]) (Ev.now _)⟩
  | x :: xs, c, hb, hl, h0, hc => by
    rw [List.length_cons] at hl hc
    obtain ⟨b1, b2, _⟩ := hb x List.mem_cons_self
    obtain ⟨p, t2, hp0, hp1, hpm, hph⟩ := markheldString x.f2 (by omega) (c + 2) (by omega) (by omega)
    obtain ⟨q, t3, hq0, hq1, hqm, hqh⟩ := markheldInt x.f3 (by omega) p hp0 (by omega)
    obtain ⟨m, l', hl', hm0, hmm, hmh⟩ := markheldBits xs (q + 2) (fun y hy => hb y (List.mem_cons_of_mem _ hy)) (by omega) (by omega) (by omega)
    have w1 : wrap64 (c + 1) = c + 1 := w64 (by omega) (by omega)
    have w2 : wrap64 (c + 1 + 1) = c + 2 := (w64 (by omega) (by omega)).trans (by omega)
    have w3 : wrap64 (q + 1) = q + 1 := w64 (by omega) (by omega)
    have w4 : wrap64 (q + 1 + 1) = q + 2 := (w64 (by omega) (by omega)).trans (by omega)
    refine ⟨m, ⟨c, c + 1, t2, t3, q, q + 1⟩ :: l', by rw [List.length_cons, List.length_cons, hl'], hm0, ?_, fun pre hpre => ?_⟩
    · show Ev (fun k => (laws_markStringS.f k x.f2 (wrap64 (wrap64 (c + 1) + 1))).bind fun p => (laws_markIntS.f k x.f3 p.1).bind fun q => (laws_markBitsS.go k xs (wrap64 (wrap64 (q.1 + 1) + 1))).bind fun r => some (r.1, (⟨c, wrap64 (c + 1), p.2, q.2, q.1, wrap64 (q.1 + 1)⟩ : S82) :: r.2)) _
      rw [w1, w2]
      refine Ev.bind hpm (Ev.bind hqm ?_)
      show Ev (fun k => (laws_markBitsS.go k xs (wrap64 (wrap64 (q + 1) + 1))).bind fun r => some (r.1, (⟨c, c + 1, t2, t3, q, wrap64 (q + 1)⟩ : S82) :: r.2)) _
      rw [w3, w4]
      exact Ev.bind hmm (Ev.now _)
    · rw [List.length_cons] at hpre
      have hj : pre.length < (pre ++ (⟨c, c + 1, t2, t3, q, q + 1⟩ : S82) :: l').length := by rw [List.length_append, List.length_cons]; omega
      have hg : (pre ++ (⟨c, c + 1, t2, t3, q, q + 1⟩ : S82) :: l')[pre.length] = ⟨c, c + 1, t2, t3, q, q + 1⟩ := by rw [List.getElem_append_right (Nat.le_refl _)]; simp
      have hr := rdB hj
      rw [hg] at hr
      have ih := hmh (pre ++ [(⟨c, c + 1, t2, t3, q, q + 1⟩ : S82)]) (by rw [List.length_append, List.length_singleton]; omega)
      rw [List.append_assoc, List.singleton_append, List.length_append, List.length_singleton] at ih
      refine Ev.step (fun k => rfl) ?_
      simp only [laws_heldBitsS.l0, if_pos (show (pre.length : Int) < ((pre ++ (⟨c, c + 1, t2, t3, q, q + 1⟩ : S82) :: l').length : Int) by omega), if_pos (show (0 : Int) ≤ (pre.length : Int) by omega), hr, w1, w2, if_true, w64 (x := (pre.length : Int) + 1) (by omega) (by omega)]
      refine Ev.bind hph ?_
      simp only [if_neg (show ¬ p < 0 by omega)]
      refine Ev.bind hqh ?_
      simp only [if_neg (show ¬ q < 0 by omega), w3, w4, if_true]
      exact ih

/-! ### in -/
def rng (a b c : Int) : Bool := decide (b ≤ a) && decide (a ≤ c)
theorem rng_iff {a b c : Int} : rng a b c = true ↔ b ≤ a ∧ a ≤ c := by simp [rng]
theorem in_eq (a b c : Int) : spec_l01In.f a b c = some (rng a b c) := by
  unfold spec_l01In.f rng
  by_cases h : b ≤ a
  · rw [if_pos h]; simp [h]
  · rw [if_neg h]; simp [h]
theorem within_eq (a b c : Int) : impl_within.f a b c = some (rng a b c) := by
  unfold impl_within.f rng
  by_cases h : b ≤ a
  · rw [if_pos h]; simp [h]
  · rw [if_neg h]; simp [h]

/-! ### dgok -/
def dgB (a b c d : Int) (e : Bool) (s : ByteArray) : Bool :=
  rng a 1 99 && (rng b 1 99 && (rng c 0 65535 && (rng d 0 160 && (decide (Int.tmod d 8 = 0) && (rng (s.size : Int) 1 (wrap64 (160 - d)) && (!e || ((s.size : Int) % 8 == 0)))))))
theorem spec_dgB (a b c d : Int) (e : Bool) (s : ByteArray) : spec_DgramOk.f a b c d e s = some (dgB a b c d e s) := by
  unfold spec_DgramOk.f dgB
  simp only [in_eq, Option.bind_some]
  by_cases h8 : Int.tmod d 8 = 0
  · simp only [if_pos h8]
    cases rng a 1 99 <;> cases rng b 1 99 <;> cases rng c 0 65535 <;> cases rng d 0 160 <;> cases rng (s.size : Int) 1 (wrap64 (160 - d)) <;> cases e <;> simp [h8]
  · simp only [if_neg h8]
    cases rng a 1 99 <;> cases rng b 1 99 <;> cases rng c 0 65535 <;> cases rng d 0 160 <;> simp [h8]
theorem impl_dgB (a b c d : Int) (e : Bool) (s : ByteArray) : impl_DgramOk.f a b c d e s = some (dgB a b c d e s) := by
  unfold impl_DgramOk.f impl_isAddr.f impl_isWord.f dgB
  simp only [within_eq, Option.bind_some]
  by_cases h8 : Int.tmod d 8 = 0
  · simp only [if_pos h8]
    cases rng a 1 99 <;> cases rng b 1 99 <;> cases rng c 0 65535 <;> cases rng d 0 160 <;> cases rng (s.size : Int) 1 (wrap64 (160 - d)) <;> cases e <;> simp [h8]
  · simp only [if_neg h8]
    cases rng a 1 99 <;> cases rng b 1 99 <;> cases rng c 0 65535 <;> cases rng d 0 160 <;> simp [h8]
theorem dgB_iff {a b c d : Int} {e : Bool} {s : ByteArray} (h : dgB a b c d e s = true) : (1 ≤ a ∧ a ≤ 99) ∧ (1 ≤ b ∧ b ≤ 99) ∧ (0 ≤ c ∧ c ≤ 65535) ∧ (0 ≤ d ∧ d ≤ 160) ∧ d % 8 = 0 ∧ (1 ≤ (s.size : Int) ∧ (s.size : Int) ≤ 160 - d) ∧ (e = true → (s.size : Int) % 8 = 0) := by
  unfold dgB at h
  simp only [Bool.and_eq_true, decide_eq_true_eq, rng_iff, Bool.or_eq_true, Bool.not_eq_true', beq_iff_eq] at h
  obtain ⟨ha, hb, hc, hd, h8, hs, he⟩ := h
  rw [w64 (by omega) (by omega)] at hs
  rw [Int.tmod_eq_emod_of_nonneg hd.1] at h8
  refine ⟨ha, hb, hc, hd, h8, hs, fun h => ?_⟩
  rcases he with he | he
  · rw [h] at he; cases he
  · exact he

/-! ### bl -/
theorem bl_inj {s t : ByteArray} (h : bytesOf s = bytesOf t) : s = t := by
  unfold bytesOf at h
  have h2 : s.data.toList = t.data.toList := by
    apply List.ext_getElem?
    intro i
    have h3 := congrArg (fun l => l[i]?) h
    simp only [List.getElem?_map] at h3
    cases h4 : s.data.toList[i]? <;> cases h5 : t.data.toList[i]? <;> rw [h4, h5] at h3 <;> simp at h3 ⊢
    exact UInt8.toNat_inj.1 (by omega)
  exact ByteArray.ext (by rw [← Array.toArray_toList (xs := s.data), h2])
theorem bl_empty : bytesOf (⟨#[]⟩ : ByteArray) = [] := rfl
theorem toList_nil {s : ByteArray} : s.toList = ([] : List UInt8) ↔ bytesOf s = [] := by
  rw [ByteArray.toList_eq]
  unfold bytesOf
  simp

/-! ### joinboth -/
/-! impl.JoinBits and spec.JoinBits answer alike -/
theorem rdi_at {l : List Int} {j : Nat} (h : j < l.length) : rd l (j : Int) = l[j] := by unfold rd; exact getD_at _ h
theorem first_at (p : Nat → Bool) : ∀ n, (∀ m, m < n → p m = false) ∨ ∃ j, j < n ∧ p j = true ∧ ∀ m, m < j → p m = false
  | 0 => .inl (fun m hm => absurd hm (Nat.not_lt_zero _))
  | n + 1 => by
    rcases first_at p n with h | ⟨j, hj, h1, h2⟩
    · cases hp : p n with
      | true => exact .inr ⟨n, Nat.lt_succ_self _, hp, h⟩
      | false =>
        refine .inl (fun m hm => ?_)
        by_cases he : m = n
        · rw [he]; exact hp
        · exact h m (by omega)
    · exact .inr ⟨j, by omega, h1, h2⟩
def tst {α : Type} (p : α → Bool) (l : List α) (j : Nat) : Bool := match l[j]? with | some x => p x | none => false
theorem tst_at {α : Type} {p : α → Bool} {l : List α} {j : Nat} (h : j < l.length) : tst p l j = p l[j] := by unfold tst; rw [List.getElem?_eq_getElem h]
theorem idx_both (l : List Int) (x : Int) (hl : l.length ≤ 2000000) (b : Int) (hb : (b = -1 ∧ ∀ m, m < l.length → tst (fun y => y == x) l m = false) ∨ ∃ j : Nat, j < l.length ∧ b = (j : Int) ∧ tst (fun y => y == x) l j = true ∧ ∀ m, m < j → tst (fun y => y == x) l m = false) :
    Ev (fun k => slices_Index_int_int.f k l x) b := by
  have key : ∀ (d j : Nat), l.length - j = d → j ≤ l.length → (∀ m, m < j → tst (fun y => y == x) l m = false) → Ev (fun k => slices_Index_int_int.l0 k l x (l.length : Int) (j : Int)) b := by
    intro d
    induction d with
    | zero =>
      intro j hd hj hn
      rcases hb with ⟨rfl, _⟩ | ⟨q, hq, _, h1, _⟩
      · exact Ev.step (f := fun _ => some (-1)) (fun k => by simp only [slices_Index_int_int.l0]; rw [if_neg (by omega)]) (Ev.now _)
      · rw [hn q (by omega)] at h1; cases h1
    | succ d ih =>
      intro j hd hj hn
      have hjl : j < l.length := by omega
      by_cases h : x = l[j]
      · have ht : tst (fun y => y == x) l j = true := by rw [tst_at hjl]; simp [← h]
        have hbj : b = (j : Int) := by
          rcases hb with ⟨_, h2⟩ | ⟨q, hq, hbq, h1, h2⟩
          · rw [h2 j hjl] at ht; cases ht
          · rcases Nat.lt_trichotomy q j with h3 | h3 | h3
            · rw [hn q h3] at h1; cases h1
            · rw [hbq, h3]
            · rw [h2 j h3] at ht; cases ht
        rw [hbj]
        exact Ev.step (f := fun _ => some (j : Int)) (fun k => by simp only [slices_Index_int_int.l0]; rw [if_pos (by omega), if_pos (by omega), if_pos (by omega), rdi_at hjl, if_pos h]) (Ev.now _)
      · have ht : tst (fun y => y == x) l j = false := by rw [tst_at hjl]; simp; exact fun e => h e.symm
        refine Ev.step (f := fun k => slices_Index_int_int.l0 k l x (l.length : Int) ((j + 1 : Nat) : Int)) (fun k => ?_) (ih (j + 1) (by omega) (by omega) (fun m hm => by
          by_cases he : m = j
          · rw [he]; exact ht
          · exact hn m (by omega)))
        simp only [slices_Index_int_int.l0]
        rw [if_pos (by omega), if_pos (by omega), if_pos (by omega), rdi_at hjl, if_neg h, w64 (by omega) (by omega)]
        rfl
  exact key l.length 0 (by omega) (by omega) (fun m hm => absurd hm (Nat.not_lt_zero _))
section
variable {a b u : Int} {X : List ByteArray} {L : List Int} {T : Int}
theorem inner_none (s : ByteArray) (r : Int) (hL : L.length ≤ 2000000) (q : ByteArray × Bool) (hq : Ev (fun k => spec_l11Whole.l0 k s (wrap64 (r + 1)) a b X L T u) q) :
    ∀ (d i : Nat), L.length - i = d → i ≤ L.length → (∀ m, i ≤ m → m < L.length → tst (fun y => y == (s.size : Int)) L m = true → ¬ m < X.length) → Ev (fun k => spec_l11Whole.l1 k s r (i : Int) a b X L T u) q := by
  intro d
  induction d with
  | zero =>
    intro i hd hi _
    exact Ev.step (fun k => by simp only [spec_l11Whole.l1]; rw [if_neg (by omega)]) hq
  | succ d ih =>
    intro i hd hi hn
    have hil : i < L.length := by omega
    have h := ih (i + 1) (by omega) (by omega) (fun m hm => hn m (by omega))
    refine Ev.step (f := fun k => spec_l11Whole.l1 k s r ((i + 1 : Nat) : Int) a b X L T u) (fun k => ?_) h
    simp only [spec_l11Whole.l1]
    rw [if_pos (by omega), if_pos (by omega), rdi_at hil, w64 (x := (i : Int) + 1) (by omega) (by omega)]
    by_cases he : L[i] = (s.size : Int)
    · have hx := hn i (Nat.le_refl _) hil (by rw [tst_at hil]; simp [he])
      rw [if_pos he, if_neg (by omega)]
      rfl
    · rw [if_neg he]
      rfl
theorem inner_some (s : ByteArray) (r : Int) (hL : L.length ≤ 2000000) {j : Nat} (hj : j < L.length) (hx : j < X.length) (ht : tst (fun y => y == (s.size : Int)) L j = true) (hsz : s.size + X[j].size ≤ 9223372036854775807) (q : ByteArray × Bool) (hq : Ev (fun k => spec_l11Whole.l0 k (s ++ X[j]) (wrap64 (r + 1)) a b X L T u) q) :
    ∀ (d i : Nat), j - i = d → i ≤ j → (∀ m, i ≤ m → m < j → tst (fun y => y == (s.size : Int)) L m = false) → Ev (fun k => spec_l11Whole.l1 k s r (i : Int) a b X L T u) q := by
  intro d
  induction d with
  | zero =>
    intro i hd hi _
    obtain rfl : i = j := by omega
    have he : L[i] = (s.size : Int) := by rw [tst_at hj] at ht; simpa using ht
    have hr : rdOf ByteArray.empty X (i : Int) = X[i] := rdS_at hx
    refine Ev.step (f := fun k => spec_l11Whole.l1 k (s ++ X[i]) r (wrap64 ((L.length : Int) + 1)) a b X L T u) (fun k => ?_) ?_
    · simp only [spec_l11Whole.l1]
      rw [if_pos (by omega), if_pos (by omega), rdi_at hj, if_pos he, if_pos (by omega), hr, if_pos hsz]
    · rw [w64 (x := (L.length : Int) + 1) (by omega) (by omega)]
      exact Ev.step (fun k => by simp only [spec_l11Whole.l1]; rw [if_neg (by omega)]) hq
  | succ d ih =>
    intro i hd hi hn
    have hil : i < L.length := by omega
    have h := ih (i + 1) (by omega) (by omega) (fun m hm => hn m (by omega))
    refine Ev.step (f := fun k => spec_l11Whole.l1 k s r ((i + 1 : Nat) : Int) a b X L T u) (fun k => ?_) h
    have he : ¬ L[i] = (s.size : Int) := by
      have := hn i (Nat.le_refl _) (by omega)
      rw [tst_at hil] at this
      simpa using this
    simp only [spec_l11Whole.l1]
    rw [if_pos (by omega), if_pos (by omega), rdi_at hil, w64 (x := (i : Int) + 1) (by omega) (by omega), if_neg he]
    rfl
theorem stuck (s : ByteArray) (hL : L.length ≤ 2000000) (hT : (s.size : Int) < T) (hs : s.size ≤ 9000000000000000000)
    (hst : (∀ m, m < L.length → tst (fun y => y == (s.size : Int)) L m = true → ¬ m < X.length) ∨ ∃ j, ∃ (hj : j < L.length) (hx : j < X.length), tst (fun y => y == (s.size : Int)) L j = true ∧ (∀ m, m < j → tst (fun y => y == (s.size : Int)) L m = false) ∧ X[j] = ⟨#[]⟩) :
    ∀ (d r : Nat), L.length + 1 - r = d → r ≤ L.length + 1 → Ev (fun k => spec_l11Whole.l0 k s (r : Int) a b X L T u) (s, false) := by
  intro d
  induction d with
  | zero =>
    intro r hd hr
    refine Ev.step (f := fun k => spec_l11Whole.j1 k s (r : Int) false a b X L T u) (fun k => by simp only [spec_l11Whole.l0]; rw [if_neg (by omega)]) ?_
    refine Ev.step (f := fun _ => some (s, false)) (fun k => ?_) (Ev.now _)
    simp only [spec_l11Whole.j1, Bool.false_eq_true, if_false]
    have hne : ((s.size : Int) == T) = false := by simp; omega
    rw [hne]
    split <;> rfl
  | succ d ih =>
    intro r hd hr
    have h := ih (r + 1) (by omega) (by omega)
    have hw : wrap64 ((r : Int) + 1) = ((r + 1 : Nat) : Int) := w64 (by omega) (by omega)
    refine Ev.step (f := fun k => spec_l11Whole.j1 k s (r : Int) true a b X L T u) (fun k => by simp only [spec_l11Whole.l0]; rw [if_pos (by omega), decide_eq_true hT]) ?_
    refine Ev.step (f := fun k => spec_l11Whole.l1 k s (r : Int) 0 a b X L T u) (fun k => by simp only [spec_l11Whole.j1, if_true]) ?_
    rcases hst with hn | ⟨j, hj, hx, ht, hf, he⟩
    · exact inner_none s (r : Int) hL _ (by rw [hw]; exact h) L.length 0 (by omega) (by omega) (fun m _ hm => hn m hm)
    · have hz : s ++ X[j] = s := by rw [he]; exact ByteArray.append_empty
      exact inner_some s (r : Int) hL hj hx ht (by rw [he]; show s.size + 0 ≤ _; omega) _ (by rw [hw, hz]; exact h) j 0 (by omega) (by omega) (fun m _ hm => hf m hm)
def cnt (L : List Int) (n : Int) : Nat := (L.filter (fun y => decide (y < n))).length
theorem cnt_lt (L : List Int) (n n' : Int) (h : n < n') (hm : n ∈ L) : cnt L n + 1 ≤ cnt L n' := by
  unfold cnt
  induction L with
  | nil => cases hm
  | cons y L ih =>
    have mono : ∀ M : List Int, (M.filter (fun y => decide (y < n))).length ≤ (M.filter (fun y => decide (y < n'))).length := by
      intro M
      induction M with
      | nil => exact Nat.le_refl _
      | cons z M ihM =>
        simp only [List.filter_cons]
        by_cases h1 : z < n
        · have h2 : z < n' := by omega
          simp only [h1, h2, decide_true, if_true, List.length_cons]
          omega
        · by_cases h2 : z < n'
          · simp only [h1, h2, decide_true, decide_false, Bool.false_eq_true, if_true, if_false, List.length_cons]
            omega
          · simp only [h1, h2, decide_false, Bool.false_eq_true, if_false]
            exact ihM
    simp only [List.filter_cons]
    rcases List.mem_cons.1 hm with rfl | hm
    · have h3 := mono L
      simp only [Int.lt_irrefl, h, decide_true, decide_false, Bool.false_eq_true, if_true, if_false, List.length_cons]
      omega
    · have h3 := ih hm
      by_cases h1 : y < n
      · have h2 : y < n' := by omega
        simp only [h1, h2, decide_true, if_true, List.length_cons]
        omega
      · by_cases h2 : y < n'
        · simp only [h1, h2, decide_true, decide_false, Bool.false_eq_true, if_true, if_false, List.length_cons]
          omega
        · simp only [h1, h2, decide_false, Bool.false_eq_true, if_false]
          exact h3
theorem cnt_le (L : List Int) (n : Int) : cnt L n ≤ L.length := List.length_filter_le _ _
theorem cnt_mem (L : List Int) (n : Int) (hm : n ∈ L) : cnt L n < L.length := by
  have := cnt_lt L n (n + 1) (by omega) hm
  have := cnt_le L (n + 1)
  omega
theorem r_le {r c n : Nat} (h : r ≤ c) (h2 : c < n) : (r : Int) ≤ (n : Int) := by omega
theorem whole_both_loop {B : Nat} (hB : B * 2000000 ≤ 9000000000000) (hB1 : B ≤ 9000000000000) (hL : L.length ≤ 2000000) (hX : ∀ s ∈ X, s.size ≤ B) (hTp : 0 < T) : ∀ (d : Nat) (s : ByteArray) (r : Nat), d ≤ L.length → L.length - cnt L (s.size : Int) ≤ d → r ≤ cnt L (s.size : Int) → s.size ≤ B * (L.length - d) →
    ∃ (p p' : ByteArray) (o : Bool), Ev (fun k => impl_whole.l0 k s a b X L T u) (p, o) ∧ Ev (fun k => spec_l11Whole.l0 k s (r : Int) a b X L T u) (p', o) ∧ (o = true → p = p') := by
  intro d
  induction d with
  | zero =>
    intro s r hdl hd hr hs
    have hsb : s.size ≤ 9000000000000 := by
      have h1 : B * (L.length - 0) ≤ B * 2000000 := Nat.mul_le_mul_left _ (by omega)
      exact Nat.le_trans hs (Nat.le_trans h1 hB)
    clear hs
    by_cases hlt : (s.size : Int) < T
    · -- no place is left
      have hno : ∀ m, m < L.length → tst (fun y => y == (s.size : Int)) L m = false := by
        intro m hm
        cases hc : tst (fun y => y == (s.size : Int)) L m with
        | false => rfl
        | true =>
          rw [tst_at hm] at hc
          have := cnt_mem L (s.size : Int) (by
            have he : L[m] = (s.size : Int) := by simpa using hc
            rw [← he]; exact List.getElem_mem _)
          omega
      refine ⟨⟨#[]⟩, s, false, ?_, stuck s hL hlt (by omega) (.inl (fun m hm h => by rw [hno m hm] at h; cases h)) _ r rfl (by have := cnt_le L (s.size : Int); omega), fun h => by cases h⟩
      refine Ev.step (f := fun k => impl_whole.j1 k s true a b X L T u) (fun k => by simp only [impl_whole.l0]; rw [if_pos hTp, decide_eq_true hlt]) ?_
      refine Ev.step (fun k => by simp only [impl_whole.j1, if_true]; rfl) ?_
      refine Ev.bind (idx_both L (s.size : Int) hL (-1) (.inl ⟨rfl, hno⟩)) ?_
      exact Ev.congr (f := fun _ => some ((⟨#[]⟩ : ByteArray), false)) (fun k => by rw [if_pos (by omega)]) (Ev.now _)
    · refine ⟨s, s, ((s.size : Int) == T), ?_, ?_, fun _ => rfl⟩
      · refine Ev.step (f := fun k => impl_whole.j1 k s false a b X L T u) (fun k => by simp only [impl_whole.l0]; rw [if_pos hTp, decide_eq_false hlt]) ?_
        exact Ev.step (f := fun _ => some (s, ((s.size : Int) == T))) (fun k => by simp only [impl_whole.j1, Bool.false_eq_true, if_false]; rw [if_pos hTp]) (Ev.now _)
      · refine Ev.step (f := fun k => spec_l11Whole.j1 k s (r : Int) false a b X L T u) (fun k => by simp only [spec_l11Whole.l0]; rw [decide_eq_false hlt]; split <;> rfl) ?_
        exact Ev.step (f := fun _ => some (s, ((s.size : Int) == T))) (fun k => by simp only [spec_l11Whole.j1, Bool.false_eq_true, if_false]; rw [if_pos (by omega)]) (Ev.now _)
  | succ d ih =>
    intro s r hdl hd hr hs
    have hcl := cnt_le L (s.size : Int)
    have hsb : s.size ≤ 9000000000000 := by
      have h1 : B * (L.length - (d + 1)) ≤ B * 2000000 := Nat.mul_le_mul_left _ (by omega)
      exact Nat.le_trans hs (Nat.le_trans h1 hB)
    by_cases hlt : (s.size : Int) < T
    · have hI : ∀ (v : ByteArray × Bool) (b0 : Int), Ev (fun k => slices_Index_int_int.f k L (s.size : Int)) b0 → Ev (fun k => if b0 < 0 then some ((⟨#[]⟩ : ByteArray), false) else if b0 ≥ (X.length : Int) then some ((⟨#[]⟩ : ByteArray), false) else if 0 ≤ b0 then if b0 < (X.length : Int) then if (rdOf ByteArray.empty X b0).toList = ([] : List UInt8) then some ((⟨#[]⟩ : ByteArray), false) else if s.size + (rdOf ByteArray.empty X b0).size ≤ 9223372036854775807 then impl_whole.l0 k (s ++ rdOf ByteArray.empty X b0) a b X L T u else none else none else none) v → Ev (fun k => impl_whole.l0 k s a b X L T u) v := by
        intro v b0 h1 h2
        refine Ev.step (f := fun k => impl_whole.j1 k s true a b X L T u) (fun k => by simp only [impl_whole.l0]; rw [if_pos hTp, decide_eq_true hlt]) ?_
        refine Ev.step (fun k => by simp only [impl_whole.j1, if_true]; rfl) ?_
        exact Ev.bind h1 h2
      rcases first_at (tst (fun y => y == (s.size : Int)) L) L.length with hno | ⟨j, hj, ht, hf⟩
      · refine ⟨⟨#[]⟩, s, false, hI _ (-1) (idx_both L _ hL (-1) (.inl ⟨rfl, hno⟩)) ?_, stuck s hL hlt (by omega) (.inl (fun m hm h => by rw [hno m hm] at h; cases h)) _ r rfl (by omega), fun h => by cases h⟩
        exact Ev.congr (f := fun _ => some ((⟨#[]⟩ : ByteArray), false)) (fun k => by rw [if_pos (by omega)]) (Ev.now _)
      · have hidx := idx_both L (s.size : Int) hL (j : Int) (.inr ⟨j, hj, rfl, ht, hf⟩)
        have hmem : (s.size : Int) ∈ L := by
          have := ht
          rw [tst_at hj] at this
          have he : L[j] = (s.size : Int) := by simpa using this
          rw [← he]; exact List.getElem_mem _
        have hcm := cnt_mem L (s.size : Int) hmem
        by_cases hx : j < X.length
        · have hr' : rdOf ByteArray.empty X (j : Int) = X[j] := rdS_at hx
          have hxs := hX X[j] (List.getElem_mem _)
          by_cases hz : X[j].toList = ([] : List UInt8)
          · have hz2 : X[j] = ⟨#[]⟩ := bl_inj ((toList_nil.1 hz).trans bl_empty.symm)
            refine ⟨⟨#[]⟩, s, false, hI _ (j : Int) hidx ?_, stuck s hL hlt (by omega) (.inr ⟨j, hj, hx, ht, hf, hz2⟩) _ r rfl (by omega), fun h => by cases h⟩
            exact Ev.congr (f := fun _ => some ((⟨#[]⟩ : ByteArray), false)) (fun k => by rw [if_neg (by omega), if_neg (by omega), if_pos (by omega), if_pos (by omega), hr', if_pos hz]) (Ev.now _)
          · have hz2 : 0 < X[j].size := by
              rcases Nat.eq_zero_or_pos X[j].size with h | h
              · exfalso
                apply hz
                have h2 : X[j] = ⟨#[]⟩ := ByteArray.size_eq_zero_iff.1 h
                exact toList_nil.2 (by rw [h2]; rfl)
              · exact h
            have hsz : (s ++ X[j]).size = s.size + X[j].size := ByteArray.size_append
            have hc2 := cnt_lt L (s.size : Int) ((s ++ X[j]).size : Int) (by rw [hsz]; omega) hmem
            obtain ⟨p, p', o, h1, h2, h3⟩ := ih (s ++ X[j]) (r + 1) (by omega) (by omega) (by omega) (by
              have e : L.length - d = L.length - (d + 1) + 1 := by omega
              rw [hsz, e, Nat.mul_add, Nat.mul_one]
              exact Nat.add_le_add hs hxs)
            refine ⟨p, p', o, hI _ (j : Int) hidx ?_, ?_, h3⟩
            · exact Ev.congr (f := fun k => impl_whole.l0 k (s ++ X[j]) a b X L T u) (fun k => by rw [if_neg (by omega), if_neg (by omega), if_pos (by omega), if_pos (by omega), hr', if_neg hz, if_pos (by omega)]) h1
            · have hw : wrap64 ((r : Int) + 1) = ((r + 1 : Nat) : Int) := w64 (by omega) (by omega)
              refine Ev.step (f := fun k => spec_l11Whole.j1 k s (r : Int) true a b X L T u) (fun k => by simp only [spec_l11Whole.l0]; rw [if_pos (r_le hr hcm), decide_eq_true hlt]) ?_
              refine Ev.step (f := fun k => spec_l11Whole.l1 k s (r : Int) 0 a b X L T u) (fun k => by simp only [spec_l11Whole.j1, if_true]) ?_
              exact inner_some s (r : Int) hL hj hx ht (by omega) _ (by rw [hw]; exact h2) j 0 (by omega) (by omega) (fun m _ hm => hf m hm)
        · refine ⟨⟨#[]⟩, s, false, hI _ (j : Int) hidx ?_, stuck s hL hlt (by omega) (.inl (fun m hm h => ?_)) _ r rfl (by omega), fun h => by cases h⟩
          · exact Ev.congr (f := fun _ => some ((⟨#[]⟩ : ByteArray), false)) (fun k => by rw [if_neg (by omega), if_pos (by omega)]) (Ev.now _)
          · intro hmx
            rw [hf m (by omega)] at h; cases h
    · refine ⟨s, s, ((s.size : Int) == T), ?_, ?_, fun _ => rfl⟩
      · refine Ev.step (f := fun k => impl_whole.j1 k s false a b X L T u) (fun k => by simp only [impl_whole.l0]; rw [if_pos hTp, decide_eq_false hlt]) ?_
        exact Ev.step (f := fun _ => some (s, ((s.size : Int) == T))) (fun k => by simp only [impl_whole.j1, Bool.false_eq_true, if_false]; rw [if_pos hTp]) (Ev.now _)
      · refine Ev.step (f := fun k => spec_l11Whole.j1 k s (r : Int) false a b X L T u) (fun k => by simp only [spec_l11Whole.l0]; rw [decide_eq_false hlt]; split <;> rfl) ?_
        exact Ev.step (f := fun _ => some (s, ((s.size : Int) == T))) (fun k => by simp only [spec_l11Whole.j1, Bool.false_eq_true, if_false]; rw [if_pos (by omega)]) (Ev.now _)
theorem whole_both (hL : L.length ≤ 2000000) (hX : ∀ s ∈ X, s.size ≤ 1050000) : ∃ (p p' : ByteArray) (o : Bool), Ev (fun k => impl_whole.f k a b X L T u) (p, o) ∧ Ev (fun k => spec_l11Whole.f k a b X L T u) (p', o) ∧ (o = true → p = p') := by
  unfold impl_whole.f spec_l11Whole.f
  by_cases hT : 0 < T
  · exact whole_both_loop (B := 1050000) (by decide) (by decide) hL hX hT (L.length - cnt L ((⟨#[]⟩ : ByteArray).size : Int)) ⟨#[]⟩ 0 (Nat.sub_le _ _) (Nat.le_refl _) (Nat.zero_le _) (Nat.zero_le _)
  · refine ⟨⟨#[]⟩, ⟨#[]⟩, false, ?_, ?_, fun h => by cases h⟩
    · refine Ev.step (f := fun k => impl_whole.j1 k ⟨#[]⟩ false a b X L T u) (fun k => by simp only [impl_whole.l0]; rw [if_neg (by omega)]) ?_
      exact Ev.step (f := fun _ => some ((⟨#[]⟩ : ByteArray), false)) (fun k => by simp only [impl_whole.j1, Bool.false_eq_true, if_false]; rw [if_neg (by omega)]) (Ev.now _)
    · have hlt : ¬ (((⟨#[]⟩ : ByteArray).size : Nat) : Int) < T := by show ¬ ((0 : Nat) : Int) < T; omega
      refine Ev.step (f := fun k => spec_l11Whole.j1 k ⟨#[]⟩ 0 false a b X L T u) (fun k => by simp only [spec_l11Whole.l0]; rw [decide_eq_false hlt]; split <;> rfl) ?_
      exact Ev.step (f := fun _ => some ((⟨#[]⟩ : ByteArray), false)) (fun k => by simp only [spec_l11Whole.j1, Bool.false_eq_true, if_false]; rw [if_neg (by omega)]) (Ev.now _)
end

/-! ### joinboth2 -/
abbrev RJ := List S82 × Int × Int × Int × Int × Bool × ByteArray × Bool
def hitB (a c : Int) (x : S82) : Bool := x.f0 == a && x.f1 == c
def Fnd {α : Type} (p : α → Bool) (l : List α) (n : Nat) (b : Int) : Prop := (b = -1 ∧ ∀ m, n ≤ m → m < l.length → tst p l m = false) ∨ ∃ j : Nat, n ≤ j ∧ j < l.length ∧ b = (j : Int) ∧ tst p l j = true ∧ ∀ m, n ≤ m → m < j → tst p l m = false
theorem Fnd.uniq {α : Type} {p : α → Bool} {l : List α} {n : Nat} {b b' : Int} (h : Fnd p l n b) (h' : Fnd p l n b') : b = b' := by
  rcases h with ⟨rfl, h⟩ | ⟨j, h1, h2, rfl, h3, h4⟩ <;> rcases h' with ⟨rfl, h'⟩ | ⟨j', h1', h2', rfl, h3', h4'⟩
  · rfl
  · rw [h j' h1' h2'] at h3'; cases h3'
  · rw [h' j h1 h2] at h3; cases h3
  · rcases Nat.lt_trichotomy j j' with hh | hh | hh
    · rw [h4' j h1 hh] at h3; cases h3
    · rw [hh]
    · rw [h4 j' h1' hh] at h3'; cases h3'
theorem Fnd.ex {α : Type} (p : α → Bool) (l : List α) : ∃ b, Fnd p l 0 b := by
  rcases first_at (tst p l) l.length with h | ⟨j, hj, h1, h2⟩
  · exact ⟨-1, .inl ⟨rfl, fun m _ hm => h m hm⟩⟩
  · exact ⟨j, .inr ⟨j, Nat.zero_le _, hj, rfl, h1, fun m _ hm => h2 m hm⟩⟩
theorem idxB_ok (l : List S82) (hl : l.length ≤ 2000000) (d0 d1 d2 d3 : Int) (d4 : Bool) (d5 : ByteArray) (b : Int) (hb : Fnd (hitB d0 d2) l 0 b) : Ev (fun k => impl_Bits.f k l d0 d1 d2 d3 d4 d5) b := by
  have key : ∀ (d j : Nat), l.length - j = d → j ≤ l.length → Fnd (hitB d0 d2) l j b → Ev (fun k => impl_Bits.l0 k l d0 d1 d2 d3 d4 d5 (j : Int)) b := by
    intro d
    induction d with
    | zero =>
      intro j hd hj hb
      rcases hb with ⟨rfl, _⟩ | ⟨q, h1, h2, _⟩
      · exact Ev.step (f := fun _ => some (-1)) (fun k => by simp only [impl_Bits.l0]; rw [if_neg (by omega)]) (Ev.now _)
      · omega
    | succ d ih =>
      intro j hd hj hb
      have hjl : j < l.length := by omega
      cases ht : tst (hitB d0 d2) l j with
      | true =>
        have hbj : b = (j : Int) := Fnd.uniq hb (.inr ⟨j, Nat.le_refl _, hjl, rfl, ht, fun m h1 h2 => absurd h2 (by omega)⟩)
        rw [hbj]
        rw [tst_at hjl] at ht
        unfold hitB at ht
        refine Ev.step (f := fun _ => some (j : Int)) (fun k => ?_) (Ev.now _)
        simp only [impl_Bits.l0]
        rw [if_pos (by omega), if_pos (by omega), rdB hjl, if_pos ht]
      | false =>
        have hb2 : Fnd (hitB d0 d2) l (j + 1) b := by
          rcases hb with ⟨h, h1⟩ | ⟨q, h1, h2, h3, h4, h5⟩
          · exact .inl ⟨h, fun m hm => h1 m (by omega)⟩
          · have : q ≠ j := by rintro rfl; rw [ht] at h4; cases h4
            exact .inr ⟨q, by omega, h2, h3, h4, fun m hm => h5 m (by omega)⟩
        rw [tst_at hjl] at ht
        unfold hitB at ht
        refine Ev.step (f := fun k => impl_Bits.l0 k l d0 d1 d2 d3 d4 d5 ((j + 1 : Nat) : Int)) (fun k => ?_) (ih (j + 1) (by omega) (by omega) hb2)
        simp only [impl_Bits.l0]
        rw [if_pos (by omega), if_pos (by omega), rdB hjl, if_neg (by rw [ht]; decide), w64 (by omega) (by omega)]
        rfl
  exact key l.length 0 (by omega) (by omega) hb
section
variable {a0 a1 a2 a3 : Int} {a4 : Bool} {a5 : ByteArray} {now : Int}
theorem spec_find (l : List S82) (hl : l.length ≤ 2000000) (q : RJ) (hq : ∀ b0, Fnd (hitB a0 a2) l 0 b0 → Ev (fun k => if b0 < 0 then (if l.length < 1759218604441 then spec_JoinBits.l1 k (l ++ [(⟨a0, a2, ([] : List ByteArray), ([] : List Int), 0, wrap64 (now + 10)⟩ : S82)]) a0 a1 a2 a3 a4 a5 else none) else spec_JoinBits.j5 k l b0 a0 a1 a2 a3 a4 a5) q) :
    ∀ (n : Nat) (b : Int), n ≤ l.length → Fnd (hitB a0 a2) l n b → Ev (fun k => spec_JoinBits.l0 k now l b ((n : Int) - 1) a0 a1 a2 a3 a4 a5) q := by
  intro n
  induction n with
  | zero =>
    intro b hn hb
    exact Ev.step (fun k => by simp only [spec_JoinBits.l0]; rw [if_neg (by omega)]) (hq b hb)
  | succ n ih =>
    intro b hn hb
    have hnl : n < l.length := by omega
    have hj : ∀ b', Fnd (hitB a0 a2) l n b' → Ev (fun k => spec_JoinBits.j3 k now l b' (n : Int) a0 a1 a2 a3 a4 a5) q := fun b' hb' =>
      Ev.step (f := fun k => spec_JoinBits.l0 k now l b' ((n : Int) - 1) a0 a1 a2 a3 a4 a5) (fun k => by simp only [spec_JoinBits.j3]; rw [w64 (by omega) (by omega)]) (ih b' (by omega) hb')
    have hidx : (((n + 1 : Nat) : Int) - 1) = (n : Int) := by omega
    rw [hidx]
    cases ht : tst (hitB a0 a2) l n with
    | true =>
      refine Ev.step (f := fun k => spec_JoinBits.j3 k now l (n : Int) (n : Int) a0 a1 a2 a3 a4 a5) (fun k => ?_) (hj _ (.inr ⟨n, Nat.le_refl _, hnl, rfl, ht, fun m h1 h2 => absurd h2 (by omega)⟩))
      rw [tst_at hnl] at ht
      unfold hitB at ht
      simp only [Bool.and_eq_true, beq_iff_eq] at ht
      simp only [spec_JoinBits.l0]
      rw [if_pos (by omega), if_pos (by omega), if_pos (by omega), rdB hnl, if_pos ht.1, if_pos ht.2]
    | false =>
      have hb2 : Fnd (hitB a0 a2) l n b := by
        rcases hb with ⟨h, h1⟩ | ⟨q, h1, h2, h3, h4, h5⟩
        · refine .inl ⟨h, fun m hm hml => ?_⟩
          by_cases he : m = n
          · rw [he]; exact ht
          · exact h1 m (by omega) hml
        · refine .inr ⟨q, by omega, h2, h3, h4, fun m hm hmq => ?_⟩
          by_cases he : m = n
          · rw [he]; exact ht
          · exact h5 m (by omega) hmq
      refine Ev.step (f := fun k => spec_JoinBits.j3 k now l b (n : Int) a0 a1 a2 a3 a4 a5) (fun k => ?_) (hj _ hb2)
      rw [tst_at hnl] at ht
      unfold hitB at ht
      simp only [spec_JoinBits.l0]
      rw [if_pos (by omega), if_pos (by omega), if_pos (by omega), rdB hnl]
      by_cases h1 : l[n].f0 = a0
      · have h2 : ¬ l[n].f1 = a2 := by
          intro h2
          rw [h1, h2] at ht
          simp at ht
        rw [if_pos h1, if_neg h2]
      · rw [if_neg h1]
theorem spec_cut (q : RJ) : ∀ (n : Nat) (z : List S82), z.length = n → n ≤ 2000000 → (∀ x ∈ z, x.f2.length ≤ 2000000 ∧ x.f3.length ≤ 2000000) → Ev (fun k => spec_JoinBits.j5 k (z.drop (n - 3)) (((z.drop (n - 3)).length : Int) - 1) a0 a1 a2 a3 a4 a5) q → Ev (fun k => spec_JoinBits.l1 k z a0 a1 a2 a3 a4 a5) q := by
  intro n
  induction n with
  | zero =>
    intro z hz hn _ h
    refine Ev.step (fun k => by simp only [spec_JoinBits.l1]; rw [if_neg (by omega), w64 (x := (z.length : Int) - 1) (by omega) (by omega)]) ?_
    simpa using h
  | succ n ih =>
    intro z hz hn hb h
    by_cases h3 : n + 1 > 3
    · refine Ev.step (f := fun k => (spec_l11CopyBits.f k (z.drop 1)).bind fun t => spec_JoinBits.l1 k t a0 a1 a2 a3 a4 a5) (fun k => by simp only [spec_JoinBits.l1]; rw [if_pos (by omega), if_pos (by omega)]) ?_
      refine Ev.bind (cqB_ok (z.drop 1) (by rw [List.length_drop]; omega) (fun x hx => hb x (List.mem_of_mem_drop hx))) (ih (z.drop 1) (by rw [List.length_drop]; omega) (by omega) (fun x hx => hb x (List.mem_of_mem_drop hx)) ?_)
      rw [List.drop_drop, show 1 + (n - 3) = n + 1 - 3 by omega]
      exact h
    · rw [show n + 1 - 3 = 0 by omega, List.drop_zero] at h
      exact Ev.step (fun k => by simp only [spec_JoinBits.l1]; rw [if_neg (by omega), w64 (x := (z.length : Int) - 1) (by omega) (by omega)]) h
theorem rd_set {l : List S82} {i : Nat} (h : i < l.length) (x : S82) : rd_T82 (l.set i x) (i : Int) = x := by
  rw [rdB (by rw [List.length_set]; exact h), List.getElem_set_self]
def finJ (a0 a1 a2 : Int) (L : List S82) (i : Nat) (p : ByteArray) (o : Bool) : RJ := if o = true then (L.eraseIdx i, a0, a1, a2, 0, false, p, true) else (L, 0, 0, 0, 0, false, ⟨#[]⟩, false)
theorem spec_end (L : List S82) (i : Nat) (hi : i < L.length) (hL : L.length ≤ 2000000) (hb : ∀ x ∈ L, bOk x) (p : ByteArray) (o : Bool) (p0 : ByteArray) (h0 : o = true → p0 = p) (hw : Ev (fun k => spec_l11Whole.f k L[i].f0 L[i].f1 L[i].f2 L[i].f3 L[i].f4 L[i].f5) (p, o)) :
    Ev (fun k => spec_JoinBits.j8 k L (i : Int) a0 a1 a2 a3 a4 a5) (finJ a0 a1 a2 L i p0 o) := by
  refine Ev.step (fun k => rfl) ?_
  simp only [spec_JoinBits.j8, if_pos (show (0 : Int) ≤ (i : Int) by omega), if_pos (show (i : Int) < (L.length : Int) by omega), rdB hi]
  refine Ev.bind hw ?_
  cases o with
  | false => exact Ev.congr (f := fun _ => some (L, 0, 0, 0, 0, false, ⟨#[]⟩, false)) (fun k => by simp) (Ev.now _)
  | true =>
    have hw1 : wrap64 ((i : Int) + 1) = ((i + 1 : Nat) : Int) := w64 (by omega) (by omega)
    have hlt : (L.take i).length = i := by rw [List.length_take]; omega
    have hld : (L.drop (i + 1)).length = L.length - (i + 1) := List.length_drop
    simp only [if_true, Option.bind_some, Int.toNat_natCast, if_pos (show (i : Int) ≤ (L.length : Int) by omega), List.length_nil, hlt, if_pos (show 0 + i < 1759218604441 by omega), List.nil_append, hw1, if_pos (show (0 : Int) ≤ ((i + 1 : Nat) : Int) by omega), if_pos (show ((i + 1 : Nat) : Int) ≤ (L.length : Int) by omega), hld, if_pos (show i + (L.length - (i + 1)) < 1759218604441 by omega)]
    rw [← List.eraseIdx_eq_take_drop_succ]
    refine Ev.bind (cqB_ok (L.eraseIdx i) (Nat.le_trans (List.length_eraseIdx_le _ _) hL) (fun x hx => by
      have := hb x (List.mem_of_mem_eraseIdx hx)
      exact ⟨by have := this.1; omega, by have := this.2.1; omega⟩)) ?_
    have hp := h0 rfl
    subst hp
    exact Ev.now _
theorem impl_end (L : List S82) (i n : Nat) (hn : n = L.length) (hi : i < L.length) (hL : L.length ≤ 2000000) (p : ByteArray) (o : Bool) (x : S82) (hx : x = L[i]) (hw : Ev (fun k => impl_whole.f k L[i].f0 L[i].f1 L[i].f2 L[i].f3 L[i].f4 L[i].f5) (p, o)) :
    Ev (fun k => (impl_whole.f k x.f0 x.f1 x.f2 x.f3 x.f4 x.f5).bind fun bt => (if bt.2 = true then (if (i : Int) ≤ (n : Int) then (if 0 ≤ (wrap64 ((i : Int) + 1)) then (if (wrap64 ((i : Int) + 1)) ≤ (n : Int) then (some ((L.eraseIdx (i : Int).toNat), a0, a1, a2, (0 : Int), false, bt.1, true)) else (none)) else (none)) else (none)) else (some (L, (0 : Int), (0 : Int), (0 : Int), (0 : Int), false, (⟨#[]⟩ : ByteArray), false)))) (finJ a0 a1 a2 L i p o) := by
  subst hx; subst hn
  refine Ev.bind hw ?_
  have hw1 : wrap64 ((i : Int) + 1) = ((i + 1 : Nat) : Int) := w64 (by omega) (by omega)
  cases o with
  | false => exact Ev.congr (f := fun _ => some (L, 0, 0, 0, 0, false, ⟨#[]⟩, false)) (fun k => by simp) (Ev.now _)
  | true =>
    simp only [if_true, hw1, if_pos (show (i : Int) ≤ (L.length : Int) by omega), if_pos (show (0 : Int) ≤ ((i + 1 : Nat) : Int) by omega), if_pos (show ((i + 1 : Nat) : Int) ≤ (L.length : Int) by omega), Int.toNat_natCast]
    exact Ev.now _
end

/-! ### joinboth3 -/
section
variable {a0 a1 a2 a3 : Int} {a4 : Bool} {a5 : ByteArray} {now : Int}
theorem has_both (l : List Int) (x : Int) (hl : l.length ≤ 2000000) (o : Bool) (ho : (o = false ∧ ∀ m, m < l.length → tst (fun y => y == x) l m = false) ∨ o = true ∧ ∃ j : Nat, j < l.length ∧ tst (fun y => y == x) l j = true ∧ ∀ m, m < j → tst (fun y => y == x) l m = false) :
    Ev (fun k => slices_Contains_int_int.f k l x) o := by
  unfold slices_Contains_int_int.f
  rcases ho with ⟨rfl, h⟩ | ⟨rfl, j, hj, h1, h2⟩
  · exact Ev.bind (idx_both l x hl (-1) (.inl ⟨rfl, h⟩)) (Ev.now _)
  · refine Ev.bind (idx_both l x hl (j : Int) (.inr ⟨j, hj, rfl, h1, h2⟩)) ?_
    rw [decide_eq_true (show (j : Int) ≥ 0 by omega)]
    exact Ev.now _
theorem spec_has (L : List S82) (i : Nat) (hi : i < L.length) (hf : L[i].f3.length ≤ 2000000) (o : Bool) (ho : (o = false ∧ ∀ m, m < L[i].f3.length → tst (fun y => y == a3) L[i].f3 m = false) ∨ o = true ∧ ∃ j : Nat, j < L[i].f3.length ∧ tst (fun y => y == a3) L[i].f3 j = true ∧ ∀ m, m < j → tst (fun y => y == a3) L[i].f3 m = false) (q : RJ)
    (hq : Ev (fun k => spec_JoinBits.l2 k L (i : Int) o ((L[i].f3.length : Nat) : Int) a0 a1 a2 a3 a4 a5) q) :
    ∀ (d j : Nat) (h : Bool), L[i].f3.length - j = d → j ≤ L[i].f3.length → ((h = false ∧ ∀ m, m < j → tst (fun y => y == a3) L[i].f3 m = false) ∨ h = true ∧ o = true) → Ev (fun k => spec_JoinBits.l2 k L (i : Int) h (j : Int) a0 a1 a2 a3 a4 a5) q := by
  intro d
  induction d with
  | zero =>
    intro j h hd hj hh
    obtain rfl : j = L[i].f3.length := by omega
    have : h = o := by
      rcases hh with ⟨rfl, hn⟩ | ⟨rfl, rfl⟩
      · rcases ho with ⟨rfl, _⟩ | ⟨_, q, hq, h1, _⟩
        · rfl
        · rw [hn q hq] at h1; cases h1
      · rfl
    rw [this]
    exact hq
  | succ d ih =>
    intro j h hd hj hh
    have hjl : j < L[i].f3.length := by omega
    have hw : wrap64 ((j : Int) + 1) = ((j + 1 : Nat) : Int) := w64 (by omega) (by omega)
    have hj7 : ∀ h', ((h' = false ∧ ∀ m, m < j + 1 → tst (fun y => y == a3) L[i].f3 m = false) ∨ h' = true ∧ o = true) → Ev (fun k => spec_JoinBits.j7 k L (i : Int) h' (j : Int) a0 a1 a2 a3 a4 a5) q := fun h' hh' =>
      Ev.step (f := fun k => spec_JoinBits.l2 k L (i : Int) h' ((j + 1 : Nat) : Int) a0 a1 a2 a3 a4 a5) (fun k => by simp only [spec_JoinBits.j7]; rw [hw]) (ih (j + 1) h' (by omega) (by omega) hh')
    cases h with
    | true =>
      have ho' : o = true := by rcases hh with ⟨h, _⟩ | ⟨_, h⟩; cases h; exact h
      refine Ev.step (f := fun k => spec_JoinBits.j7 k L (i : Int) true (j : Int) a0 a1 a2 a3 a4 a5) (fun k => ?_) (hj7 true (.inr ⟨rfl, ho'⟩))
      simp only [spec_JoinBits.l2]
      rw [if_pos (by omega), if_pos (by omega), rdB hi, if_pos (by omega), if_pos (by decide)]
    | false =>
      have hn : ∀ m, m < j → tst (fun y => y == a3) L[i].f3 m = false := by rcases hh with ⟨_, h⟩ | ⟨h, _⟩; exact h; cases h
      refine Ev.step (f := fun k => spec_JoinBits.j7 k L (i : Int) (L[i].f3[j] == a3) (j : Int) a0 a1 a2 a3 a4 a5) (fun k => ?_) (hj7 _ ?_)
      · simp only [spec_JoinBits.l2]
        rw [if_pos (by omega), if_pos (by omega), rdB hi, if_pos (by omega), if_neg (by decide), if_pos (by omega), rdi_at hjl]
      · have ht := tst_at (p := fun y => y == a3) hjl
        cases hc : (L[i].f3[j] == a3) with
        | false =>
          refine .inl ⟨rfl, fun m hm => ?_⟩
          by_cases he : m = j
          · rw [he, ht]; exact hc
          · exact hn m (by omega)
        | true =>
          refine .inr ⟨rfl, ?_⟩
          rcases ho with ⟨_, h⟩ | ⟨h, _⟩
          · have := h j hjl
            rw [ht, hc] at this
            cases this
          · exact h
def elJ (a3 : Int) (a4 : Bool) (a5 : ByteArray) (x : S82) : S82 := ⟨x.f0, x.f1, x.f2 ++ [a5], x.f3 ++ [a3], if a4 = true then x.f4 else if x.f4 = 0 then wrap64 (a3 + (a5.size : Int)) else x.f4, x.f5⟩
theorem bS.el {x : S82} (h : bS x) (ha : a5.size ≤ 1050000) : bOk (elJ a3 a4 a5 x) := by
  refine ⟨?_, ?_, fun s hs => ?_⟩
  · show (x.f2 ++ [a5]).length ≤ _; rw [List.length_append, List.length_singleton]; have := h.1; omega
  · show (x.f3 ++ [a3]).length ≤ _; rw [List.length_append, List.length_singleton]; have := h.2.1; omega
  · have hs' : s ∈ x.f2 ++ [a5] := hs
    rcases List.mem_append.1 hs' with h1 | h1
    · exact h.2.2 s h1
    · rw [List.mem_singleton.1 h1]; exact ha
theorem tail_both (L : List S82) (i : Nat) (hi : i < L.length) (hL : L.length ≤ 2000000) (hb : ∀ x ∈ L, bS x) (ha : a5.size ≤ 1050000) :
    ∃ r : RJ, Ev (fun k => impl_JoinBits.j2 k L (i : Int) a0 a1 a2 a3 a4 a5) r ∧ Ev (fun k => spec_JoinBits.j5 k L (i : Int) a0 a1 a2 a3 a4 a5) r ∧ r.1.length ≤ L.length ∧ (∀ x ∈ r.1, bOk x) := by
  have hx := hb _ (List.getElem_mem hi)
  have hf3 : L[i].f3.length ≤ 2000000 := Nat.le_trans hx.2.1 (by omega)
  have hf2 : L[i].f2.length ≤ 2000000 := Nat.le_trans hx.1 (by omega)
  have hfin : ∀ (M : List S82) (p : ByteArray) (o : Bool), M.length = L.length → (∀ x ∈ M, bOk x) → (finJ a0 a1 a2 M i p o).1.length ≤ L.length ∧ ∀ x ∈ (finJ a0 a1 a2 M i p o).1, bOk x := by
    intro M p o hM hMb
    unfold finJ
    cases o with
    | false => simp only [Bool.false_eq_true, if_false]; exact ⟨Nat.le_of_eq hM, hMb⟩
    | true => simp only [if_true]; exact ⟨by rw [← hM]; exact List.length_eraseIdx_le _ _, fun x hx => hMb x (List.mem_of_mem_eraseIdx hx)⟩
  have hs5 : ∀ (q : RJ), Ev (fun k => spec_JoinBits.l2 k L (i : Int) false 0 a0 a1 a2 a3 a4 a5) q → Ev (fun k => spec_JoinBits.j5 k L (i : Int) a0 a1 a2 a3 a4 a5) q := fun q hq => Ev.step (fun k => by simp only [spec_JoinBits.j5]) hq
  rcases first_at (tst (fun y => y == a3) L[i].f3) L[i].f3.length with hno | ⟨j, hj, h1, h2⟩
  · -- a new part
    have hel : elJ a3 a4 a5 L[i] = elJ a3 a4 a5 L[i] := rfl
    obtain ⟨M, hM⟩ : ∃ M, M = L.set i (elJ a3 a4 a5 L[i]) := ⟨_, rfl⟩
    have hMl : M.length = L.length := by rw [hM, List.length_set]
    have hiM : i < M.length := by omega
    have hMi : M[i] = elJ a3 a4 a5 L[i] := by subst hM; exact List.getElem_set_self _
    have hMb : ∀ x ∈ M, bOk x := by
      intro x hx
      rw [hM] at hx
      rcases List.mem_or_eq_of_mem_set hx with h | h
      · exact (hb x h).ok
      · rw [h]; exact bS.el (hb _ (List.getElem_mem hi)) ha
    have hMo : bOk M[i] := hMb _ (List.getElem_mem hiM)
    obtain ⟨p, p', o, w1, w2, w3⟩ := whole_both (a := M[i].f0) (b := M[i].f1) (u := M[i].f5) (X := M[i].f2) (L := M[i].f3) (T := M[i].f4) (by have := hMo.2.1; omega) hMo.2.2
    refine ⟨finJ a0 a1 a2 M i p o, ?_, hs5 _ (spec_has L i hi hf3 false (.inl ⟨rfl, hno⟩) _ ?_ _ 0 false rfl (Nat.zero_le _) (.inl ⟨rfl, fun m hm => absurd hm (Nat.not_lt_zero _)⟩)), (hfin M p o hMl hMb).1, (hfin M p o hMl hMb).2⟩
    · -- impl
      refine Ev.step (fun k => by simp only [impl_JoinBits.j2]; rw [if_pos (show (0 : Int) ≤ (i : Int) by omega), if_pos (show (i : Int) < (L.length : Int) by omega), rdB hi]) ?_
      refine Ev.bind (has_both L[i].f3 a3 hf3 false (.inl ⟨rfl, hno⟩)) ?_
      simp only [Bool.false_eq_true, if_false, if_pos (show L[i].f3.length < 17592186044416 by omega), Option.bind_some, Int.toNat_natCast, rd_set hi, if_pos (show L[i].f2.length < 8796093022208 by omega), List.set_set]
      have h3t : ∀ (N : List S82), N = L.set i ⟨L[i].f0, L[i].f1, L[i].f2 ++ [a5], L[i].f3 ++ [a3], L[i].f4, L[i].f5⟩ → M = N.set i ⟨L[i].f0, L[i].f1, L[i].f2 ++ [a5], L[i].f3 ++ [a3], wrap64 (a3 + (a5.size : Int)), L[i].f5⟩ → Ev (fun k => impl_JoinBits.j3 k N (i : Int) true a0 a1 a2 a3 a4 a5) (finJ a0 a1 a2 M i p o) := by
        intro N hN hMN
        have hNl : N.length = L.length := by rw [hN, List.length_set]
        have hiN : i < N.length := by omega
        have hNi : rd_T82 N (i : Int) = ⟨L[i].f0, L[i].f1, L[i].f2 ++ [a5], L[i].f3 ++ [a3], L[i].f4, L[i].f5⟩ := by rw [hN]; exact rd_set hi _
        refine Ev.step (fun k => by simp only [impl_JoinBits.j3, if_true]; rw [if_pos (show (0 : Int) ≤ (i : Int) by omega), if_pos (show (i : Int) < (N.length : Int) by omega), hNi, Option.bind_some, Int.toNat_natCast, ← hMN]) ?_
        exact impl_end M i N.length (by omega) hiM (by omega) p o _ (rdB hiM) w1
      have h3f : M = L.set i ⟨L[i].f0, L[i].f1, L[i].f2 ++ [a5], L[i].f3 ++ [a3], L[i].f4, L[i].f5⟩ → Ev (fun k => impl_JoinBits.j3 k (L.set i ⟨L[i].f0, L[i].f1, L[i].f2 ++ [a5], L[i].f3 ++ [a3], L[i].f4, L[i].f5⟩) (i : Int) false a0 a1 a2 a3 a4 a5) (finJ a0 a1 a2 M i p o) := by
        intro hN
        rw [← hN]
        refine Ev.step (fun k => by simp only [impl_JoinBits.j3, Bool.false_eq_true, if_false]; rw [if_pos (show (0 : Int) ≤ (i : Int) by omega), if_pos (show (i : Int) < (M.length : Int) by omega)]) ?_
        exact impl_end M i M.length rfl hiM (by omega) p o _ (rdB hiM) w1
      cases a4 with
      | true =>
        simp only [if_true]
        exact h3f (by rw [hM]; simp [elJ])
      | false =>
        simp only [Bool.false_eq_true, if_false]
        by_cases h4 : L[i].f4 = 0
        · rw [show (L[i].f4 == 0) = true by simp [h4]]
          refine h3t _ rfl ?_
          rw [hM, List.set_set]
          simp [elJ, h4]
        · rw [show (L[i].f4 == 0) = false by simp [h4]]
          exact h3f (by rw [hM]; simp [elJ, h4])
    · -- spec
      refine Ev.step (fun k => by simp only [spec_JoinBits.l2]; rw [if_pos (show (0 : Int) ≤ (i : Int) by omega), if_pos (show (i : Int) < (L.length : Int) by omega), rdB hi, if_neg (show ¬ ((L[i].f3.length : Nat) : Int) < (L[i].f3.length : Int) by omega), if_neg (by decide)]) ?_
      simp only [if_pos (show L[i].f3.length < 17592186044416 by omega), Option.bind_some, Int.toNat_natCast, rd_set hi, if_pos (show L[i].f2.length < 8796093022208 by omega), List.set_set]
      have he := spec_end (a0 := a0) (a1 := a1) (a2 := a2) (a3 := a3) (a4 := a4) (a5 := a5) M i hiM (by omega) hMb p' o p w3 w2
      cases a4 with
      | true =>
        simp only [if_true]
        rw [show L.set i ⟨L[i].f0, L[i].f1, L[i].f2 ++ [a5], L[i].f3 ++ [a3], L[i].f4, L[i].f5⟩ = M by rw [hM]; simp [elJ]]
        exact he
      | false =>
        simp only [Bool.false_eq_true, if_false]
        by_cases h4 : L[i].f4 = 0
        · simp only [if_pos h4]
          rw [show L.set i ⟨L[i].f0, L[i].f1, L[i].f2 ++ [a5], L[i].f3 ++ [a3], wrap64 (a3 + (a5.size : Int)), L[i].f5⟩ = M by rw [hM]; simp [elJ, h4]]
          exact he
        · simp only [if_neg h4]
          rw [show L.set i ⟨L[i].f0, L[i].f1, L[i].f2 ++ [a5], L[i].f3 ++ [a3], L[i].f4, L[i].f5⟩ = M by rw [hM]; simp [elJ, h4]]
          exact he
  · have hLb : ∀ x ∈ L, bOk x := fun x hx => (hb x hx).ok
    have hLo := hLb _ (List.getElem_mem hi)
    obtain ⟨p, p', o, w1, w2, w3⟩ := whole_both (a := L[i].f0) (b := L[i].f1) (u := L[i].f5) (X := L[i].f2) (L := L[i].f3) (T := L[i].f4) hf3 hLo.2.2
    refine ⟨finJ a0 a1 a2 L i p o, ?_, hs5 _ (spec_has L i hi hf3 true (.inr ⟨rfl, j, hj, h1, h2⟩) _ ?_ _ 0 false rfl (Nat.zero_le _) (.inl ⟨rfl, fun m hm => absurd hm (Nat.not_lt_zero _)⟩)), (hfin L p o rfl hLb).1, (hfin L p o rfl hLb).2⟩
    · refine Ev.step (fun k => by simp only [impl_JoinBits.j2]; rw [if_pos (show (0 : Int) ≤ (i : Int) by omega), if_pos (show (i : Int) < (L.length : Int) by omega), rdB hi]) ?_
      refine Ev.bind (has_both L[i].f3 a3 hf3 true (.inr ⟨rfl, j, hj, h1, h2⟩)) ?_
      simp only [if_true]
      exact impl_end L i L.length rfl hi hL p o _ rfl w1
    · refine Ev.step (f := fun k => spec_JoinBits.j8 k L (i : Int) a0 a1 a2 a3 a4 a5) (fun k => by simp only [spec_JoinBits.l2]; rw [if_pos (show (0 : Int) ≤ (i : Int) by omega), if_pos (show (i : Int) < (L.length : Int) by omega), rdB hi, if_neg (show ¬ ((L[i].f3.length : Nat) : Int) < (L[i].f3.length : Int) by omega), if_pos (by decide)]) ?_
      exact spec_end L i hi hL hLb p' o p w3 w2
end

/-! ### joinboth4 -/
section
variable {a0 a1 a2 a3 : Int} {a4 : Bool} {a5 : ByteArray} {now : Int}
theorem mx_len {n : Nat} (h : n ≤ 2000000) : (mx 0 (wrap64 ((n : Int) - 3))).toNat = n - 3 := by
  rw [w64 (by omega) (by omega)]
  unfold mx
  split <;> omega
theorem join_both (l : List S82) (hl : l.length ≤ 1048576) (hb : ∀ x ∈ l, bS x) :
    ∃ r : RJ, Ev (fun k => impl_JoinBits.f k l a0 a1 a2 a3 a4 a5 now) r ∧ Ev (fun k => spec_JoinBits.f k l a0 a1 a2 a3 a4 a5 now) r ∧ r.1.length ≤ l.length + 1 ∧ (∀ x ∈ r.1, bOk x) ∧ (r.2.2.2.2.2.2.2 = true → True) := by
  have hcp : ∀ x ∈ l, x.f2.length ≤ 2000000 ∧ x.f3.length ≤ 2000000 := fun x hx => ⟨Nat.le_trans (hb x hx).1 (by omega), Nat.le_trans (hb x hx).2.1 (by omega)⟩
  have c1 := cpB_ok l (by omega) hcp
  have c2 := cqB_ok l (by omega) hcp
  have hlo : ∀ x ∈ l, bOk x := fun x hx => (hb x hx).ok
  -- behind the tests
  have hgo : ∀ (v : Bool) (r : RJ), Ev (fun k => impl_JoinBits.j0 k now l v a0 a1 a2 a3 a4 a5) r → Ev (fun k => spec_JoinBits.j0 k now l v a0 a1 a2 a3 a4 a5) r → (v = !(dgB a0 a1 a2 a3 a4 a5 && rng now 0 999999990)) → Ev (fun k => impl_JoinBits.f k l a0 a1 a2 a3 a4 a5 now) r ∧ Ev (fun k => spec_JoinBits.f k l a0 a1 a2 a3 a4 a5 now) r := by
    intro v r h1 h2 hv
    unfold impl_JoinBits.f spec_JoinBits.f
    refine ⟨Ev.bind c1 ?_, Ev.bind c2 ?_⟩
    · simp only [impl_dgB, within_eq, Option.bind_some]
      cases hd : dgB a0 a1 a2 a3 a4 a5 with
      | false => rw [hd] at hv; simp at hv; subst hv; simpa using h1
      | true => rw [hd] at hv; simp at hv; subst hv; simpa using h1
    · simp only [spec_dgB, in_eq, Option.bind_some]
      cases hd : dgB a0 a1 a2 a3 a4 a5 with
      | false => rw [hd] at hv; simp at hv; subst hv; simpa using h2
      | true => rw [hd] at hv; simp at hv; subst hv; simpa using h2
  by_cases hok : (dgB a0 a1 a2 a3 a4 a5 && rng now 0 999999990) = true
  · have hd : dgB a0 a1 a2 a3 a4 a5 = true := by simp at hok; exact hok.1
    have ha5 : a5.size ≤ 1050000 := by have := (dgB_iff hd).2.2.2.2.2.1.2; have := (dgB_iff hd).2.2.2.1; omega
    -- whole at once, or a part
    have h01 : ∀ (v : Bool) (r : RJ), Ev (fun k => impl_JoinBits.j1 k now l v a0 a1 a2 a3 a4 a5) r → Ev (fun k => spec_JoinBits.j1 k now l v a0 a1 a2 a3 a4 a5) r → (v = (decide (a3 = 0) && !a4)) → Ev (fun k => impl_JoinBits.f k l a0 a1 a2 a3 a4 a5 now) r ∧ Ev (fun k => spec_JoinBits.f k l a0 a1 a2 a3 a4 a5 now) r := by
      intro v r h1 h2 hv
      refine hgo false r ?_ ?_ (by rw [hok]; rfl)
      · refine Ev.step (f := fun k => impl_JoinBits.j1 k now l v a0 a1 a2 a3 a4 a5) (fun k => ?_) h1
        simp only [impl_JoinBits.j0, Bool.false_eq_true, if_false]
        by_cases h3 : a3 = 0
        · rw [if_pos h3, hv]; simp [h3]
        · rw [if_neg h3, hv]; simp [h3]
      · refine Ev.step (f := fun k => spec_JoinBits.j1 k now l v a0 a1 a2 a3 a4 a5) (fun k => ?_) h2
        simp only [spec_JoinBits.j0, Bool.false_eq_true, if_false]
        by_cases h3 : a3 = 0
        · rw [if_pos h3, hv]; simp [h3]
        · rw [if_neg h3, hv]; simp [h3]
    cases hv : (decide (a3 = 0) && !a4) with
    | true =>
      obtain ⟨e1, e2⟩ := h01 true (l, a0, a1, a2, a3, a4, a5, true) (Ev.step (f := fun _ => some (l, a0, a1, a2, a3, a4, a5, true)) (fun k => by simp only [impl_JoinBits.j1, if_true]) (Ev.now _)) (Ev.step (f := fun _ => some (l, a0, a1, a2, a3, a4, a5, true)) (fun k => by simp only [spec_JoinBits.j1, if_true]) (Ev.now _)) hv.symm
      exact ⟨_, e1, e2, Nat.le_succ _, hlo, fun _ => trivial⟩
    | false =>
      obtain ⟨b, hbF⟩ := Fnd.ex (hitB a0 a2) l
      have hi := idxB_ok l (by omega) a0 a1 a2 a3 a4 a5 b hbF
      have hsp : ∀ (r : RJ), Ev (fun k => if b < 0 then (if l.length < 1759218604441 then spec_JoinBits.l1 k (l ++ [(⟨a0, a2, ([] : List ByteArray), ([] : List Int), 0, wrap64 (now + 10)⟩ : S82)]) a0 a1 a2 a3 a4 a5 else none) else spec_JoinBits.j5 k l b a0 a1 a2 a3 a4 a5) r → Ev (fun k => spec_JoinBits.j1 k now l false a0 a1 a2 a3 a4 a5) r := by
        intro r hr
        refine Ev.step (f := fun k => spec_JoinBits.l0 k now l (-1) ((l.length : Int) - 1) a0 a1 a2 a3 a4 a5) (fun k => by simp only [spec_JoinBits.j1, Bool.false_eq_true, if_false]; rw [w64 (by omega) (by omega)]) ?_
        refine spec_find l (by omega) r (fun b0 hb0 => ?_) l.length (-1) (Nat.le_refl _) (.inl ⟨rfl, fun m h1 h2 => absurd h2 (by omega)⟩)
        have e := Fnd.uniq hb0 hbF
        subst e
        exact hr
      by_cases hneg : b < 0
      · obtain ⟨z, hz⟩ : ∃ z, z = l ++ [(⟨a0, a2, ([] : List ByteArray), ([] : List Int), 0, wrap64 (now + 10)⟩ : S82)] := ⟨_, rfl⟩
        have hzl : z.length = l.length + 1 := by rw [hz, List.length_append]; rfl
        have hzb : ∀ x ∈ z, bS x := by
          intro x hx
          rw [hz] at hx
          rcases List.mem_append.1 hx with h | h
          · exact hb x h
          · rw [List.mem_singleton.1 h]
            exact ⟨Nat.zero_le _, Nat.zero_le _, fun s hs => by cases hs⟩
        obtain ⟨y, hy⟩ : ∃ y, y = z.drop (z.length - 3) := ⟨_, rfl⟩
        have hyl : y.length = z.length - (z.length - 3) := by rw [hy, List.length_drop]
        obtain ⟨r, t1, t2, t3, t4⟩ := tail_both (a0 := a0) (a1 := a1) (a2 := a2) (a3 := a3) (a4 := a4) (a5 := a5) y (y.length - 1) (by omega) (by omega) (fun x hx => hzb x (by rw [hy] at hx; exact List.mem_of_mem_drop hx)) ha5
        have hyi : (((y.length - 1 : Nat)) : Int) = (y.length : Int) - 1 := by omega
        rw [hyi] at t1 t2
        obtain ⟨e1, e2⟩ := h01 false r (by
          refine Ev.step (f := fun k => (impl_Bits.f k l a0 a1 a2 a3 a4 a5).bind fun t => if t < 0 then impl_JoinBits.j2 k y ((y.length : Int) - 1) a0 a1 a2 a3 a4 a5 else impl_JoinBits.j2 k l t a0 a1 a2 a3 a4 a5) (fun k => ?_) (Ev.bind hi (Ev.congr (f := fun k => impl_JoinBits.j2 k y ((y.length : Int) - 1) a0 a1 a2 a3 a4 a5) (fun k => if_pos hneg) t1))
          simp only [impl_JoinBits.j1, Bool.false_eq_true, if_false, if_pos (show l.length < 1759218604441 by omega), Option.bind_some, ← hz, mx_len (show z.length ≤ 2000000 by omega), ← hy, w64 (x := (y.length : Int) - 1) (by omega) (by omega)]) (hsp r (by
          refine Ev.congr (f := fun k => spec_JoinBits.l1 k z a0 a1 a2 a3 a4 a5) (fun k => by rw [if_pos hneg, if_pos (by omega), hz]) ?_
          refine spec_cut r z.length z rfl (by omega) (fun x hx => ⟨Nat.le_trans (hzb x hx).1 (by omega), Nat.le_trans (hzb x hx).2.1 (by omega)⟩) ?_
          rw [← hy]
          exact t2)) hv.symm
        exact ⟨r, e1, e2, by omega, t4, fun _ => trivial⟩
      · obtain ⟨j, hjl, hbj⟩ : ∃ j : Nat, j < l.length ∧ b = (j : Int) := by
          rcases hbF with ⟨h, _⟩ | ⟨j, _, h1, h2, _⟩
          · omega
          · exact ⟨j, h1, h2⟩
        obtain ⟨r, t1, t2, t3, t4⟩ := tail_both (a0 := a0) (a1 := a1) (a2 := a2) (a3 := a3) (a4 := a4) (a5 := a5) l j hjl (by omega) hb ha5
        rw [← hbj] at t1 t2
        obtain ⟨e1, e2⟩ := h01 false r (by
          refine Ev.step (fun k => by simp only [impl_JoinBits.j1, Bool.false_eq_true, if_false]; rfl) ?_
          refine Ev.bind hi ?_
          exact Ev.congr (f := fun k => impl_JoinBits.j2 k l b a0 a1 a2 a3 a4 a5) (fun k => if_neg hneg) t1) (hsp r (Ev.congr (f := fun k => spec_JoinBits.j5 k l b a0 a1 a2 a3 a4 a5) (fun k => by rw [if_neg hneg]) t2)) hv.symm
        exact ⟨r, e1, e2, by omega, t4, fun _ => trivial⟩
  · have hok' : (dgB a0 a1 a2 a3 a4 a5 && rng now 0 999999990) = false := by simpa using hok
    obtain ⟨e1, e2⟩ := hgo true (l, 0, 0, 0, 0, false, ⟨#[]⟩, false) (Ev.step (f := fun _ => some (l, 0, 0, 0, 0, false, ⟨#[]⟩, false)) (fun k => by simp only [impl_JoinBits.j0, if_true]) (Ev.now _)) (Ev.step (f := fun _ => some (l, 0, 0, 0, 0, false, ⟨#[]⟩, false)) (fun k => by simp only [spec_JoinBits.j0, if_true]) (Ev.now _)) (by rw [hok']; rfl)
    exact ⟨_, e1, e2, Nat.le_succ _, hlo, fun _ => trivial⟩
end

/-! ### FnExactJoinBits -/
theorem eqDgram_self (a b c d : Int) (e : Bool) (f : ByteArray) : laws_eqDgram.f a b c d e f a b c d e f = some true := by
  unfold laws_eqDgram.f
  simp
theorem FnExactJoinBits : StFnExactJoinBits.Pure := by
  intro l a b c d e f now hl _ _ _ _ _ _ _
  obtain ⟨h1, h2, h3⟩ := hl
  obtain ⟨t, ht, hc⟩ := szBitsS_ok l (by omega) (fun x hx => by
    obtain ⟨_, _, hS, hI, _⟩ := h3 x hx
    obtain ⟨s1, s2, s3⟩ := hS
    obtain ⟨i1, i2, i3⟩ := hI
    exact ⟨by have : x.f2.length * 16 ≤ 140737488351232 := s2; omega, by have : x.f3.length * 8 ≤ 140737488351232 := i2; omega, s3⟩)
  by_cases hn : t < 0
  · refine Ev.ex ?_
    unfold laws_FnExactJoinBits.f
    refine Ev.bind ht ?_
    simp only [if_pos hn]
    exact Ev.now _
  by_cases hz : wrap64 (t - (f.size : Int)) < 0
  · refine Ev.ex ?_
    unfold laws_FnExactJoinBits.f
    refine Ev.bind ht ?_
    simp only [if_neg hn, laws_szDgram.f, if_pos hz, Option.bind_some, if_pos (show (-1 : Int) < 0 by omega)]
    exact Ev.now _
  · obtain ⟨ll, hb⟩ := hc.resolve_left hn
    have lm : (l.map conB).length = l.length := List.length_map _
    obtain ⟨⟨g0, g1, g2, g3, g4, g5, g6, g7⟩, eg, es, gl, gb, _⟩ := join_both (a0 := a) (a1 := b) (a2 := c) (a3 := d) (a4 := e) (a5 := f) (now := now) (l.map conB) (by omega) hb
    have gl' : g0.length ≤ 1048577 := by have : g0.length ≤ (l.map conB).length + 1 := gl; omega
    have gb' : ∀ x ∈ g0, bOk x := gb
    have hbo : ∀ x ∈ l.map conB, bOk x := fun x hx => (hb x hx).ok
    obtain ⟨x, lx, _, x0, hxm, _⟩ := markheldBits (l.map conB) 1 hbo (by omega) (by omega) (by omega)
    obtain ⟨m, lg, lgl, m0, hmm, hmh⟩ := markheldBits g0 1 gb' gl' (by omega) (by omega)
    have hh := hmh [] (by simp only [List.length_nil]; omega)
    refine Ev.ex ?_
    unfold laws_FnExactJoinBits.f
    refine Ev.bind ht ?_
    simp only [if_neg hn, laws_szDgram.f, if_neg hz, Option.bind_some, laws_toDgram.f]
    refine Ev.bind (toBitsS_ok l ll hbo) (Ev.bind es (Ev.bind eg (Ev.bind (eqBitsS_ok g0 (by omega) gb') (Ev.bind (eqBitsS_ok (l.map conB) (by omega) hbo) ?_))))
    simp only [eqDgram_self, Option.bind_some]
    refine Ev.bind hxm (Ev.bind hmm (Ev.bind (r := true) hh ?_))
    rw [if_pos (by refine ⟨?_, ?_, ?_, ?_, x0, m0, ?_⟩ <;> first | trivial | rfl)]
    exact Ev.now _

end Go.Proofs.Ytmknnoeggkgkgaa.Pure
