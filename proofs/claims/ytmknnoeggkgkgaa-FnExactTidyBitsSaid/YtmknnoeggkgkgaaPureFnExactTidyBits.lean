/- The pure statement of the law 'FnExactTidyBits', proved: over numbers, lists and texts alone. No condition. -/
import Derived.Test.YtmknnoeggkgkgaaStFnExactTidyBits
import Derived.Laws.BitsLemmas
namespace Go.Proofs.Ytmknnoeggkgkgaa.Pure
open Go.RowKit Go.Proofs.Ytmknnoeggkgkgaa.QFnExactTidyBits Go.Proofs.YtmknnoeggkgkgaaW.PrintWords Go.Proofs.YtmknnoeggkgkgaaW.PrintLast Go.Proofs.YtmknnoeggkgkgaaW.PrintMore Go.Proofs.Ytmknnoeggkgkgaa.StFnExactTidyBits Go.Proofs.Ytmknnoeggkgkgaa.Opens
set_option linter.unusedVariables false
set_option linter.unusedSimpArgs false

/-! ### base -/
theorem w64 {x : Int} (h0 : -9223372036854775808 ≤ x) (h1 : x ≤ 9223372036854775807) : wrap64 x = x := by unfold wrap64; omega
theorem ip {α : Type} {c : Prop} [Decidable c] {a b : α} (h : c) : (if c then a else b) = a := if_pos h
theorem Ev.ex {α : Type} {g : Nat → Option α} {r : α} (h : Ev g r) : ∃ k, g k = some r := h.rounds
theorem Ev.from_ {α : Type} {g : Nat → Option α} {r : α} (K : Nat) (h : ∀ k, K ≤ k → g k = some r) : Ev g r := ⟨K, h⟩
theorem up_loop {β : Type} {F : Nat → Int → Option β} {n : Nat} {r : β} (hs : ∀ k (j : Nat), j < n → F (k + 1) (j : Int) = F k ((j + 1 : Nat) : Int)) (he : ∀ k, F (k + 1) (n : Int) = some r) :
    ∀ (d j : Nat), n - j = d → j ≤ n → ∀ k, d < k → F k (j : Int) = some r := by
  intro d
  induction d with
  | zero =>
    intro j hd hj k hk
    obtain ⟨k, rfl⟩ : ∃ m, k = m + 1 := ⟨k - 1, by omega⟩
    obtain rfl : j = n := by omega
    exact he k
  | succ d ih =>
    intro j hd hj k hk
    obtain ⟨k, rfl⟩ : ∃ m, k = m + 1 := ⟨k - 1, by omega⟩
    rw [hs k j (by omega)]
    exact ih (j + 1) (by omega) (by omega) k (by omega)
theorem map_loop {α β : Type} {F : Nat → List β → Int → Option (List β)} {g : α → β} {l : List α}
    (hs : ∀ k (acc : List β) (j : Nat) (hj : j < l.length), acc.length = l.length → F (k + 1) acc (j : Int) = F k (acc.set j (g l[j])) ((j + 1 : Nat) : Int))
    (he : ∀ k (acc : List β), F (k + 1) acc (l.length : Int) = some acc) :
    ∀ (d j : Nat) (acc : List β), l.length - j = d → j ≤ l.length → acc.length = l.length → (∀ i, i < j → acc[i]? = (l[i]?).map g) → ∀ k, d < k → F k acc (j : Int) = some (l.map g) := by
  intro d
  induction d with
  | zero =>
    intro j acc hd hj hl ha k hk
    obtain ⟨k, rfl⟩ : ∃ m, k = m + 1 := ⟨k - 1, by omega⟩
    obtain rfl : j = l.length := by omega
    rw [he]
    congr 1
    apply List.ext_getElem?
    intro i
    rw [List.getElem?_map]
    by_cases hi : i < l.length
    · exact ha i hi
    · rw [List.getElem?_eq_none (by omega), List.getElem?_eq_none (by omega)]; rfl
  | succ d ih =>
    intro j acc hd hj hl ha k hk
    obtain ⟨k, rfl⟩ : ∃ m, k = m + 1 := ⟨k - 1, by omega⟩
    have hjl : j < l.length := by omega
    rw [hs k acc j hjl hl]
    refine ih (j + 1) _ (by omega) (by omega) (by rw [List.length_set]; exact hl) (fun i hi => ?_) k (by omega)
    by_cases hij : i = j
    · subst hij
      rw [List.getElem?_set_self (by omega), List.getElem?_eq_getElem hjl]
      rfl
    · rw [List.getElem?_set_ne (fun h => hij h.symm)]
      exact ha i (by omega)
theorem getD_at {α : Type} {l : List α} {j : Nat} (z : α) (h : j < l.length) : l.getD (j : Int).toNat z = l[j] := by
  simp [List.getD_eq_getElem?_getD, List.getElem?_eq_getElem h]

/-! ### sz -/
theorem sz_loop {α : Type} {F : Nat → Int → Int → Option Int} {g : α → Int → Option Int} {l : List α} {P : α → Prop}
    (hs : ∀ k (left : Int) (j : Nat) (hj : j < l.length), l.length ≤ 2000000 → F (k + 1) left (j : Int) = (g l[j] left).bind fun t => if t < 0 then some (-1) else F k t ((j + 1 : Nat) : Int))
    (he : ∀ k (left : Int), F (k + 1) left (l.length : Int) = some left)
    (hg : ∀ x ∈ l, ∀ left : Int, 0 ≤ left → left ≤ 1048576 → ∃ t, g x left = some t ∧ (t < 0 ∨ (0 ≤ t ∧ t ≤ left ∧ P x))) (hl : l.length ≤ 2000000) :
    ∀ (d j : Nat) (left : Int), l.length - j = d → j ≤ l.length → 0 ≤ left → left ≤ 1048576 → ∃ t, (∀ k, d < k → F k left (j : Int) = some t) ∧ (t < 0 ∨ (0 ≤ t ∧ t ≤ left ∧ ∀ i (hi : i < l.length), j ≤ i → P l[i])) := by
  intro d
  induction d with
  | zero =>
    intro j left hd hj h0 h1
    obtain rfl : j = l.length := by omega
    refine ⟨left, fun k hk => ?_, .inr ⟨h0, Int.le_refl _, fun i hi h => absurd hi (by omega)⟩⟩
    obtain ⟨k, rfl⟩ : ∃ m, k = m + 1 := ⟨k - 1, by omega⟩
    exact he k left
  | succ d ih =>
    intro j left hd hj h0 h1
    have hjl : j < l.length := by omega
    obtain ⟨t, ht, hc⟩ := hg l[j] (List.getElem_mem _) left h0 h1
    rcases hc with hc | ⟨h2, h3, hP⟩
    · refine ⟨-1, fun k hk => ?_, .inl (by omega)⟩
      obtain ⟨k, rfl⟩ : ∃ m, k = m + 1 := ⟨k - 1, by omega⟩
      rw [hs k left j hjl hl, ht]
      simp only [Option.bind_some]
      rw [if_pos hc]
    · obtain ⟨t2, ih1, ih2⟩ := ih (j + 1) t (by omega) (by omega) h2 (by omega)
      refine ⟨t2, fun k hk => ?_, ?_⟩
      · obtain ⟨k, rfl⟩ : ∃ m, k = m + 1 := ⟨k - 1, by omega⟩
        rw [hs k left j hjl hl, ht]
        simp only [Option.bind_some]
        rw [if_neg (by omega)]
        exact ih1 k (by omega)
      · rcases ih2 with h4 | ⟨h4, h5, h6⟩
        · exact .inl h4
        · refine .inr ⟨h4, by omega, fun i hi hji => ?_⟩
          by_cases hij : i = j
          · subst hij; exact hP
          · exact h6 i hi (by omega)

/-! ### mark -/
theorem mt_loop : ∀ (d : Nat) (x : Int) (s : ByteArray), 0 ≤ x → x < 10 ^ d → x ≤ 9223372036854775807 → s.size + d ≤ 1000 → ∃ t, ∀ k, d < k → laws_markText.l0 k x s = some t := by
  intro d
  induction d with
  | zero =>
    intro x s h0 h1 h2 hs
    refine ⟨(⟨#[109]⟩ : ByteArray) ++ s, fun k hk => ?_⟩
    obtain ⟨k, rfl⟩ : ∃ m, k = m + 1 := ⟨k - 1, by omega⟩
    simp only [laws_markText.l0]
    rw [if_neg (by omega), if_pos (by omega)]
  | succ d ih =>
    intro x s h0 h1 h2 hs
    by_cases hx : x > 0
    · have h10 : x / 10 < 10 ^ d := by
        have : (10 : Int) ^ (d + 1) = 10 ^ d * 10 := Int.pow_succ 10 d
        omega
      obtain ⟨t, ih⟩ := ih (x / 10) (strOfNums [(48 + x % 10) % 256] ++ s) (by omega) h10 (by omega) (by rw [ByteArray.size_append, strOfNums_size]; simp only [List.length_cons, List.length_nil]; omega)
      refine ⟨t, fun k hk => ?_⟩
      obtain ⟨k, rfl⟩ : ∃ m, k = m + 1 := ⟨k - 1, by omega⟩
      simp only [laws_markText.l0]
      rw [if_pos hx, Int.tmod_eq_emod_of_nonneg h0, Int.tdiv_eq_ediv_of_nonneg h0, w64 (x := 48 + x % 10) (by omega) (by omega)]
      simp only [Option.bind_some]
      rw [if_pos (by rw [strOfNums_size]; simp only [List.length_cons, List.length_nil]; omega)]
      rw [w64 (by omega) (by omega)]
      exact ih k (by omega)
    · refine ⟨(⟨#[109]⟩ : ByteArray) ++ s, fun k hk => ?_⟩
      obtain ⟨k, rfl⟩ : ∃ m, k = m + 1 := ⟨k - 1, by omega⟩
      simp only [laws_markText.l0]
      rw [if_neg hx, if_pos (by omega)]
theorem markText_ok (n : Int) (h0 : 0 ≤ n) (h1 : n < 1000000000000000) : ∃ t, ∀ k, 20 ≤ k → laws_markText.f k n = some t := by
  by_cases hn : n ≤ 0
  · exact ⟨_, fun k _ => by unfold laws_markText.f; rw [if_pos hn]⟩
  · obtain ⟨t, ht⟩ := mt_loop 15 n ⟨#[]⟩ h0 (by omega) (by omega) (by decide)
    exact ⟨t, fun k hk => by unfold laws_markText.f; rw [if_neg hn]; exact ht k (by omega)⟩
def mt (n : Int) : ByteArray := (laws_markText.f 20 n).getD ⟨#[]⟩
theorem markText_eq {k : Nat} {n : Int} (hk : 20 ≤ k) (h0 : 0 ≤ n) (h1 : n < 1000000000000000) : laws_markText.f k n = some (mt n) := by
  obtain ⟨t, ht⟩ := markText_ok n h0 h1
  unfold mt
  rw [ht k hk, ht 20 (by omega)]
  rfl
theorem mark_loop {α : Type} {F : Nat → List α → Int → Int → Option (Int × List α)} {G : Int → α} {w : Nat}
    (hs : ∀ k (l : List α) (c : Int) (j : Nat), j < l.length → l.length ≤ 2000000 → 20 ≤ k → 0 ≤ c → c ≤ 100000000000000 → F (k + 1) l c (j : Int) = F k (l.set j (G c)) (c + w) ((j + 1 : Nat) : Int))
    (he : ∀ k (l : List α) (c : Int), F (k + 1) l c (l.length : Int) = some (c, l)) :
    ∀ (d j : Nat) (l : List α) (c : Int), l.length - j = d → j ≤ l.length → l.length ≤ 2000000 → 0 ≤ c → c + w * d ≤ 100000000000000 →
    ∃ l' : List α, l'.length = l.length ∧ (∀ i, i < j → l'[i]? = l[i]?) ∧ (∀ i, j ≤ i → i < l.length → l'[i]? = some (G (c + w * ((i - j : Nat) : Int)))) ∧ ∀ k, d + 20 < k → F k l c (j : Int) = some (c + w * d, l') := by
  intro d
  induction d with
  | zero =>
    intro j l c hd hj hl h0 h1
    obtain rfl : j = l.length := by omega
    refine ⟨l, rfl, fun _ _ => rfl, fun i h2 h3 => by omega, fun k hk => ?_⟩
    obtain ⟨k, rfl⟩ : ∃ m, k = m + 1 := ⟨k - 1, by omega⟩
    rw [he]
    simp
  | succ d ih =>
    intro j l c hd hj hl h0 h1
    have hmul : (w : Int) * ((d + 1 : Nat) : Int) = w + w * d := by rw [Int.natCast_succ, Int.mul_add, Int.mul_one, Int.add_comm]
    have hwd : 0 ≤ (w : Int) * (d : Int) := Int.mul_nonneg (by omega) (by omega)
    obtain ⟨l', hl', h2, h3, h4⟩ := ih (j + 1) (l.set j (G c)) (c + w) (by rw [List.length_set]; omega) (by rw [List.length_set]; omega) (by rw [List.length_set]; exact hl) (by omega) (by omega)
    rw [List.length_set] at hl' h3
    refine ⟨l', hl', fun i hi => ?_, fun i hi1 hi2 => ?_, fun k hk => ?_⟩
    · rw [h2 i (by omega), List.getElem?_set_ne (by omega)]
    · by_cases hij : i = j
      · subst hij
        rw [h2 i (by omega), List.getElem?_set_self (by omega)]
        simp
      · rw [h3 i (by omega) hi2]
        congr 2
        have : ((i - j : Nat) : Int) = ((i - (j + 1) : Nat) : Int) + 1 := by omega
        rw [this, Int.mul_add, Int.mul_one]
        omega
    · obtain ⟨k, rfl⟩ : ∃ m, k = m + 1 := ⟨k - 1, by omega⟩
      rw [hs k l c j (by omega) hl (by omega) h0 (by omega), h4 k (by omega), hmul]
      congr 2
      omega
theorem held_loop {α : Type} {F : Nat → List α → Int → Int → Option Int} {G : Int → α} {w : Nat} {l : List α}
    (hs : ∀ k (c : Int) (j : Nat) (hj : j < l.length), l.length ≤ 2000000 → 20 ≤ k → 0 ≤ c → c ≤ 100000000000000 → l[j] = G c → F (k + 1) l c (j : Int) = F k l (c + w) ((j + 1 : Nat) : Int))
    (he : ∀ k (c : Int), F (k + 1) l c (l.length : Int) = some c) (hl : l.length ≤ 2000000) :
    ∀ (d j : Nat) (c : Int), l.length - j = d → j ≤ l.length → 0 ≤ c → c + w * d ≤ 100000000000000 → (∀ i, j ≤ i → i < l.length → l[i]? = some (G (c + w * ((i - j : Nat) : Int)))) → ∀ k, d + 20 < k → F k l c (j : Int) = some (c + w * d) := by
  intro d
  induction d with
  | zero =>
    intro j c hd hj h0 h1 hG k hk
    obtain rfl : j = l.length := by omega
    obtain ⟨k, rfl⟩ : ∃ m, k = m + 1 := ⟨k - 1, by omega⟩
    rw [he]
    simp
  | succ d ih =>
    intro j c hd hj h0 h1 hG k hk
    obtain ⟨k, rfl⟩ : ∃ m, k = m + 1 := ⟨k - 1, by omega⟩
    have hjl : j < l.length := by omega
    have hmul : (w : Int) * ((d + 1 : Nat) : Int) = w + w * d := by rw [Int.natCast_succ, Int.mul_add, Int.mul_one, Int.add_comm]
    have hwd : 0 ≤ (w : Int) * (d : Int) := Int.mul_nonneg (by omega) (by omega)
    have hj0 : l[j] = G c := by
      have := hG j (Nat.le_refl _) hjl
      rw [List.getElem?_eq_getElem hjl] at this
      simpa using this
    rw [hs k c j hjl hl (by omega) h0 (by omega) hj0, ih (j + 1) (c + w) (by omega) (by omega) (by omega) (by omega) (fun i h2 h3 => ?_) k (by omega), hmul]
    · congr 1; omega
    · rw [hG i (by omega) h3]
      congr 2
      have : ((i - j : Nat) : Int) = ((i - (j + 1) : Nat) : Int) + 1 := by omega
      rw [this, Int.mul_add, Int.mul_one]
      omega

/-! ### m_String -/
theorem rdS_at {l : List ByteArray} {j : Nat} (h : j < l.length) : rdOf ByteArray.empty l (j : Int) = l[j] := by
  unfold rdOf
  rw [List.getD_eq_getElem?_getD, Int.toNat_natCast, List.getElem?_eq_getElem h]
  rfl
theorem markStringS_ok (l : List ByteArray) (c : Int) (hl : l.length ≤ 2000000) (h0 : 0 ≤ c) (h1 : c + 1 * l.length ≤ 100000000000000) :
    ∃ l' : List ByteArray, l'.length = l.length ∧ (∀ i, i < l.length → l'[i]? = some (mt (c + 1 * (i : Int)))) ∧ ∀ k, l.length + 20 < k → laws_markStringS.f k l c = some (c + 1 * l.length, l') := by
  obtain ⟨l', hl', _, h3, h4⟩ := mark_loop (F := fun k l c j => laws_markStringS.l0 k l c j) (G := mt) (w := 1) (fun k l c j hj hl hk h0 h1 => by
      simp (disch := omega) only [laws_markStringS.l0, ip, Option.bind_some, w64, markText_eq, List.set_set, Int.toNat_natCast]
      congr 1 <;> omega) (fun k l c => by simp only [laws_markStringS.l0]; rw [if_neg (by omega)]) l.length 0 l c (by omega) (by omega) hl h0 h1
  exact ⟨l', hl', fun i hi => by simpa using h3 i (by omega) hi, h4⟩
theorem heldStringS_ok (l : List ByteArray) (c : Int) (hl : l.length ≤ 2000000) (h0 : 0 ≤ c) (h1 : c + 1 * l.length ≤ 100000000000000) (hG : ∀ i, i < l.length → l[i]? = some (mt (c + 1 * (i : Int)))) :
    ∀ k, l.length + 20 < k → laws_heldStringS.f k l c = some (c + 1 * l.length) := by
  exact held_loop (F := fun k l c j => laws_heldStringS.l0 k l c j) (G := mt) (w := 1) (fun k c j hj hl hk h0 h1 hP => by
      have hr : rdOf ByteArray.empty l (j : Int) = mt c := by rw [rdS_at hj]; exact hP
      simp (disch := omega) only [laws_heldStringS.l0, hr, ip, Option.bind_some, w64, markText_eq, if_true, bne_self_eq_false, Bool.false_eq_true, if_false]
      congr 1 <;> omega) (fun k c => by simp only [laws_heldStringS.l0]; rw [if_neg (by omega)]) hl l.length 0 c (by omega) (by omega) h0 h1 (fun i _ hi => by simpa using hG i hi)
theorem markheldString (l : List ByteArray) (hl : l.length ≤ 2000000) (c : Int) (h0 : 0 ≤ c) (h1 : c ≤ 10000000000000) : ∃ (m : Int) (l' : List ByteArray), 0 ≤ m ∧ m ≤ c + 1 * l.length ∧ Ev (fun k => laws_markStringS.f k l c) (m, l') ∧ Ev (fun k => laws_heldStringS.f k l' c) m := by
  obtain ⟨l', hl', h2, h3⟩ := markStringS_ok l c hl h0 (by omega)
  refine ⟨c + 1 * l.length, l', by omega, by omega, ⟨l.length + 21, fun k hk => h3 k (by omega)⟩, ⟨l.length + 21, fun k hk => ?_⟩⟩
  have := heldStringS_ok l' c (by omega) h0 (by omega) (fun i hi => h2 i (by omega)) k (by omega)
  rw [hl'] at this
  exact this
theorem eqStringS_ok (l : List ByteArray) (hl : l.length ≤ 2000000) : ∀ k, l.length < k → laws_eqStringS.f k l l = some true := by
  intro k hk
  unfold laws_eqStringS.f
  rw [if_pos rfl]
  refine up_loop (F := fun k j => laws_eqStringS.l0 k l l j) (n := l.length) ?_ ?_ l.length 0 (by omega) (by omega) k hk
  · intro k j hj
    simp (disch := omega) only [laws_eqStringS.l0, ip, w64, Option.bind_some, if_true, bne_self_eq_false, Bool.false_eq_true, if_false]
    rfl
  · intro k
    simp only [laws_eqStringS.l0]
    rw [if_neg (by omega)]

/-! ### bits -/
theorem ev_up {β : Type} {F : Nat → Int → Option β} {n : Nat} {r : β} (hs : ∀ (j : Nat), j < n → Ev (fun k => F k ((j + 1 : Nat) : Int)) r → Ev (fun k => F k (j : Int)) r) (he : Ev (fun k => F k (n : Int)) r) :
    ∀ (d j : Nat), n - j = d → j ≤ n → Ev (fun k => F k (j : Int)) r := by
  intro d
  induction d with
  | zero =>
    intro j hd hj
    obtain rfl : j = n := by omega
    exact he
  | succ d ih =>
    intro j hd hj
    exact hs j (by omega) (ih (j + 1) (by omega) (by omega))
theorem ev_map {α β : Type} {F : Nat → List β → Int → Option (List β)} {g : α → β} {l : List α}
    (hs : ∀ (acc : List β) (j : Nat) (hj : j < l.length) (r : List β), acc.length = l.length → Ev (fun k => F k (acc.set j (g l[j])) ((j + 1 : Nat) : Int)) r → Ev (fun k => F k acc (j : Int)) r)
    (he : ∀ (acc : List β), Ev (fun k => F k acc (l.length : Int)) acc) :
    ∀ (d j : Nat) (acc : List β), l.length - j = d → j ≤ l.length → acc.length = l.length → (∀ i, i < j → acc[i]? = (l[i]?).map g) → Ev (fun k => F k acc (j : Int)) (l.map g) := by
  intro d
  induction d with
  | zero =>
    intro j acc hd hj hl ha
    obtain rfl : j = l.length := by omega
    have h := he acc
    have e : acc = l.map g := by
      apply List.ext_getElem?
      intro i
      rw [List.getElem?_map]
      by_cases hi : i < l.length
      · exact ha i hi
      · rw [List.getElem?_eq_none (by omega), List.getElem?_eq_none (by omega)]; rfl
    rw [← e]
    exact h
  | succ d ih =>
    intro j acc hd hj hl ha
    have hjl : j < l.length := by omega
    refine hs acc j hjl _ hl (ih (j + 1) _ (by omega) (by omega) (by rw [List.length_set]; exact hl) (fun i hi => ?_))
    by_cases hij : i = j
    · subst hij
      rw [List.getElem?_set_self (by omega), List.getElem?_eq_getElem hjl]
      rfl
    · rw [List.getElem?_set_ne (fun h => hij h.symm)]
      exact ha i (by omega)
def bOk (x : S82) : Prop := x.f2.length ≤ 1048576 ∧ x.f3.length ≤ 1048576 ∧ ∀ s ∈ x.f2, s.size ≤ 1048576
theorem rdB {l : List S82} {j : Nat} (h : j < l.length) : rd_T82 l (j : Int) = l[j] := by unfold rd_T82; exact getD_at _ h
def conB (x : S133) : S82 := ⟨x.f0, x.f1, x.f2, x.f3, x.f4, x.f5⟩
theorem rdL {l : List S133} {j : Nat} (h : j < l.length) : rd_T133 l (j : Int) = l[j] := by unfold rd_T133; exact getD_at _ h
theorem szS_ok (l : List ByteArray) (hl : l.length ≤ 140737488351232) (hw : ∀ s ∈ l, s.size ≤ 140737488351232) (left : Int) (h0 : 0 ≤ left) (h1 : left ≤ 1048576) :
    ∃ t, Ev (fun k => laws_szStringS.f k l left) t ∧ (t < 0 ∨ (0 ≤ t ∧ t ≤ left ∧ l.length ≤ 1048576 ∧ ∀ s ∈ l, s.size ≤ 1048576)) := by
  have hwl : wrap64 (left - (l.length : Int)) = left - l.length := w64 (by omega) (by omega)
  by_cases hn : left - (l.length : Int) < 0
  · exact ⟨-1, Ev.from_ 0 (fun k _ => by unfold laws_szStringS.f; rw [hwl, if_pos hn]), .inl (by omega)⟩
  · obtain ⟨t, ht, hc⟩ := sz_loop (F := fun k left j => laws_szStringS.l0 k l left j) (g := fun x left => some (wrap64 (left - (x.size : Int)))) (l := l) (P := fun s => s.size ≤ 1048576) (fun k left j hj _ => by
        have hr : rdOf ByteArray.empty l (j : Int) = l[j] := rdS_at hj
        simp only [laws_szStringS.l0, Option.bind_some]
        rw [if_pos (by omega), if_pos (by omega), hr, w64 (x := (j : Int) + 1) (by omega) (by omega)]
        rfl) (fun k left => by simp only [laws_szStringS.l0]; rw [if_neg (by omega)]) (fun x hx left h0 h1 => by
        have := hw x hx
        refine ⟨_, rfl, ?_⟩
        rw [w64 (by omega) (by omega)]
        by_cases h : left - (x.size : Int) < 0
        · exact .inl h
        · exact .inr ⟨by omega, by omega, by omega⟩) (by omega) l.length 0 (left - l.length) (by omega) (by omega) (by omega) (by omega)
    refine ⟨t, Ev.from_ (l.length + 1) (fun k hk => by unfold laws_szStringS.f; rw [hwl, if_neg hn]; exact ht k (by omega)), ?_⟩
    rcases hc with hc | ⟨h2, h3, h4⟩
    · exact .inl hc
    · refine .inr ⟨h2, by omega, by omega, fun s hs => ?_⟩
      obtain ⟨i, hi, rfl⟩ := List.mem_iff_getElem.1 hs
      exact h4 i hi (by omega)
theorem szI_ok (l : List Int) (hl : l.length ≤ 140737488351232) (left : Int) (h0 : 0 ≤ left) (h1 : left ≤ 1048576) :
    ∃ t, laws_szIntS.f l left = some t ∧ (t < 0 ∨ (0 ≤ t ∧ t ≤ left ∧ l.length ≤ 1048576)) := by
  have hwl : wrap64 (left - (l.length : Int)) = left - l.length := w64 (by omega) (by omega)
  unfold laws_szIntS.f
  rw [hwl]
  by_cases hn : left - (l.length : Int) < 0
  · exact ⟨-1, if_pos hn, .inl (by omega)⟩
  · exact ⟨_, if_neg hn, .inr ⟨by omega, by omega, by omega⟩⟩
def wB (x : S133) : Prop := x.f2.length ≤ 140737488351232 ∧ x.f3.length ≤ 140737488351232 ∧ ∀ s ∈ x.f2, s.size ≤ 140737488351232
theorem szB_ok (x : S133) (hw : wB x) (left : Int) (h0 : 0 ≤ left) (h1 : left ≤ 1048576) :
    ∃ t, Ev (fun k => laws_szBits.f k x.f0 x.f1 x.f2 x.f3 x.f4 x.f5 left) t ∧ (t < 0 ∨ (0 ≤ t ∧ t ≤ left ∧ bOk (conB x))) := by
  obtain ⟨t, ht, hc⟩ := szS_ok x.f2 hw.1 hw.2.2 left h0 h1
  rcases hc with hc | ⟨h2, h3, h4, h5⟩
  · refine ⟨-1, ?_, .inl (by omega)⟩
    unfold laws_szBits.f
    refine Ev.bind ht ?_
    rw [if_pos hc]
    exact Ev.now _
  · obtain ⟨q, hq, hd⟩ := szI_ok x.f3 hw.2.1 t h2 (by omega)
    by_cases hn : q < 0
    · refine ⟨-1, ?_, .inl (by omega)⟩
      unfold laws_szBits.f
      refine Ev.bind ht ?_
      rw [if_neg (by omega), hq]
      simp only [Option.bind_some]
      rw [if_pos hn]
      exact Ev.now _
    · obtain ⟨h6, h7, h8⟩ := hd.resolve_left hn
      refine ⟨q, ?_, .inr ⟨h6, by omega, h4, h8, h5⟩⟩
      unfold laws_szBits.f
      refine Ev.bind ht ?_
      rw [if_neg (by omega), hq]
      simp only [Option.bind_some]
      rw [if_neg hn]
      exact Ev.now _
theorem szBS_loop (l : List S133) (hl : l.length ≤ 2000000) (hw : ∀ x ∈ l, wB x) : ∀ (d j : Nat) (left : Int), l.length - j = d → j ≤ l.length → 0 ≤ left → left ≤ 1048576 →
    ∃ t, Ev (fun k => laws_szBitsS.l0 k l left (j : Int)) t ∧ (t < 0 ∨ ∀ (i : Nat) (hi : i < l.length), j ≤ i → bOk (conB l[i])) := by
  intro d
  induction d with
  | zero =>
    intro j left hd hj h0 h1
    exact ⟨left, Ev.step (f := fun _ => some left) (fun k => by simp only [laws_szBitsS.l0]; rw [if_neg (by omega)]) (Ev.now _), .inr (fun i hi hji => absurd hi (by omega))⟩
  | succ d ih =>
    intro j left hd hj h0 h1
    have hjl : j < l.length := by omega
    obtain ⟨t, ht, hc⟩ := szB_ok l[j] (hw _ (List.getElem_mem hjl)) left h0 h1
    have hstep : ∀ (q : Int), Ev (fun k => if t < 0 then some (-1) else laws_szBitsS.l0 k l t ((j + 1 : Nat) : Int)) q → Ev (fun k => laws_szBitsS.l0 k l left (j : Int)) q := by
      intro q hq
      refine Ev.step (fun k => rfl) ?_
      simp only [laws_szBitsS.l0, if_pos (show (j : Int) < (l.length : Int) by omega), if_pos (show (0 : Int) ≤ (j : Int) by omega), rdL hjl, w64 (x := (j : Int) + 1) (by omega) (by omega)]
      exact Ev.bind ht hq
    rcases hc with hc | ⟨h2, h3, h4⟩
    · exact ⟨-1, hstep _ (by simp only [if_pos hc]; exact Ev.now _), .inl (by omega)⟩
    · obtain ⟨q, hq, hd2⟩ := ih (j + 1) t (by omega) (by omega) h2 (by omega)
      refine ⟨q, hstep _ (by simp only [if_neg (show ¬ t < 0 by omega)]; exact hq), ?_⟩
      rcases hd2 with h | h
      · exact .inl h
      · refine .inr (fun i hi hji => ?_)
        by_cases hij : i = j
        · subst hij; exact h4
        · exact h i hi (by omega)
theorem szBitsS_ok (l : List S133) (hl : l.length ≤ 140737488351232) (hw : ∀ x ∈ l, wB x) : ∃ t, Ev (fun k => laws_szBitsS.f k l 1048576) t ∧ (t < 0 ∨ (l.length ≤ 1048576 ∧ ∀ x ∈ l.map conB, bOk x)) := by
  have hwl : wrap64 (1048576 - (l.length : Int)) = 1048576 - l.length := w64 (by omega) (by omega)
  by_cases hn : 1048576 - (l.length : Int) < 0
  · exact ⟨-1, Ev.from_ 0 (fun k _ => by unfold laws_szBitsS.f; rw [hwl, if_pos hn]), .inl (by omega)⟩
  · obtain ⟨t, ht, hc⟩ := szBS_loop l (by omega) hw l.length 0 (1048576 - l.length) (by omega) (by omega) (by omega) (by omega)
    refine ⟨t, ?_, ?_⟩
    · unfold laws_szBitsS.f
      rw [hwl]
      simp only [if_neg hn]
      exact ht
    · rcases hc with h | h
      · exact .inl h
      · refine .inr ⟨by omega, fun x hx => ?_⟩
        obtain ⟨y, hy, rfl⟩ := List.mem_map.1 hx
        obtain ⟨i, hi, rfl⟩ := List.mem_iff_getElem.1 hy
        exact h i hi (by omega)
theorem toS_ok (l : List ByteArray) (hl : l.length ≤ 1048576) : Ev (fun k => laws_toStringS.f k l) l := by
  refine ⟨l.length + 1, fun k hk => ?_⟩
  show laws_toStringS.f k l = some l
  unfold laws_toStringS.f
  rw [if_pos (by omega), if_pos (by omega)]
  have := map_loop (F := fun k acc j => laws_toStringS.l0 k l acc j) (g := fun x : ByteArray => x) (l := l) ?_ ?_ l.length 0 (List.replicate ((l.length : Int) : Int).toNat ⟨#[]⟩) (by omega) (by omega) (by simp) (fun i hi => absurd hi (by omega)) k (by omega)
  · simpa using this
  · intro k acc j hj ha
    simp only [laws_toStringS.l0]
    rw [if_pos (by omega), if_pos (by omega), if_pos (by omega), w64 (by omega) (by omega), rdS_at hj]
    rfl
  · intro k acc
    simp only [laws_toStringS.l0]
    rw [if_neg (by omega)]
theorem toI_ok (l : List Int) (hl : l.length ≤ 1048576) : Ev (fun k => laws_toIntS.f k l) l := by
  refine ⟨l.length + 1, fun k hk => ?_⟩
  show laws_toIntS.f k l = some l
  unfold laws_toIntS.f
  rw [if_pos (by omega), if_pos (by omega)]
  have := map_loop (F := fun k acc j => laws_toIntS.l0 k l acc j) (g := fun x : Int => x) (l := l) ?_ ?_ l.length 0 (List.replicate ((l.length : Int) : Int).toNat 0) (by omega) (by omega) (by simp) (fun i hi => absurd hi (by omega)) k (by omega)
  · simpa using this
  · intro k acc j hj ha
    simp only [laws_toIntS.l0]
    rw [if_pos (by omega), if_pos (by omega), if_pos (by omega), w64 (by omega) (by omega)]
    unfold rd
    rw [getD_at _ hj]
    rfl
  · intro k acc
    simp only [laws_toIntS.l0]
    rw [if_neg (by omega)]
theorem toBitsS_ok (l : List S133) (hl : l.length ≤ 1048576) (hb : ∀ x ∈ l.map conB, bOk x) : Ev (fun k => laws_toBitsS.f k l) (l.map conB) := by
  unfold laws_toBitsS.f
  simp only [if_pos (show (0 : Int) ≤ (l.length : Int) by omega), if_pos (show ((l.length : Int) : Int).toNat ≤ 3518437208883 by omega)]
  refine ev_map (F := fun k acc j => laws_toBitsS.l0 k l acc j) (g := conB) (l := l) ?_ ?_ l.length 0 (List.replicate ((l.length : Int) : Int).toNat z82) (by omega) (by omega) (by simp) (fun i hi => absurd hi (by omega))
  · intro acc j hj r ha h
    obtain ⟨b1, b2, _⟩ := hb _ (List.mem_map.2 ⟨l[j], List.getElem_mem hj, rfl⟩)
    refine Ev.step (fun k => rfl) ?_
    have hto : Ev (fun k => laws_toBits.f k l[j].f0 l[j].f1 l[j].f2 l[j].f3 l[j].f4 l[j].f5) (l[j].f0, l[j].f1, l[j].f2, l[j].f3, l[j].f4, l[j].f5) := by
      unfold laws_toBits.f
      exact Ev.bind (toS_ok _ b1) (Ev.bind (toI_ok _ b2) (Ev.now _))
    simp only [laws_toBitsS.l0, if_pos (show (j : Int) < (l.length : Int) by omega), if_pos (show (0 : Int) ≤ (j : Int) by omega), rdL hj, w64 (x := (j : Int) + 1) (by omega) (by omega)]
    refine Ev.bind hto ?_
    simp only [if_pos (show (j : Int) < (acc.length : Int) by omega), Int.toNat_natCast]
    exact h
  · intro acc
    exact Ev.step (f := fun _ => some acc) (fun k => by simp only [laws_toBitsS.l0]; rw [if_neg (by omega)]) (Ev.now _)
theorem cpI_ok (l : List Int) (hl : l.length ≤ 2000000) : impl_copyInts.f l = some l := by
  unfold impl_copyInts.f
  simp only [Option.bind_some, List.length_nil, List.nil_append]
  rw [if_pos (by omega)]
theorem cpB_loop (l : List S82) (hl : l.length ≤ 2000000) (hx : ∀ x ∈ l, x.f2.length ≤ 2000000 ∧ x.f3.length ≤ 2000000) : ∀ (d j : Nat), l.length - j = d → j ≤ l.length → Ev (fun k => impl_copyBits.l0 k (l.take j) l (l.length : Int) (j : Int)) l := by
  intro d
  induction d with
  | zero =>
    intro j hd hj
    rw [List.take_of_length_le (by omega)]
    exact Ev.step (f := fun _ => some l) (fun k => by simp only [impl_copyBits.l0]; rw [if_neg (by omega)]) (Ev.now _)
  | succ d ih =>
    intro j hd hj
    have hjl : j < l.length := by omega
    obtain ⟨h1, h2⟩ := hx _ (List.getElem_mem hjl)
    refine Ev.step (fun k => rfl) ?_
    have hlen : (l.take j).length < 1759218604441 := by rw [List.length_take]; omega
    simp only [impl_copyBits.l0, if_pos (show (j : Int) < (l.length : Int) by omega), if_pos (show (0 : Int) ≤ (j : Int) by omega), rdB hjl, Option.bind_some, List.length_nil, List.nil_append, if_pos (show 0 + l[j].f2.length < 8796093022208 by omega), cpI_ok l[j].f3 h2, if_pos hlen, w64 (x := (j : Int) + 1) (by omega) (by omega)]
    have := ih (j + 1) (by omega) (by omega)
    rw [List.take_succ_eq_append_getElem hjl] at this
    exact this
theorem cpB_ok (l : List S82) (hl : l.length ≤ 2000000) (hx : ∀ x ∈ l, x.f2.length ≤ 2000000 ∧ x.f3.length ≤ 2000000) : Ev (fun k => impl_copyBits.f k l) l := by
  have := cpB_loop l hl hx l.length 0 (by omega) (by omega)
  rw [List.take_zero] at this
  exact this
theorem cqB_loop (l : List S82) (hl : l.length ≤ 2000000) (hx : ∀ x ∈ l, x.f2.length ≤ 2000000 ∧ x.f3.length ≤ 2000000) : ∀ (d j : Nat), l.length - j = d → j ≤ l.length → Ev (fun k => spec_l11CopyBits.l0 k l (l.take j) (j : Int)) l := by
  intro d
  induction d with
  | zero =>
    intro j hd hj
    rw [List.take_of_length_le (by omega)]
    exact Ev.step (f := fun _ => some l) (fun k => by simp only [spec_l11CopyBits.l0]; rw [if_neg (by omega)]) (Ev.now _)
  | succ d ih =>
    intro j hd hj
    have hjl : j < l.length := by omega
    obtain ⟨h1, h2⟩ := hx _ (List.getElem_mem hjl)
    refine Ev.step (fun k => rfl) ?_
    have hlen : (l.take j).length < 1759218604441 := by rw [List.length_take]; omega
    simp only [spec_l11CopyBits.l0, if_pos (show (j : Int) < (l.length : Int) by omega), if_pos (show (0 : Int) ≤ (j : Int) by omega), rdB hjl, Option.bind_some, List.length_nil, List.nil_append, if_pos (show 0 + l[j].f2.length < 8796093022208 by omega), if_pos (show 0 + l[j].f3.length < 17592186044416 by omega), if_pos hlen, w64 (x := (j : Int) + 1) (by omega) (by omega)]
    have := ih (j + 1) (by omega) (by omega)
    rw [List.take_succ_eq_append_getElem hjl] at this
    exact this
theorem cqB_ok (l : List S82) (hl : l.length ≤ 2000000) (hx : ∀ x ∈ l, x.f2.length ≤ 2000000 ∧ x.f3.length ≤ 2000000) : Ev (fun k => spec_l11CopyBits.f k l) l := by
  have := cqB_loop l hl hx l.length 0 (by omega) (by omega)
  rw [List.take_zero] at this
  exact this
theorem tidy_impl (l : List S82) (a : Int) (hl : l.length ≤ 2000000) (hx : ∀ x ∈ l, x.f2.length ≤ 2000000 ∧ x.f3.length ≤ 2000000) : Ev (fun k => impl_TidyBits.f k l a) (l.filter fun b => !late a b) := by
  unfold impl_TidyBits.f
  exact Ev.bind (cpB_ok l hl hx) (Ev.now _)
theorem tidy_spec (l : List S82) (a : Int) (hl : l.length ≤ 2000000) (hx : ∀ x ∈ l, x.f2.length ≤ 2000000 ∧ x.f3.length ≤ 2000000) : Ev (fun k => spec_TidyBits.f k l a) (l.filter fun b => !late a b) := by
  have key : ∀ (d j : Nat), l.length - j = d → j ≤ l.length → Ev (fun k => spec_TidyBits.l0 k l a ((l.take j).filter fun b => !late a b) (j : Int)) (l.filter fun b => !late a b) := by
    intro d
    induction d with
    | zero =>
      intro j hd hj
      rw [List.take_of_length_le (by omega)]
      refine Ev.step (f := fun k => (spec_l11CopyBits.f k (l.filter fun b => !late a b)).bind fun t => some t) (fun k => by simp only [spec_TidyBits.l0]; rw [if_neg (by omega)]) ?_
      refine Ev.bind (cqB_ok _ (Nat.le_trans (List.length_filter_le _ _) hl) (fun x h => hx x (List.mem_filter.1 h).1)) (Ev.now _)
    | succ d ih =>
      intro j hd hj
      have hjl : j < l.length := by omega
      have h := ih (j + 1) (by omega) (by omega)
      have hlen : ((l.take j).filter fun b => !late a b).length < 1759218604441 := by
        have h1 := List.length_filter_le (fun b => !late a b) (l.take j)
        rw [List.length_take] at h1
        omega
      rw [List.take_succ_eq_append_getElem hjl, List.filter_append] at h
      refine Ev.step (fun k => rfl) ?_
      simp only [spec_TidyBits.l0, if_pos (show (j : Int) < (l.length : Int) by omega), if_pos (show (0 : Int) ≤ (j : Int) by omega), rdB hjl, w64 (x := (j : Int) + 1) (by omega) (by omega)]
      by_cases hq : l[j].f5 > a
      · have hp : (!late a l[j]) = true := by unfold late; simp; omega
        simp only [if_pos hq, if_pos hlen]
        simp only [List.filter_cons, hp, if_true, List.filter_nil] at h
        exact h
      · have hp : (!late a l[j]) = false := by unfold late; simp; omega
        simp only [if_neg hq]
        simp only [List.filter_cons, hp, Bool.false_eq_true, if_false, List.filter_nil, List.append_nil] at h
        exact h
  have := key l.length 0 (by omega) (by omega)
  rw [List.take_zero] at this
  exact this
theorem eqI_ok (l : List Int) (hl : l.length ≤ 2000000) : Ev (fun k => laws_eqIntS.f k l l) true := by
  refine ⟨l.length + 1, fun k hk => ?_⟩
  show laws_eqIntS.f k l l = some true
  unfold laws_eqIntS.f
  rw [if_pos rfl]
  refine up_loop (F := fun k j => laws_eqIntS.l0 k l l j) (n := l.length) ?_ ?_ l.length 0 (by omega) (by omega) k (by omega)
  · intro k j hj
    simp (disch := omega) only [laws_eqIntS.l0, ip, w64, if_true]
    rfl
  · intro k
    simp only [laws_eqIntS.l0]
    rw [if_neg (by omega)]
theorem eqB_ok (x : S82) (hx : bOk x) : Ev (fun k => laws_eqBits.f k x.f0 x.f1 x.f2 x.f3 x.f4 x.f5 x.f0 x.f1 x.f2 x.f3 x.f4 x.f5) true := by
  unfold laws_eqBits.f
  simp only [if_true]
  refine Ev.bind (a := true) ⟨x.f2.length + 1, fun k hk => eqStringS_ok x.f2 (by have := hx.1; omega) k (by omega)⟩ ?_
  simp only [if_true]
  refine Ev.bind (eqI_ok x.f3 (by have := hx.2.1; omega)) ?_
  simp only [if_true]
  exact Ev.now _
theorem eqBitsS_ok (l : List S82) (hl : l.length ≤ 2000000) (hb : ∀ x ∈ l, bOk x) : Ev (fun k => laws_eqBitsS.f k l l) true := by
  unfold laws_eqBitsS.f
  simp only [eq_self, if_true]
  refine ev_up (F := fun k j => laws_eqBitsS.l0 k l l j) (n := l.length) ?_ ?_ l.length 0 (by omega) (by omega)
  · intro j hj h
    refine Ev.step (fun k => rfl) ?_
    simp only [laws_eqBitsS.l0, if_pos (show (j : Int) < (l.length : Int) by omega), if_pos (show (0 : Int) ≤ (j : Int) by omega), rdB hj, w64 (x := (j : Int) + 1) (by omega) (by omega)]
    refine Ev.bind (eqB_ok _ (hb _ (List.getElem_mem hj))) ?_
    simp only [if_true]
    exact h
  · exact Ev.step (f := fun _ => some true) (fun k => by simp only [laws_eqBitsS.l0]; rw [if_neg (by omega)]) (Ev.now _)
theorem rdI_at {l : List Int} {j : Nat} (h : j < l.length) : rd l (j : Int) = l[j] := by unfold rd; exact getD_at _ h
theorem markheldInt (l : List Int) (hl : l.length ≤ 2000000) (c : Int) (h0 : 0 ≤ c) (h1 : c ≤ 10000000000000) : ∃ (m : Int) (l' : List Int), 0 ≤ m ∧ m ≤ c + 1 * l.length ∧ Ev (fun k => laws_markIntS.f k l c) (m, l') ∧ Ev (fun k => laws_heldIntS.f k l' c) m := by
  obtain ⟨l', hl', _, h3, h4⟩ := mark_loop (F := fun k l c j => laws_markIntS.l0 k l c j) (G := fun x : Int => x) (w := 1) (fun k l c j hj hl hk h0 h1 => by
      simp (disch := omega) only [laws_markIntS.l0, ip, Option.bind_some, w64, List.set_set, Int.toNat_natCast]
      congr 1 <;> omega) (fun k l c => by simp only [laws_markIntS.l0]; rw [if_neg (by omega)]) l.length 0 l c (by omega) (by omega) hl h0 (by omega)
  refine ⟨c + 1 * l.length, l', by omega, by omega, ⟨l.length + 21, fun k hk => h4 k (by omega)⟩, ⟨l.length + 21, fun k hk => ?_⟩⟩
  have := held_loop (F := fun k l c j => laws_heldIntS.l0 k l c j) (G := fun x : Int => x) (w := 1) (l := l') (fun k c j hj hl hk h0 h1 hP => by
      have hr : rd l' (j : Int) = c := by rw [rdI_at hj]; exact hP
      simp (disch := omega) only [laws_heldIntS.l0, hr, ip, Option.bind_some, w64, if_true]
      congr 1 <;> omega) (fun k c => by simp only [laws_heldIntS.l0]; rw [if_neg (by omega)]) (by omega) l'.length 0 c (by omega) (by omega) h0 (by omega) (fun i _ hi => by simpa using h3 i (by omega) (by omega)) k (by omega)
  rw [hl'] at this
  exact this
theorem markheldBits : ∀ (l : List S82) (c : Int), (∀ x ∈ l, bOk x) → l.length ≤ 1048577 → 0 ≤ c → c + l.length * 4000000 ≤ 9000000000000 →
    ∃ (m : Int) (l' : List S82), l'.length = l.length ∧ 0 ≤ m ∧ Ev (fun k => laws_markBitsS.go k l c) (m, l') ∧ ∀ pre : List S82, pre.length + l.length ≤ 2000000 → Ev (fun k => laws_heldBitsS.l0 k (pre ++ l') c (pre.length : Int)) m
  | [], c, _, _, h0, _ => ⟨c, [], rfl, h0, Ev.now _, fun pre _ => Ev.step (f := fun _ => some c) (fun k => by simp only [laws_heldBitsS.l0, List.append_nil]; rw [if_neg (by omega)]) (Ev.now _)⟩
  | x :: xs, c, hb, hl, h0, hc => by
    rw [List.length_cons] at hl hc
    obtain ⟨b1, b2, _⟩ := hb x List.mem_cons_self
    obtain ⟨p, t2, hp0, hp1, hpm, hph⟩ := markheldString x.f2 (by omega) (c + 2) (by omega) (by omega)
    obtain ⟨q, t3, hq0, hq1, hqm, hqh⟩ := markheldInt x.f3 (by omega) p hp0 (by omega)
    obtain ⟨m, l', hl', hm0, hmm, hmh⟩ := markheldBits xs (q + 2) (fun y hy => hb y (List.mem_cons_of_mem _ hy)) (by omega) (by omega) (by omega)
    have w1 : wrap64 (c + 1) = c + 1 := w64 (by omega) (by omega)
    have w2 : wrap64 (c + 1 + 1) = c + 2 := (w64 (by omega) (by omega)).trans (by omega)
    have w3 : wrap64 (q + 1) = q + 1 := w64 (by omega) (by omega)
    have w4 : wrap64 (q + 1 + 1) = q + 2 := (w64 (by omega) (by omega)).trans (by omega)
    refine ⟨m, ⟨c, c + 1, t2, t3, q, q + 1⟩ :: l', by rw [List.length_cons, List.length_cons, hl'], hm0, ?_, fun pre hpre => ?_⟩
    · show Ev (fun k => (laws_markStringS.f k x.f2 (wrap64 (wrap64 (c + 1) + 1))).bind fun p => (laws_markIntS.f k x.f3 p.1).bind fun q => (laws_markBitsS.go k xs (wrap64 (wrap64 (q.1 + 1) + 1))).bind fun r => some (r.1, (⟨c, wrap64 (c + 1), p.2, q.2, q.1, wrap64 (q.1 + 1)⟩ : S82) :: r.2)) _
      rw [w1, w2]
      refine Ev.bind hpm (Ev.bind hqm ?_)
      show Ev (fun k => (laws_markBitsS.go k xs (wrap64 (wrap64 (q + 1) + 1))).bind fun r => some (r.1, (⟨c, c + 1, t2, t3, q, wrap64 (q + 1)⟩ : S82) :: r.2)) _
      rw [w3, w4]
      exact Ev.bind hmm (Ev.now _)
    · rw [List.length_cons] at hpre
      have hj : pre.length < (pre ++ (⟨c, c + 1, t2, t3, q, q + 1⟩ : S82) :: l').length := by rw [List.length_append, List.length_cons]; omega
      have hg : (pre ++ (⟨c, c + 1, t2, t3, q, q + 1⟩ : S82) :: l')[pre.length] = ⟨c, c + 1, t2, t3, q, q + 1⟩ := by rw [List.getElem_append_right (Nat.le_refl _)]; simp
      have hr := rdB hj
      rw [hg] at hr
      have ih := hmh (pre ++ [(⟨c, c + 1, t2, t3, q, q + 1⟩ : S82)]) (by rw [List.length_append, List.length_singleton]; omega)
      rw [List.append_assoc, List.singleton_append, List.length_append, List.length_singleton] at ih
      refine Ev.step (fun k => rfl) ?_
      simp only [laws_heldBitsS.l0, if_pos (show (pre.length : Int) < ((pre ++ (⟨c, c + 1, t2, t3, q, q + 1⟩ : S82) :: l').length : Int) by omega), if_pos (show (0 : Int) ≤ (pre.length : Int) by omega), hr, w1, w2, if_true, w64 (x := (pre.length : Int) + 1) (by omega) (by omega)]
      refine Ev.bind hph ?_
      simp only [if_neg (show ¬ p < 0 by omega)]
      refine Ev.bind hqh ?_
      simp only [if_neg (show ¬ q < 0 by omega), w3, w4, if_true]
      exact ih

/-! ### FnExactTidyBits -/
theorem FnExactTidyBits : StFnExactTidyBits.Pure := by
  intro l a hl _
  obtain ⟨h1, h2, h3⟩ := hl
  obtain ⟨t, ht, hc⟩ := szBitsS_ok l (by omega) (fun x hx => by
    obtain ⟨_, _, hS, hI, _⟩ := h3 x hx
    obtain ⟨s1, s2, s3⟩ := hS
    obtain ⟨i1, i2, i3⟩ := hI
    exact ⟨by have : x.f2.length * 16 ≤ 140737488351232 := s2; omega, by have : x.f3.length * 8 ≤ 140737488351232 := i2; omega, s3⟩)
  by_cases hn : t < 0
  · refine Ev.ex ?_
    unfold laws_FnExactTidyBits.f
    refine Ev.bind ht ?_
    simp only [if_pos hn]
    exact Ev.now _
  · obtain ⟨ll, hb⟩ := hc.resolve_left hn
    have lm : (l.map conB).length = l.length := List.length_map _
    have hx : ∀ x ∈ l.map conB, x.f2.length ≤ 2000000 ∧ x.f3.length ≤ 2000000 := fun x hx => ⟨by have := (hb x hx).1; omega, by have := (hb x hx).2.1; omega⟩
    obtain ⟨g, hg⟩ : ∃ g, g = (l.map conB).filter fun b => !late a b := ⟨_, rfl⟩
    have hgl : g.length ≤ l.length := by rw [hg, ← lm]; exact List.length_filter_le _ _
    have hgb : ∀ x ∈ g, bOk x := fun x hx => hb x (by rw [hg] at hx; exact (List.mem_filter.1 hx).1)
    have e1 := tidy_spec (l.map conB) a (by omega) hx
    have e2 := tidy_impl (l.map conB) a (by omega) hx
    rw [← hg] at e1 e2
    obtain ⟨x, lx, _, x0, hxm, _⟩ := markheldBits (l.map conB) 1 hb (by omega) (by omega) (by omega)
    obtain ⟨m, lg, lgl, m0, hmm, hmh⟩ := markheldBits g 1 hgb (by omega) (by omega) (by omega)
    have hh := hmh [] (by simp only [List.length_nil]; omega)
    refine Ev.ex ?_
    unfold laws_FnExactTidyBits.f
    refine Ev.bind ht ?_
    simp only [if_neg hn]
    refine Ev.bind (toBitsS_ok l ll hb) (Ev.bind e1 (Ev.bind e2 (Ev.bind (eqBitsS_ok g (by omega) hgb) (Ev.bind (eqBitsS_ok (l.map conB) (by omega) hb) (Ev.bind hxm (Ev.bind hmm (Ev.bind (r := true) hh ?_)))))))
    rw [if_pos ⟨rfl, rfl, x0, m0, rfl⟩]
    exact Ev.now _

end Go.Proofs.Ytmknnoeggkgkgaa.Pure
