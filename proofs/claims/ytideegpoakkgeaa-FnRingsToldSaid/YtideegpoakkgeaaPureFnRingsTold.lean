/- The pure statement of the law 'FnRingsTold', proved: over numbers, lists and texts alone. No condition. -/
import Derived.Test.YtideegpoakkgeaaStFnRingsTold
import Derived.Laws.BitsLemmas
namespace Go.Proofs.Ytideegpoakkgeaa.Pure
open Go.RowKit Go.Proofs.Ytideegpoakkgeaa.QFnRingsTold Go.Proofs.YtideegpoakkgeaaW.PrintWords Go.Proofs.YtideegpoakkgeaaW.PrintLast Go.Proofs.YtideegpoakkgeaaW.PrintMore Go.Proofs.Ytideegpoakkgeaa.StFnRingsTold Go.Proofs.Ytideegpoakkgeaa.Opens
set_option linter.unusedVariables false
set_option linter.unusedSimpArgs false

/-! ### base -/
theorem w64 {x : Int} (h0 : -9223372036854775808 ≤ x) (h1 : x ≤ 9223372036854775807) : wrap64 x = x := by unfold wrap64; omega
theorem w64_range (x : Int) : -9223372036854775808 ≤ wrap64 x ∧ wrap64 x ≤ 9223372036854775807 := by unfold wrap64; omega
theorem ip {α : Type} {c : Prop} [Decidable c] {a b : α} (h : c) : (if c then a else b) = a := if_pos h
theorem ineg {α : Type} {c : Prop} [Decidable c] {a b : α} (h : ¬ c) : (if c then a else b) = b := if_neg h
theorem wf_range {n : Int} (h : (Lit.int .i64 n).wf = true) : -9223372036854775808 ≤ n ∧ n ≤ 9223372036854775807 := by
  simp only [Lit.wf, IntKind.min, IntKind.max, IntKind.signed, IntKind.bits, Bool.and_eq_true, decide_eq_true_eq, if_true] at h
  omega
theorem wf_u8 {n : Int} (h : (Lit.int .u8 n).wf = true) : 0 ≤ n ∧ n ≤ 255 := by
  simp [Lit.wf, IntKind.min, IntKind.max, IntKind.signed, IntKind.bits] at h
  omega
theorem and_low (x : Int) (i : Nat) (hi : i ≤ 62) : Go.bits .and .i64 x (2 ^ i - 1) = x % 2 ^ i := by
  have hpos : 0 < 2 ^ i := Nat.two_pow_pos i
  have hc : ((2 : Int) ^ i - 1) = ((2 ^ i - 1 : Nat) : Int) := by rw [Int.natCast_sub hpos]; simp
  have h62 : 2 ^ i ≤ 2 ^ 62 := Nat.pow_le_pow_right (by decide) hi
  have hlt : 2 ^ i - 1 < 2 ^ 64 := by omega
  have hd : (2 ^ i : Nat) ∣ 2 ^ 64 := Nat.pow_dvd_pow 2 (by omega)
  rw [hc]
  simp only [Go.bits, BitVec.ofInt_natCast, BitVec.toNat_and, BitVec.toNat_ofNat, BitVec.toNat_ofInt]
  simp only [show IntKind.i64.bits = 64 from rfl]
  rw [Nat.mod_eq_of_lt hlt, Nat.and_two_pow_sub_one_eq_mod]
  have h1 : (((x % ((2 ^ 64 : Nat) : Int)).toNat % 2 ^ i : Nat) : Int) = x % 2 ^ i := by
    rw [Int.natCast_emod, Int.toNat_of_nonneg (Int.emod_nonneg _ (by decide))]
    rw [Int.natCast_pow]
    exact Int.emod_emod_of_dvd _ (by
      have : (((2 ^ i : Nat) : Int)) ∣ ((2 ^ 64 : Nat) : Int) := Int.natCast_dvd_natCast.2 hd
      simpa using this)
  rw [h1]
  have h2 : 0 ≤ x % 2 ^ i := Int.emod_nonneg _ (by
    have : (0 : Int) < 2 ^ i := by exact_mod_cast hpos
    omega)
  have h3 : x % 2 ^ i < 2 ^ i := Int.emod_lt_of_pos _ (by exact_mod_cast hpos)
  have h4 : (2 : Int) ^ i ≤ 2 ^ 62 := by exact_mod_cast h62
  rw [IntKind.wrap_i64]
  omega
theorem and255 (x : Int) : Go.bits .and .i64 x 255 = x % 256 := and_low x 8 (by omega)
theorem and65535 (x : Int) : Go.bits .and .i64 x 65535 = x % 65536 := and_low x 16 (by omega)
theorem and30 (x : Int) : Go.bits .and .i64 x 1073741823 = x % 1073741824 := and_low x 30 (by omega)
theorem and1 (x : Int) : Go.bits .and .i64 x 1 = x % 2 := and_low x 1 (by omega)
/-- A law's last step: both are one. -/
theorem same_end {v : Bool} : (if (v != v) = true then some false else some true : Option Bool) = some true := by simp
theorem Ev.ex {α : Type} {g : Nat → Option α} {r : α} (h : Ev g r) : ∃ k, g k = some r := h.rounds
theorem Ev.from_ {α : Type} {g : Nat → Option α} {r : α} (K : Nat) (h : ∀ k, K ≤ k → g k = some r) : Ev g r := ⟨K, h⟩
theorem Ev.both {α β : Type} {g : Nat → Option α} {f : Nat → Option β} {r : α} {q : β} (h : Ev g r) (h' : Ev f q) : ∃ K, ∀ k, K ≤ k → g k = some r ∧ f k = some q := by
  obtain ⟨K, h⟩ := h
  obtain ⟨K', h'⟩ := h'
  exact ⟨K + K', fun k hk => ⟨h k (by omega), h' k (by omega)⟩⟩

/-! ### loops -/
/-- A loop upward whose rounds do nothing but go on. -/
theorem up_loop {β : Type} {F : Nat → Int → Option β} {n : Nat} {r : β} (hs : ∀ k (j : Nat), j < n → F (k + 1) (j : Int) = F k ((j + 1 : Nat) : Int)) (he : ∀ k, F (k + 1) (n : Int) = some r) :
    ∀ (d j : Nat), n - j = d → j ≤ n → ∀ k, d < k → F k (j : Int) = some r := by
  intro d
  induction d with
  | zero =>
    intro j hd hj k hk
    obtain ⟨k, rfl⟩ : ∃ m, k = m + 1 := ⟨k - 1, by omega⟩
    obtain rfl : j = n := by omega
    exact he k
  | succ d ih =>
    intro j hd hj k hk
    obtain ⟨k, rfl⟩ : ∃ m, k = m + 1 := ⟨k - 1, by omega⟩
    rw [hs k j (by omega)]
    exact ih (j + 1) (by omega) (by omega) k (by omega)
/-- A loop that turns each element of a list into one of a list that was made. -/
theorem map_loop {α β : Type} {F : Nat → List β → Int → Option (List β)} {g : α → β} {l : List α}
    (hs : ∀ k (acc : List β) (j : Nat) (hj : j < l.length), acc.length = l.length → F (k + 1) acc (j : Int) = F k (acc.set j (g l[j])) ((j + 1 : Nat) : Int))
    (he : ∀ k (acc : List β), F (k + 1) acc (l.length : Int) = some acc) :
    ∀ (d j : Nat) (acc : List β), l.length - j = d → j ≤ l.length → acc.length = l.length → (∀ i, i < j → acc[i]? = (l[i]?).map g) → ∀ k, d < k → F k acc (j : Int) = some (l.map g) := by
  intro d
  induction d with
  | zero =>
    intro j acc hd hj hl ha k hk
    obtain ⟨k, rfl⟩ : ∃ m, k = m + 1 := ⟨k - 1, by omega⟩
    obtain rfl : j = l.length := by omega
    rw [he]
    congr 1
    apply List.ext_getElem?
    intro i
    rw [List.getElem?_map]
    by_cases hi : i < l.length
    · exact ha i hi
    · rw [List.getElem?_eq_none (by omega), List.getElem?_eq_none (by omega)]; rfl
  | succ d ih =>
    intro j acc hd hj hl ha k hk
    obtain ⟨k, rfl⟩ : ∃ m, k = m + 1 := ⟨k - 1, by omega⟩
    have hjl : j < l.length := by omega
    rw [hs k acc j hjl hl]
    refine ih (j + 1) _ (by omega) (by omega) (by rw [List.length_set]; exact hl) (fun i hi => ?_) k (by omega)
    by_cases hij : i = j
    · subst hij
      rw [List.getElem?_set_self (by omega), List.getElem?_eq_getElem hjl]
      rfl
    · rw [List.getElem?_set_ne (fun h => hij h.symm)]
      exact ha i (by omega)
theorem getD_at {α : Type} {l : List α} {j : Nat} (z : α) (h : j < l.length) : l.getD (j : Int).toNat z = l[j] := by
  simp [List.getD_eq_getElem?_getD, List.getElem?_eq_getElem h]

/-! ### sz -/
theorem sz_loop {α : Type} {F : Nat → Int → Int → Option Int} {g : α → Int → Option Int} {l : List α} {P : α → Prop}
    (hs : ∀ k (left : Int) (j : Nat) (hj : j < l.length), l.length ≤ 2000000 → F (k + 1) left (j : Int) = (g l[j] left).bind fun t => if t < 0 then some (-1) else F k t ((j + 1 : Nat) : Int))
    (he : ∀ k (left : Int), F (k + 1) left (l.length : Int) = some left)
    (hg : ∀ x ∈ l, ∀ left : Int, 0 ≤ left → left ≤ 1048576 → ∃ t, g x left = some t ∧ (t < 0 ∨ (0 ≤ t ∧ t ≤ left ∧ P x))) (hl : l.length ≤ 2000000) :
    ∀ (d j : Nat) (left : Int), l.length - j = d → j ≤ l.length → 0 ≤ left → left ≤ 1048576 → ∃ t, (∀ k, d < k → F k left (j : Int) = some t) ∧ (t < 0 ∨ (0 ≤ t ∧ t ≤ left ∧ ∀ i (hi : i < l.length), j ≤ i → P l[i])) := by
  intro d
  induction d with
  | zero =>
    intro j left hd hj h0 h1
    obtain rfl : j = l.length := by omega
    refine ⟨left, fun k hk => ?_, .inr ⟨h0, Int.le_refl _, fun i hi h => absurd hi (by omega)⟩⟩
    obtain ⟨k, rfl⟩ : ∃ m, k = m + 1 := ⟨k - 1, by omega⟩
    exact he k left
  | succ d ih =>
    intro j left hd hj h0 h1
    have hjl : j < l.length := by omega
    obtain ⟨t, ht, hc⟩ := hg l[j] (List.getElem_mem _) left h0 h1
    rcases hc with hc | ⟨h2, h3, hP⟩
    · refine ⟨-1, fun k hk => ?_, .inl (by omega)⟩
      obtain ⟨k, rfl⟩ : ∃ m, k = m + 1 := ⟨k - 1, by omega⟩
      rw [hs k left j hjl hl, ht]
      simp only [Option.bind_some]
      rw [if_pos hc]
    · obtain ⟨t2, ih1, ih2⟩ := ih (j + 1) t (by omega) (by omega) h2 (by omega)
      refine ⟨t2, fun k hk => ?_, ?_⟩
      · obtain ⟨k, rfl⟩ : ∃ m, k = m + 1 := ⟨k - 1, by omega⟩
        rw [hs k left j hjl hl, ht]
        simp only [Option.bind_some]
        rw [if_neg (by omega)]
        exact ih1 k (by omega)
      · rcases ih2 with h4 | ⟨h4, h5, h6⟩
        · exact .inl h4
        · refine .inr ⟨h4, by omega, fun i hi hji => ?_⟩
          by_cases hij : i = j
          · subst hij; exact hP
          · exact h6 i hi (by omega)

/-! ### c_Slot -/

/-! ### mark -/
theorem mark_loop {α : Type} {F : Nat → List α → Int → Int → Option (Int × List α)} {G : Int → α} {w : Nat}
    (hs : ∀ k (l : List α) (c : Int) (j : Nat), j < l.length → l.length ≤ 2000000 → 20 ≤ k → 0 ≤ c → c ≤ 100000000000000 → F (k + 1) l c (j : Int) = F k (l.set j (G c)) (c + w) ((j + 1 : Nat) : Int))
    (he : ∀ k (l : List α) (c : Int), F (k + 1) l c (l.length : Int) = some (c, l)) :
    ∀ (d j : Nat) (l : List α) (c : Int), l.length - j = d → j ≤ l.length → l.length ≤ 2000000 → 0 ≤ c → c + w * d ≤ 100000000000000 →
    ∃ l' : List α, l'.length = l.length ∧ (∀ i, i < j → l'[i]? = l[i]?) ∧ (∀ i, j ≤ i → i < l.length → l'[i]? = some (G (c + w * ((i - j : Nat) : Int)))) ∧ ∀ k, d + 20 < k → F k l c (j : Int) = some (c + w * d, l') := by
  intro d
  induction d with
  | zero =>
    intro j l c hd hj hl h0 h1
    obtain rfl : j = l.length := by omega
    refine ⟨l, rfl, fun _ _ => rfl, fun i h2 h3 => by omega, fun k hk => ?_⟩
    obtain ⟨k, rfl⟩ : ∃ m, k = m + 1 := ⟨k - 1, by omega⟩
    rw [he]
    simp
  | succ d ih =>
    intro j l c hd hj hl h0 h1
    have hmul : (w : Int) * ((d + 1 : Nat) : Int) = w + w * d := by rw [Int.natCast_succ, Int.mul_add, Int.mul_one, Int.add_comm]
    have hwd : 0 ≤ (w : Int) * (d : Int) := Int.mul_nonneg (by omega) (by omega)
    obtain ⟨l', hl', h2, h3, h4⟩ := ih (j + 1) (l.set j (G c)) (c + w) (by rw [List.length_set]; omega) (by rw [List.length_set]; omega) (by rw [List.length_set]; exact hl) (by omega) (by omega)
    rw [List.length_set] at hl' h3
    refine ⟨l', hl', fun i hi => ?_, fun i hi1 hi2 => ?_, fun k hk => ?_⟩
    · rw [h2 i (by omega), List.getElem?_set_ne (by omega)]
    · by_cases hij : i = j
      · subst hij
        rw [h2 i (by omega), List.getElem?_set_self (by omega)]
        simp
      · rw [h3 i (by omega) hi2]
        congr 2
        have : ((i - j : Nat) : Int) = ((i - (j + 1) : Nat) : Int) + 1 := by omega
        rw [this, Int.mul_add, Int.mul_one]
        omega
    · obtain ⟨k, rfl⟩ : ∃ m, k = m + 1 := ⟨k - 1, by omega⟩
      rw [hs k l c j (by omega) hl (by omega) h0 (by omega), h4 k (by omega), hmul]
      congr 2
      omega
theorem held_loop {α : Type} {F : Nat → List α → Int → Int → Option Int} {G : Int → α} {w : Nat} {l : List α}
    (hs : ∀ k (c : Int) (j : Nat) (hj : j < l.length), l.length ≤ 2000000 → 20 ≤ k → 0 ≤ c → c ≤ 100000000000000 → l[j] = G c → F (k + 1) l c (j : Int) = F k l (c + w) ((j + 1 : Nat) : Int))
    (he : ∀ k (c : Int), F (k + 1) l c (l.length : Int) = some c) (hl : l.length ≤ 2000000) :
    ∀ (d j : Nat) (c : Int), l.length - j = d → j ≤ l.length → 0 ≤ c → c + w * d ≤ 100000000000000 → (∀ i, j ≤ i → i < l.length → l[i]? = some (G (c + w * ((i - j : Nat) : Int)))) → ∀ k, d + 20 < k → F k l c (j : Int) = some (c + w * d) := by
  intro d
  induction d with
  | zero =>
    intro j c hd hj h0 h1 hG k hk
    obtain rfl : j = l.length := by omega
    obtain ⟨k, rfl⟩ : ∃ m, k = m + 1 := ⟨k - 1, by omega⟩
    rw [he]
    simp
  | succ d ih =>
    intro j c hd hj h0 h1 hG k hk
    obtain ⟨k, rfl⟩ : ∃ m, k = m + 1 := ⟨k - 1, by omega⟩
    have hjl : j < l.length := by omega
    have hmul : (w : Int) * ((d + 1 : Nat) : Int) = w + w * d := by rw [Int.natCast_succ, Int.mul_add, Int.mul_one, Int.add_comm]
    have hwd : 0 ≤ (w : Int) * (d : Int) := Int.mul_nonneg (by omega) (by omega)
    have hj0 : l[j] = G c := by
      have := hG j (Nat.le_refl _) hjl
      rw [List.getElem?_eq_getElem hjl] at this
      simpa using this
    rw [hs k c j hjl hl (by omega) h0 (by omega) hj0, ih (j + 1) (c + w) (by omega) (by omega) (by omega) (by omega) (fun i h2 h3 => ?_) k (by omega), hmul]
    · congr 1; omega
    · rw [hG i (by omega) h3]
      congr 2
      have : ((i - j : Nat) : Int) = ((i - (j + 1) : Nat) : Int) + 1 := by omega
      rw [this, Int.mul_add, Int.mul_one]
      omega

/-! ### m_Slot -/

/-! ### all -/
def allF (p : Nat → Bool) (j : Nat) : Nat → Bool
  | 0 => true
  | d + 1 => p j && allF p (j + 1) d
/-- A loop that asks the same of each place, one after the other, and then something more. -/
theorem all_ev {F : Nat → Nat → Option Bool} {n : Nat} {p : Nat → Bool} {R : Bool}
    (hs : ∀ j, j < n → (p j = true → ∀ r, Ev (fun k => F k (j + 1)) r → Ev (fun k => F k j) r) ∧ (p j = false → Ev (fun k => F k j) false))
    (he : Ev (fun k => F k n) R) : ∀ d j, n - j = d → j ≤ n → Ev (fun k => F k j) (allF p j d && R) := by
  intro d
  induction d with
  | zero =>
    intro j hd hj
    obtain rfl : j = n := by omega
    simpa [allF] using he
  | succ d ih =>
    intro j hd hj
    have h := hs j (by omega)
    cases hp : p j with
    | true =>
      have := ih (j + 1) (by omega) (by omega)
      simp only [allF, hp, Bool.true_and]
      exact h.1 hp _ this
    | false =>
      simp only [allF, hp, Bool.false_and]
      exact h.2 hp
theorem Ev.here {α : Type} {F f : Nat → Option α} {r : α} (hs : ∀ k, F (k + 1) = f k) (h : ∀ k, f k = some r) : Ev F r := Ev.step hs ⟨0, fun k _ => h k⟩

/-! ### in -/
def rng (a b c : Int) : Bool := decide (b ≤ a) && decide (a ≤ c)
theorem rng_iff {a b c : Int} : rng a b c = true ↔ b ≤ a ∧ a ≤ c := by simp [rng]
theorem rng_false {a b c : Int} : rng a b c = false ↔ ¬ (b ≤ a ∧ a ≤ c) := by rw [← rng_iff]; simp
theorem in_eq (a b c : Int) : spec_l01In.f a b c = some (rng a b c) := by
  unfold spec_l01In.f rng
  by_cases h : b ≤ a
  · rw [if_pos h]; simp [h]
  · rw [if_neg h]; simp [h]
theorem within_eq (a b c : Int) : impl_within.f a b c = some (rng a b c) := by
  unfold impl_within.f rng
  by_cases h : b ≤ a
  · rw [if_pos h]; simp [h]
  · rw [if_neg h]; simp [h]

/-! ### ring -/
def pR (l : List S105) (m t : Int) (j : Nat) : Bool :=
  if (j : Int) < m then (rd_T105 l (Int.tmod (t + j) l.length)).f0 == 1 && rng ((rd_T105 l (Int.tmod (t + j) l.length)).f1.size : Int) 1 100
  else (rd_T105 l (Int.tmod (t + j) l.length)).f0 == 0 && decide ((rd_T105 l (Int.tmod (t + j) l.length)).f1.toList = ([] : List UInt8))
def heldM (l : List S105) (h t : Int) : Int :=
  if Int.tmod (h - t + l.length) l.length = 0 ∧ (rd_T105 l h).f0 = 1 then (l.length : Int) else Int.tmod (h - t + l.length) l.length
def ringB (l : List S105) (h t : Int) : Bool :=
  rng (l.length : Int) 1 8 && (rng h 0 ((l.length : Int) - 1) && (rng t 0 ((l.length : Int) - 1) && allF (pR l (heldM l h t) t) 0 l.length))
theorem ringB_iff {l : List S105} {h t : Int} (hb : ringB l h t = true) : (1 ≤ l.length ∧ l.length ≤ 8) ∧ (0 ≤ h ∧ h < (l.length : Int)) ∧ (0 ≤ t ∧ t < (l.length : Int)) := by
  unfold ringB at hb
  simp only [Bool.and_eq_true, rng_iff] at hb
  omega
theorem tm_range {a n : Int} (h0 : 0 ≤ a) (hn : 0 < n) : 0 ≤ Int.tmod a n ∧ Int.tmod a n < n := by
  rw [Int.tmod_eq_emod_of_nonneg h0]
  exact ⟨Int.emod_nonneg _ (by omega), Int.emod_lt_of_pos _ hn⟩
theorem spec_ring_loop (l : List S105) (m h t : Int) (hl : 1 ≤ l.length ∧ l.length ≤ 8) (ht : 0 ≤ t ∧ t < (l.length : Int)) : Ev (fun k => spec_RingOk.l0 k (l.length : Int) m 0 l h t) (allF (pR l m t) 0 l.length) := by
  have := all_ev (F := fun k j => spec_RingOk.l0 k (l.length : Int) m (j : Int) l h t) (p := pR l m t) (n := l.length) (R := true) (fun j hj => ?_) ?_ l.length 0 (by omega) (by omega)
  · simpa using this
  · have hr := tm_range (a := t + j) (n := l.length) (by omega) (by omega)
    have es : ∀ k, spec_RingOk.l0 (k + 1) (l.length : Int) m (j : Int) l h t = if pR l m t j = true then spec_RingOk.l0 k (l.length : Int) m ((j + 1 : Nat) : Int) l h t else some false := fun k => by
      simp only [spec_RingOk.l0]
      rw [if_pos (by omega), if_neg (by omega)]
      rw [w64 (x := t + (j : Int)) (by omega) (by omega), w64 (x := (j : Int) + 1) (by omega) (by omega), if_pos hr.1, if_pos hr.2]
      simp only [in_eq, Option.bind_some]
      unfold pR
      have e1 : ((j : Int) + 1) = ((j + 1 : Nat) : Int) := by omega
      rw [e1]
      by_cases hm : (j : Int) < m
      · have hm2 : ¬ (j : Int) ≥ m := by omega
        simp only [if_pos hm, if_neg hm2]
        by_cases h1 : (rd_T105 l (Int.tmod (t + j) l.length)).f0 = 1 <;> cases h2 : rng ((rd_T105 l (Int.tmod (t + j) l.length)).f1.size : Int) 1 100 <;> simp [h1]
      · have hm2 : (j : Int) ≥ m := by omega
        simp only [if_neg hm, if_pos hm2]
        by_cases h1 : (rd_T105 l (Int.tmod (t + j) l.length)).f0 = 0 <;> by_cases h2 : (rd_T105 l (Int.tmod (t + j) l.length)).f1.toList = ([] : List UInt8) <;> simp [h1, h2]
    refine ⟨fun hp r hr => Ev.step (fun k => by rw [es, if_pos hp]) hr, fun hp => Ev.here (f := fun _ => some false) (fun k => by rw [es, if_neg (by simp [hp])]) (fun _ => rfl)⟩
  · exact Ev.here (f := fun _ => some true) (fun k => by simp only [spec_RingOk.l0]; rw [if_neg (by omega)]) (fun _ => rfl)
theorem spec_RingOk_ok (l : List S105) (h t : Int) : Ev (fun k => spec_RingOk.f k l h t) (ringB l h t) := by
  unfold spec_RingOk.f ringB
  simp only [in_eq, Option.bind_some]
  have bad : Ev (fun k => spec_RingOk.j0 k (l.length : Int) true l h t) false := Ev.step (f := fun _ => some false) (fun k => by simp [spec_RingOk.j0]) (Ev.now _)
  cases h1 : rng (l.length : Int) 1 8 with
  | false => simpa using bad
  | true =>
    have hn := rng_iff.1 h1
    rw [w64 (x := (l.length : Int) - 1) (by omega) (by omega)]
    cases h2 : rng h 0 ((l.length : Int) - 1) with
    | false => simpa [h2] using bad
    | true =>
      have hh := rng_iff.1 h2
      cases h3 : rng t 0 ((l.length : Int) - 1) with
      | false => simpa [h2, h3] using bad
      | true =>
        have ht := rng_iff.1 h3
        simp only [h2, h3, if_true, Bool.not_true, Bool.true_and]
        have fin := fun m => spec_ring_loop l m h t (by omega) (by omega)
        have j2 : ∀ m, Ev (fun k => spec_RingOk.j2 k (l.length : Int) m l h t) (allF (pR l m t) 0 l.length) := fun m => Ev.step (fun k => by simp only [spec_RingOk.j2]) (fin m)
        refine Ev.step (fun k => by simp only [spec_RingOk.j0, Bool.false_eq_true, if_false]; rw [if_neg (by omega), w64 (x := h - t) (by omega) (by omega), w64 (x := h - t + (l.length : Int)) (by omega) (by omega)]) ?_
        unfold heldM
        by_cases hz : Int.tmod (h - t + (l.length : Int)) (l.length : Int) = 0
        · simp only [if_pos hz, if_pos hh.1, if_pos (show h < (l.length : Int) by omega), hz, true_and]
          by_cases ho : (rd_T105 l h).f0 = 1
          · rw [if_pos ho]
            exact Ev.step (fun k => by simp only [spec_RingOk.j1, ho, beq_self_eq_true, if_true]) (j2 _)
          · rw [if_neg ho]
            exact Ev.step (fun k => by simp [spec_RingOk.j1, ho]) (j2 _)
        · simp only [if_neg hz, hz, false_and, if_false]
          exact Ev.step (fun k => by simp only [spec_RingOk.j1, Bool.false_eq_true, if_false]) (j2 _)
theorem impl_ring_loop (l : List S105) (m h t : Int) (hl : 1 ≤ l.length ∧ l.length ≤ 8) (ht : 0 ≤ t ∧ t < (l.length : Int)) : Ev (fun k => impl_RingOk.l0 k (l.length : Int) m (l.length : Int) 0 l h t) (allF (pR l m t) 0 l.length) := by
  have := all_ev (F := fun k j => impl_RingOk.l0 k (l.length : Int) m (l.length : Int) (j : Int) l h t) (p := pR l m t) (n := l.length) (R := true) (fun j hj => ?_) ?_ l.length 0 (by omega) (by omega)
  · simpa using this
  · have hr := tm_range (a := t + j) (n := l.length) (by omega) (by omega)
    have es : ∀ k, impl_RingOk.l0 (k + 1) (l.length : Int) m (l.length : Int) (j : Int) l h t = if pR l m t j = true then impl_RingOk.l0 k (l.length : Int) m (l.length : Int) ((j + 1 : Nat) : Int) l h t else some false := fun k => by
      simp only [impl_RingOk.l0]
      rw [if_pos (by omega), if_neg (by omega)]
      rw [w64 (x := t + (j : Int)) (by omega) (by omega), w64 (x := (j : Int) + 1) (by omega) (by omega), if_pos hr.1, if_pos hr.2]
      simp only [within_eq, Option.bind_some]
      unfold pR
      have e1 : ((j : Int) + 1) = ((j + 1 : Nat) : Int) := by omega
      rw [e1]
      by_cases hm : (j : Int) < m
      · have hm2 : ¬ (j : Int) ≥ m := by omega
        simp only [if_pos hm, if_neg hm2]
        by_cases h1 : (rd_T105 l (Int.tmod (t + j) l.length)).f0 = 1 <;> cases h2 : rng ((rd_T105 l (Int.tmod (t + j) l.length)).f1.size : Int) 1 100 <;> simp [h1]
      · have hm2 : (j : Int) ≥ m := by omega
        simp only [if_neg hm, if_pos hm2]
        by_cases h1 : (rd_T105 l (Int.tmod (t + j) l.length)).f0 = 0 <;> by_cases h2 : (rd_T105 l (Int.tmod (t + j) l.length)).f1.toList = ([] : List UInt8) <;> simp [h1, h2]
    refine ⟨fun hp r hr => Ev.step (fun k => by rw [es, if_pos hp]) hr, fun hp => Ev.here (f := fun _ => some false) (fun k => by rw [es, if_neg (by simp [hp])]) (fun _ => rfl)⟩
  · exact Ev.here (f := fun _ => some true) (fun k => by simp only [impl_RingOk.l0]; rw [if_neg (by omega)]) (fun _ => rfl)
theorem impl_RingOk_ok (l : List S105) (h t : Int) : Ev (fun k => impl_RingOk.f k l h t) (ringB l h t) := by
  unfold impl_RingOk.f ringB
  simp only [within_eq, Option.bind_some]
  have bad : Ev (fun k => impl_RingOk.j0 k (l.length : Int) true l h t) false := Ev.step (f := fun _ => some false) (fun k => by simp [impl_RingOk.j0]) (Ev.now _)
  cases h1 : rng (l.length : Int) 1 8 with
  | false => simpa using bad
  | true =>
    have hn := rng_iff.1 h1
    rw [w64 (x := (l.length : Int) - 1) (by omega) (by omega)]
    cases h2 : rng h 0 ((l.length : Int) - 1) with
    | false => simpa [h2] using bad
    | true =>
      have hh := rng_iff.1 h2
      cases h3 : rng t 0 ((l.length : Int) - 1) with
      | false => simpa [h2, h3] using bad
      | true =>
        have ht := rng_iff.1 h3
        simp only [h2, h3, if_true, Bool.not_true, Bool.true_and]
        have fin := fun m => impl_ring_loop l m h t (by omega) (by omega)
        have j2 : ∀ m, Ev (fun k => impl_RingOk.j2 k (l.length : Int) m l h t) (allF (pR l m t) 0 l.length) := fun m => Ev.step (fun k => by simp only [impl_RingOk.j2]) (fin m)
        refine Ev.step (fun k => by simp only [impl_RingOk.j0, Bool.false_eq_true, if_false]; rw [if_neg (by omega), w64 (x := h - t) (by omega) (by omega), w64 (x := h - t + (l.length : Int)) (by omega) (by omega)]) ?_
        unfold heldM
        by_cases hz : Int.tmod (h - t + (l.length : Int)) (l.length : Int) = 0
        · simp only [if_pos hz, if_pos hh.1, if_pos (show h < (l.length : Int) by omega), hz, true_and]
          by_cases ho : (rd_T105 l h).f0 = 1
          · rw [if_pos ho]
            exact Ev.step (fun k => by simp only [impl_RingOk.j1, ho, beq_self_eq_true, if_true]) (j2 _)
          · rw [if_neg ho]
            exact Ev.step (fun k => by simp [impl_RingOk.j1, ho]) (j2 _)
        · simp only [if_neg hz, hz, false_and, if_false]
          exact Ev.step (fun k => by simp only [impl_RingOk.j1, Bool.false_eq_true, if_false]) (j2 _)

/-! ### take -/
def takeB (l : List S105) (h t : Int) : List S105 × Int × Int × ByteArray × Bool :=
  if ringB l h t = true ∧ ¬ (rd_T105 l t).f0 = 0 then (l.set t.toNat (⟨0, (⟨#[]⟩ : ByteArray)⟩ : S105), h, Int.tmod (t + 1) l.length, (rd_T105 l t).f1, true) else (l, h, t, (⟨#[]⟩ : ByteArray), false)
theorem takeB_length (l : List S105) (h t : Int) : (takeB l h t).1.length = l.length := by
  unfold takeB
  split
  · simp
  · rfl
theorem spec_Take_ok (l : List S105) (h t : Int) (hl : l.length ≤ 1048576) : Ev (fun k => spec_TakeRing.f k l h t) (takeB l h t) := by
  unfold spec_TakeRing.f spec_l09Copy.f
  simp only [Option.bind_some, List.length_nil, Nat.zero_add, if_pos (show l.length < 5864062014805 by omega), List.nil_append]
  refine Ev.bind (spec_RingOk_ok l h t) ?_
  unfold takeB
  cases hb : ringB l h t with
  | false => simpa using Ev.now _
  | true =>
    obtain ⟨hn, hh, ht⟩ := ringB_iff hb
    simp only [if_true, if_pos ht.1, if_pos ht.2, true_and]
    by_cases h0 : (rd_T105 l t).f0 = 0
    · simp only [h0, if_true, not_true_eq_false, if_false]
      exact Ev.now _
    · simp only [h0, if_false, not_false_eq_true, if_true, if_neg (show ¬ (l.length : Int) = 0 by omega), w64 (x := t + 1) (by omega) (by omega)]
      exact Ev.now _
theorem impl_Take_ok (l : List S105) (h t : Int) (hl : l.length ≤ 1048576) : Ev (fun k => impl_TakeRing.f k l h t) (takeB l h t) := by
  unfold impl_TakeRing.f impl_copyRing.f
  simp only [Option.bind_some, List.length_nil, Nat.zero_add, if_pos (show l.length < 5864062014805 by omega), List.nil_append]
  refine Ev.bind (impl_RingOk_ok l h t) ?_
  unfold takeB
  cases hb : ringB l h t with
  | false => simpa using Ev.now _
  | true =>
    obtain ⟨hn, hh, ht⟩ := ringB_iff hb
    simp only [if_true, if_pos ht.1, if_pos ht.2, true_and]
    by_cases h0 : (rd_T105 l t).f0 = 0
    · simp only [h0, if_true, not_true_eq_false, if_false]
      exact Ev.now _
    · simp only [h0, if_false, not_false_eq_true, if_true, if_neg (show ¬ (l.length : Int) = 0 by omega), w64 (x := t + 1) (by omega) (by omega)]
      exact Ev.now _

/-! ### draw -/
def Cur (b : List Int) (i : Int) : Prop := 0 ≤ i ∧ i ≤ (b.length : Int)
theorem new_loop (b : List Int) : ∀ (d : Nat) (i x : Int), 0 ≤ i → i ≤ 4000 → 4000 - i ≤ d → ∃ h, ∀ k, d < k → spec_l01New.l0 k b x i = some (b, 0, h) := by
  intro d
  induction d with
  | zero =>
    intro i x h0 h1 hd
    refine ⟨x, fun k hk => ?_⟩
    obtain ⟨k, rfl⟩ : ∃ m, k = m + 1 := ⟨k - 1, by omega⟩
    simp only [spec_l01New.l0]
    by_cases hl : i < (b.length : Int)
    · rw [if_pos hl, if_neg (by omega)]
    · rw [if_neg hl]
  | succ d ih =>
    intro i x h0 h1 hd
    by_cases hl : i < (b.length : Int) ∧ i < 4000
    · obtain ⟨h, ih⟩ := ih (i + 1) (Go.bits .and .i64 (wrap64 ((wrap64 ((wrap64 (x * 131)) + (wrap64 (rd b i)))) + 7)) 1073741823) (by omega) (by omega) (by omega)
      refine ⟨h, fun k hk => ?_⟩
      obtain ⟨k, rfl⟩ : ∃ m, k = m + 1 := ⟨k - 1, by omega⟩
      simp only [spec_l01New.l0]
      rw [if_pos hl.1, if_pos hl.2, if_pos h0, w64 (x := i + 1) (by omega) (by omega)]
      exact ih k (by omega)
    · refine ⟨x, fun k hk => ?_⟩
      obtain ⟨k, rfl⟩ : ∃ m, k = m + 1 := ⟨k - 1, by omega⟩
      simp only [spec_l01New.l0]
      by_cases hl2 : i < (b.length : Int)
      · rw [if_pos hl2, if_neg (by omega)]
      · rw [if_neg hl2]
theorem new_ok (b : List Int) : ∃ h, Ev (fun k => spec_l01New.f k b) (b, 0, h) := by
  obtain ⟨h, hk⟩ := new_loop b 4000 0 (wrap64 (37401 + (b.length : Int))) (by omega) (by omega) (by omega)
  exact ⟨h, 4001, fun k h1 => hk k (by omega)⟩
theorem cur_zero (b : List Int) : Cur b 0 := ⟨by omega, by omega⟩
theorem byte_ok {b : List Int} {i : Int} (h : Int) (hb : b.length ≤ 1048576) (hi : Cur b i) : ∃ v i' h', spec_l01Byte.f b i h = some (v, i', h') ∧ (0 ≤ v ∧ v ≤ 255) ∧ Cur b i' := by
  obtain ⟨h0, h1⟩ := hi
  unfold spec_l01Byte.f
  by_cases hl : i < (b.length : Int)
  · rw [if_pos hl, if_pos h0]
    refine ⟨_, _, _, rfl, ?_, ?_⟩
    · rw [and255]; omega
    · rw [w64 (by omega) (by omega)]; exact ⟨by omega, by omega⟩
  · rw [if_neg hl]
    refine ⟨_, _, _, rfl, ?_, h0, h1⟩
    rw [and255]; omega
theorem tmod_below {x n : Int} (hx : 0 ≤ x) (hn : 0 < n) : 0 ≤ Int.tmod x n ∧ Int.tmod x n < n := by
  rw [Int.tmod_eq_emod_of_nonneg hx]
  exact ⟨Int.emod_nonneg _ (by omega), Int.emod_lt_of_pos _ hn⟩
theorem below_ok {b : List Int} {i : Int} (h n : Int) (hb : b.length ≤ 1048576) (hi : Cur b i) : ∃ v i' h', spec_l01Below.f b i h n = some (v, i', h') ∧ (0 ≤ v ∧ (0 < n → v < n) ∧ (n ≤ 0 → v = 0)) ∧ Cur b i' := by
  unfold spec_l01Below.f
  by_cases hn : n ≤ 0
  · rw [if_pos hn]
    exact ⟨0, i, h, rfl, ⟨by omega, fun h => by omega, fun _ => rfl⟩, hi⟩
  · rw [if_neg hn]
    by_cases hs : n ≤ 256
    · rw [if_pos hs]
      obtain ⟨v, i', h', e, hv, hi'⟩ := byte_ok h hb hi
      rw [e]
      simp only [Option.bind_some]
      rw [if_neg (by omega)]
      have := tmod_below hv.1 (show 0 < n by omega)
      exact ⟨_, _, _, rfl, ⟨this.1, fun _ => this.2, fun h => absurd h hn⟩, hi'⟩
    · rw [if_neg hs]
      obtain ⟨v1, i1, h1, e1, hv1, hi1⟩ := byte_ok h hb hi
      rw [e1]
      simp only [Option.bind_some]
      obtain ⟨v2, i2, h2, e2, hv2, hi2⟩ := byte_ok h1 hb hi1
      rw [e2]
      simp only [Option.bind_some]
      obtain ⟨v3, i3, h3, e3, hv3, hi3⟩ := byte_ok h2 hb hi2
      rw [e3]
      simp only [Option.bind_some]
      obtain ⟨v4, i4, h4, e4, hv4, hi4⟩ := byte_ok h3 hb hi3
      rw [e4]
      simp only [Option.bind_some]
      rw [if_neg (by omega)]
      rw [w64 (x := v1 * 16777216) (by omega) (by omega), w64 (x := v2 * 65536) (by omega) (by omega), w64 (x := v3 * 256) (by omega) (by omega), w64 (x := v1 * 16777216 + v2 * 65536) (by omega) (by omega),
        w64 (x := v1 * 16777216 + v2 * 65536 + v3 * 256) (by omega) (by omega), w64 (x := v1 * 16777216 + v2 * 65536 + v3 * 256 + v4) (by omega) (by omega)]
      have := tmod_below (show 0 ≤ v1 * 16777216 + v2 * 65536 + v3 * 256 + v4 by omega) (show 0 < n by omega)
      exact ⟨_, _, _, rfl, ⟨this.1, fun _ => this.2, fun h => absurd h hn⟩, hi4⟩
theorem big_eq (b : List Int) : laws_big.f b = some (decide ((b.length : Int) > 1048576)) := rfl

/-! ### tot -/
/-- A row of calls that comes to an answer of a kind. -/
def Tot {α : Type} (g : Nat → Option α) (P : α → Prop) : Prop := ∃ r, Ev g r ∧ P r
theorem Tot.bind {α β : Type} {g : Nat → Option α} {f : Nat → α → Option β} {P : α → Prop} {Q : β → Prop} (h : Tot g P) (h2 : ∀ r, P r → Tot (fun k => f k r) Q) : Tot (fun k => (g k).bind (f k)) Q := by
  obtain ⟨r, e, hr⟩ := h
  obtain ⟨q, e2, hq⟩ := h2 r hr
  exact ⟨q, Ev.bind e e2, hq⟩
theorem Tot.ret {α : Type} {P : α → Prop} (r : α) (h : P r) : Tot (fun _ => some r) P := ⟨r, Ev.now _, h⟩
theorem Tot.step {α : Type} {F f : Nat → Option α} {P : α → Prop} (hs : ∀ k, F (k + 1) = f k) (h : Tot f P) : Tot F P := by
  obtain ⟨r, e, hr⟩ := h
  exact ⟨r, Ev.step hs e, hr⟩
theorem Tot.mono {α : Type} {g : Nat → Option α} {P Q : α → Prop} (h : Tot g P) (hpq : ∀ r, P r → Q r) : Tot g Q := by
  obtain ⟨r, e, hr⟩ := h
  exact ⟨r, e, hpq r hr⟩
theorem Tot.of_some {α : Type} {o : Option α} {P : α → Prop} (r : α) (e : o = some r) (h : P r) : Tot (fun _ => o) P := ⟨r, ⟨0, fun _ _ => e⟩, h⟩
theorem tByte {b : List Int} {i : Int} (h : Int) (hb : b.length ≤ 1048576) (hi : Cur b i) : Tot (fun _ => spec_l01Byte.f b i h) (fun r => (0 ≤ r.1 ∧ r.1 ≤ 255) ∧ Cur b r.2.1) := by
  obtain ⟨v, i', h', e, hv, hi'⟩ := byte_ok h hb hi
  exact Tot.of_some _ e ⟨hv, hi'⟩
theorem tBelow {b : List Int} {i : Int} (h n : Int) (hb : b.length ≤ 1048576) (hi : Cur b i) : Tot (fun _ => spec_l01Below.f b i h n) (fun r => (0 ≤ r.1 ∧ (0 < n → r.1 < n) ∧ (n ≤ 0 → r.1 = 0)) ∧ Cur b r.2.1) := by
  obtain ⟨v, i', h', e, hv, hi'⟩ := below_ok h n hb hi
  exact Tot.of_some _ e ⟨hv, hi'⟩
theorem rd_mem {l : List Int} {i : Int} (h0 : 0 ≤ i) (h1 : i < (l.length : Int)) : rd l i ∈ l := by
  unfold rd
  rw [List.getD_eq_getElem?_getD, List.getElem?_eq_getElem (by omega), Option.getD_some]
  exact List.getElem_mem _
theorem tPick {b : List Int} {i : Int} (h : Int) (l : List Int) (hb : b.length ≤ 1048576) (hi : Cur b i) (hl : 0 < l.length) : Tot (fun _ => spec_l01PickInt.f b i h l) (fun r => r.1 ∈ l ∧ Cur b r.2.1) := by
  obtain ⟨v, i', h', e, hv, hi'⟩ := below_ok h (l.length : Int) hb hi
  have h1 := hv.2.1 (by omega)
  refine Tot.of_some (rd l v, i', h') ?_ ⟨rd_mem hv.1 h1, hi'⟩
  unfold spec_l01PickInt.f
  rw [e]
  simp only [Option.bind_some]
  rw [if_pos hv.1, if_pos h1]
theorem tOnce {b : List Int} {i : Int} (h n : Int) (hb : b.length ≤ 1048576) (hi : Cur b i) : Tot (fun _ => spec_l01Once.f b i h n) (fun r => Cur b r.2.1) := by
  obtain ⟨v, i', h', e, _, hi'⟩ := below_ok h n hb hi
  refine Tot.of_some (v == 0, i', h') ?_ hi'
  unfold spec_l01Once.f
  rw [e]
  rfl
theorem tPickT {b : List Int} {i : Int} (h : Int) (l : List ByteArray) (hb : b.length ≤ 1048576) (hi : Cur b i) (hl : 0 < l.length) : Tot (fun _ => spec_l01Pick.f b i h l) (fun r => r.1 ∈ l ∧ Cur b r.2.1) := by
  obtain ⟨v, i', h', e, hv, hi'⟩ := below_ok h (l.length : Int) hb hi
  have h1 := hv.2.1 (by omega)
  have hm : rdOf ByteArray.empty l v ∈ l := by
    unfold rdOf
    rw [List.getD_eq_getElem?_getD, List.getElem?_eq_getElem (by have := hv.1; omega), Option.getD_some]
    exact List.getElem_mem _
  refine Tot.of_some (rdOf ByteArray.empty l v, i', h') ?_ ⟨hm, hi'⟩
  unfold spec_l01Pick.f
  rw [e]
  simp only [Option.bind_some]
  rw [if_pos hv.1, if_pos h1]

/-! ### text -/
theorem text_loop {b : List Int} (hb : b.length ≤ 1048576) (n : Int) (hn : n ≤ 5000) : ∀ (d : Nat) (acc : List Int) (j : Int) (i h : Int), Cur b i → (acc.length : Int) = j → n - j ≤ d → (j ≤ n ∨ j = 0) →
    Tot (fun k => spec_l01Text.l0 k n acc j b i h) (fun r => (r.1.size : Int) = mx 0 n ∧ Cur b r.2.1) := by
  intro d
  induction d with
  | zero =>
    intro acc j i h hi hl hd hj
    refine Tot.step (f := fun _ => some (strOfNums acc, i, h)) (fun k => by simp only [spec_l01Text.l0]; rw [if_neg (by omega)]) (Tot.ret _ ⟨?_, hi⟩)
    rw [strOfNums_size]
    unfold mx
    split <;> omega
  | succ d ih =>
    intro acc j i h hi hl hd hj
    by_cases hjn : j < n
    · refine Tot.step (fun k => rfl) ?_
      simp only [spec_l01Text.l0, if_pos hjn]
      refine Tot.bind (tByte h hb hi) fun r hr => ?_
      have hlen : acc.length < 140737488355328 := by omega
      simp only [if_pos hlen]
      rw [w64 (by omega) (by omega)]
      exact ih (acc ++ [r.1 % 256]) (j + 1) r.2.1 r.2.2 hr.2 (by rw [List.length_append, List.length_singleton]; omega) (by omega) (by omega)
    · refine Tot.step (f := fun _ => some (strOfNums acc, i, h)) (fun k => by simp only [spec_l01Text.l0]; rw [if_neg hjn]) (Tot.ret _ ⟨?_, hi⟩)
      rw [strOfNums_size]
      unfold mx
      split <;> omega
theorem tText {b : List Int} {i : Int} (h n : Int) (hb : b.length ≤ 1048576) (hi : Cur b i) : Tot (fun k => spec_l01Text.f k b i h n) (fun r => r.1.size ≤ 5000 ∧ (0 ≤ n → n ≤ 5000 → (r.1.size : Int) = n) ∧ Cur b r.2.1) := by
  unfold spec_l01Text.f
  by_cases hn : n > 5000
  · simp only [if_pos hn]
    refine Tot.step (f := fun k => spec_l01Text.l0 k 5000 [] 0 b i h) (fun k => rfl) ((text_loop hb 5000 (by omega) 5000 [] 0 i h hi rfl (by omega) (by omega)).mono fun r hr => ⟨?_, fun h0 h1 => absurd h1 (by omega), hr.2⟩)
    have := hr.1
    unfold mx at this
    rw [if_pos (by omega)] at this
    omega
  · simp only [if_neg hn]
    refine Tot.step (f := fun k => spec_l01Text.l0 k n [] 0 b i h) (fun k => rfl) ((text_loop hb n (by omega) 5000 [] 0 i h hi rfl (by omega) (by omega)).mono fun r hr => ?_)
    have h2 := hr.1
    unfold mx at h2
    refine ⟨?_, fun h0 h1 => ?_, hr.2⟩
    · split at h2 <;> omega
    · split at h2 <;> omega
theorem long_loop (n c : Int) (hn : n ≤ 1000000) : ∀ (d : Nat) (j : Int) (l : List Int), (l.length : Int) = n → 0 ≤ j → n - j ≤ d → j ≤ n → Tot (fun k => spec_l01Long.l0 k n c l j) (fun r => (r.size : Int) = n) := by
  intro d
  induction d with
  | zero =>
    intro j l hl h0 hd hj
    refine Tot.step (f := fun _ => some (strOfNums l)) (fun k => by simp only [spec_l01Long.l0]; rw [if_neg (by omega)]) (Tot.ret _ (by rw [strOfNums_size]; exact hl))
  | succ d ih =>
    intro j l hl h0 hd hj
    by_cases hjn : j < n
    · refine Tot.step (fun k => by simp only [spec_l01Long.l0]; rw [if_pos hjn, if_pos h0, if_pos (by omega), w64 (by omega) (by omega)]) ?_
      exact ih (j + 1) (l.set j.toNat c) (by rw [List.length_set]; exact hl) (by omega) (by omega) (by omega)
    · refine Tot.step (f := fun _ => some (strOfNums l)) (fun k => by simp only [spec_l01Long.l0]; rw [if_neg hjn]) (Tot.ret _ (by rw [strOfNums_size]; exact hl))
theorem tLong (n c : Int) (h0 : 0 ≤ n) (hn : n ≤ 1000000) : Tot (fun k => spec_l01Long.f k n c) (fun r => (r.size : Int) = n) := by
  unfold spec_l01Long.f
  simp only [if_pos h0, if_pos (show n.toNat ≤ 281474976710656 by omega)]
  exact long_loop n c hn n.toNat 0 _ (by rw [List.length_replicate]; omega) (by omega) (by omega) (by omega)

/-! ### FnRingsTold -/
def postB (l : List S105) (h t : Int) (s : ByteArray) : List S105 × Int × Int × Bool :=
  if ringB l h t = true ∧ rng (s.size : Int) 1 100 = true ∧ ¬ (rd_T105 l h).f0 = 1 then (l.set h.toNat (⟨1, s⟩ : S105), Int.tmod (h + 1) l.length, t, true) else (l, h, t, false)
theorem postB_length (l : List S105) (h t : Int) (s : ByteArray) : (postB l h t s).1.length = l.length := by
  unfold postB
  split
  · simp
  · rfl
theorem spec_Post_ok (l : List S105) (h t : Int) (s : ByteArray) (hl : l.length ≤ 1048576) : Ev (fun k => spec_PostRing.f k l h t s) (postB l h t s) := by
  unfold spec_PostRing.f spec_l09Copy.f
  simp only [Option.bind_some, List.length_nil, Nat.zero_add, if_pos (show l.length < 5864062014805 by omega), List.nil_append]
  refine Ev.bind (spec_RingOk_ok l h t) ?_
  unfold postB
  simp only [in_eq, Option.bind_some]
  cases hb : ringB l h t with
  | false => simpa using Ev.now _
  | true =>
    obtain ⟨hn, hh, ht⟩ := ringB_iff hb
    cases hr : rng (s.size : Int) 1 100 with
    | false => simpa using Ev.now _
    | true =>
      simp only [if_true, if_pos hh.1, if_pos hh.2, true_and]
      by_cases h0 : (rd_T105 l h).f0 = 1
      · simp only [h0, if_true, not_true_eq_false, if_false]
        exact Ev.now _
      · simp only [h0, if_false, not_false_eq_true, if_true, if_neg (show ¬ (l.length : Int) = 0 by omega), w64 (x := h + 1) (by omega) (by omega)]
        exact Ev.now _
theorem impl_Post_ok (l : List S105) (h t : Int) (s : ByteArray) (hl : l.length ≤ 1048576) : Ev (fun k => impl_PostRing.f k l h t s) (postB l h t s) := by
  unfold impl_PostRing.f impl_copyRing.f
  simp only [Option.bind_some, List.length_nil, Nat.zero_add, if_pos (show l.length < 5864062014805 by omega), List.nil_append]
  refine Ev.bind (impl_RingOk_ok l h t) ?_
  unfold postB
  simp only [within_eq, Option.bind_some]
  cases hb : ringB l h t with
  | false => simpa using Ev.now _
  | true =>
    obtain ⟨hn, hh, ht⟩ := ringB_iff hb
    simp only [if_true, if_pos hh.1, if_pos hh.2, true_and]
    by_cases h0 : (rd_T105 l h).f0 = 1
    · simp only [h0, if_true, not_true_eq_false, and_false, if_false]
      exact Ev.now _
    · cases hr : rng (s.size : Int) 1 100 with
      | false => simp only [h0, Bool.false_eq_true, if_false, false_and]; exact Ev.now _
      | true =>
        simp only [h0, if_false, not_false_eq_true, and_self, if_true, if_neg (show ¬ (l.length : Int) = 0 by omega), w64 (x := h + 1) (by omega) (by omega)]
        exact Ev.now _
theorem specNew (n : Int) (h : 1 ≤ n ∧ n ≤ 8) : spec_RingNew.f n = some (List.replicate n.toNat z105, 0, 0, true) := by
  have hr : rng n 1 8 = true := rng_iff.2 h
  unfold spec_RingNew.f
  simp only [in_eq, hr, Option.bind_some, if_true]
  rw [if_pos (by omega), if_pos (by omega)]
theorem implNew3 : impl_RingNew.f 3 = some (List.replicate (3 : Int).toNat z105, 0, 0, true) := by
  have hr : rng 3 1 8 = true := rng_iff.2 (by omega)
  unfold impl_RingNew.f
  simp only [within_eq, hr, Option.bind_some, if_true]
  rw [if_pos (by omega), if_pos (by decide)]
theorem implNew9 : impl_RingNew.f 9 = some (([] : List S105), 0, 0, false) := by
  have hr : rng 9 1 8 = false := rng_false.2 (by omega)
  unfold impl_RingNew.f
  simp [within_eq, hr]
theorem heldBy_both (l : List S105) (h t : Int) (hl : l.length ≤ 1048576) : ∀ (d j : Nat) (c : Int), l.length - j = d → j ≤ l.length → 0 ≤ c → c ≤ j → ∃ r, Ev (fun k => spec_HeldBy.l0 k c (j : Int) l h t) r ∧ Ev (fun k => impl_HeldBy.l0 k c l (l.length : Int) (j : Int)) r := by
  intro d
  induction d with
  | zero =>
    intro j c hd hj h0 h1
    refine ⟨c, Ev.step (f := fun _ => some c) (fun k => by simp only [spec_HeldBy.l0]; rw [if_neg (by omega)]) (Ev.now _), Ev.step (f := fun _ => some c) (fun k => by simp only [impl_HeldBy.l0]; rw [if_neg (by omega)]) (Ev.now _)⟩
  | succ d ih =>
    intro j c hd hj h0 h1
    by_cases ho : (rd_T105 l (j : Int)).f0 = 1
    · obtain ⟨r, e1, e2⟩ := ih (j + 1) (c + 1) (by omega) (by omega) (by omega) (by omega)
      refine ⟨r, Ev.step (fun k => ?_) e1, Ev.step (fun k => ?_) e2⟩
      · simp only [spec_HeldBy.l0]
        rw [if_pos (by omega), if_pos (by omega), if_pos ho, w64 (x := c + 1) (by omega) (by omega), w64 (x := (j : Int) + 1) (by omega) (by omega)]
        rfl
      · simp only [impl_HeldBy.l0]
        rw [if_pos (by omega), if_pos (by omega), if_pos (by omega), if_pos ho, w64 (x := c + 1) (by omega) (by omega), w64 (x := (j : Int) + 1) (by omega) (by omega)]
        rfl
    · obtain ⟨r, e1, e2⟩ := ih (j + 1) c (by omega) (by omega) (by omega) (by omega)
      refine ⟨r, Ev.step (fun k => ?_) e1, Ev.step (fun k => ?_) e2⟩
      · simp only [spec_HeldBy.l0]
        rw [if_pos (by omega), if_pos (by omega), if_neg ho, w64 (x := (j : Int) + 1) (by omega) (by omega)]
        rfl
      · simp only [impl_HeldBy.l0]
        rw [if_pos (by omega), if_pos (by omega), if_pos (by omega), if_neg ho, w64 (x := (j : Int) + 1) (by omega) (by omega)]
        rfl
theorem tRing_loop {b : List Int} (hb : b.length ≤ 1048576) : ∀ (d : Nat) (x i h : Int) (l : List S105) (hd tl : Int), 20 - x ≤ d → 0 ≤ x → x ≤ 20 → 1 ≤ l.length ∧ l.length ≤ 8 → Cur b i → Tot (fun k => spec_l09Ring.l0 k x b i h l hd tl) (fun r => (1 ≤ r.1.length ∧ r.1.length ≤ 8) ∧ Cur b r.2.2.2.1) := by
  intro d
  induction d with
  | zero =>
    intro x i h l hd tl hx h0 h1 hl hi
    refine Tot.step (fun k => rfl) ?_
    simp only [spec_l09Ring.l0]
    refine Tot.bind (tBelow h 20 hb hi) fun r hr => ?_
    have := hr.1.2.1 (by omega)
    simp only [if_neg (show ¬ x < r.1 by omega)]
    exact Tot.ret _ ⟨hl, hr.2⟩
  | succ d ih =>
    intro x i h l hd tl hx h0 h1 hl hi
    refine Tot.step (fun k => rfl) ?_
    simp only [spec_l09Ring.l0]
    refine Tot.bind (tBelow h 20 hb hi) fun r hr => ?_
    have hr20 := hr.1.2.1 (by omega)
    by_cases hxr : x < r.1
    · simp only [if_pos hxr, w64 (x := x + 1) (by omega) (by omega)]
      refine Tot.bind (tOnce _ 3 hb hr.2) fun q hq => ?_
      by_cases hq1 : q.1 = true
      · simp only [if_pos hq1]
        refine Tot.bind (P := fun r => r.1.length = l.length) ⟨_, spec_Take_ok l hd tl (by omega), takeB_length l hd tl⟩ fun u hu => ?_
        exact ih (x + 1) _ _ u.1 _ _ (by omega) (by omega) (by omega) (by omega) hq
      · simp only [if_neg hq1]
        refine Tot.bind (tBelow _ 3 hb hq) fun u hu => ?_
        refine Tot.bind (tText _ _ hb hu.2) fun v hv => ?_
        refine Tot.bind (P := fun r => r.1.length = l.length) ⟨_, spec_Post_ok l hd tl v.1 (by omega), postB_length l hd tl v.1⟩ fun w hw => ?_
        exact ih (x + 1) _ _ w.1 _ _ (by omega) (by omega) (by omega) (by omega) hv.2.2
    · simp only [if_neg hxr]
      exact Tot.ret _ ⟨hl, hr.2⟩
theorem tRing {b : List Int} {i : Int} (h : Int) (hb : b.length ≤ 1048576) (hi : Cur b i) : Tot (fun k => spec_l09Ring.f k b i h) (fun r => (1 ≤ r.1.length ∧ r.1.length ≤ 8) ∧ Cur b r.2.2.2.1) := by
  unfold spec_l09Ring.f
  refine Tot.bind (tBelow h 8 hb hi) fun r hr => ?_
  have h1 := hr.1.2.1 (by omega)
  have h0 := hr.1.1
  simp only [w64 (x := 1 + r.1) (by omega) (by omega), specNew (1 + r.1) (by omega), Option.bind_some]
  exact tRing_loop hb 20 0 _ _ _ _ _ (by omega) (by omega) (by omega) (by rw [List.length_replicate]; omega) hr.2
theorem tAnyRing {b : List Int} {i : Int} (h : Int) (hb : b.length ≤ 1048576) (hi : Cur b i) : Tot (fun k => spec_l09Any.f k b i h) (fun r => r.1.length ≤ 8) := by
  unfold spec_l09Any.f
  refine Tot.bind (tRing h hb hi) fun r hr => ?_
  have hl := hr.1
  unfold spec_l09Copy.f
  simp only [Option.bind_some, List.length_nil, Nat.zero_add, if_pos (show r.1.length < 5864062014805 by omega), List.nil_append]
  refine Tot.bind (tBelow _ (r.1.length : Int) hb hr.2) fun p hp => ?_
  have hp1 := hp.1.2.1 (by omega)
  have hp0 := hp.1.1
  refine Tot.bind (tBelow _ 12 hb hp.2) fun q hq => ?_
  by_cases h0 : q.1 = 0
  · simp only [if_pos h0]
    refine Tot.bind (tBelow _ 3 hb hq.2) fun u hu => ?_
    simp only [if_pos hp0, if_pos hp1]
    exact Tot.ret _ (by show (r.1.set _ _).length ≤ 8; rw [List.length_set]; omega)
  · simp only [if_neg h0]
    by_cases h1 : q.1 = 1
    · simp only [if_pos h1]
      refine Tot.bind (tPick _ _ hb hq.2 (by simp)) fun u hu => ?_
      exact Tot.ret _ hl.2
    · simp only [if_neg h1]
      by_cases h2 : q.1 = 2
      · simp only [if_pos h2]
        refine Tot.bind (tPickT _ _ hb hq.2 (by simp)) fun u hu => ?_
        simp only [if_pos hp0, if_pos hp1]
        exact Tot.ret _ (by show (r.1.set _ _).length ≤ 8; rw [List.length_set]; omega)
      · simp only [if_neg h2]
        by_cases h3 : q.1 = 3
        · simp only [if_pos h3]
          exact Tot.ret _ (by show 0 ≤ 8; omega)
        · simp only [if_neg h3]
          exact Tot.ret _ hl.2
theorem FnRingsTold : StFnRingsTold.Pure := by
  intro b
  intros
  by_cases hbig : (b.length : Int) > 1048576
  · exact ⟨0, by unfold laws_FnRingsTold.f; rw [big_eq]; simp [hbig]⟩
  · have hbl : b.length ≤ 1048576 := by omega
    obtain ⟨h, hn⟩ := new_ok b
    obtain ⟨q, e1, hq⟩ : Tot (fun k => spec_DrawPostRing.f k b) (fun r => r.1.length ≤ 8) := by
      unfold spec_DrawPostRing.f
      refine Tot.bind (P := fun r => r = (b, 0, h)) ⟨_, hn, rfl⟩ fun r hr => ?_
      subst hr
      refine Tot.bind (tBelow h 4 hbl (cur_zero b)) fun r hr => ?_
      have hr1 := hr.1.2.1 (by omega)
      have hr0 := hr.1.1
      refine Tot.bind (tOnce _ 8 hbl hr.2) fun u hu => ?_
      by_cases hu1 : u.1 = true
      · simp only [if_pos hu1]
        refine Tot.bind (tPick _ [0, 100, 101] hbl hu (by simp)) fun v hv => ?_
        have hv1 : 0 ≤ v.1 ∧ v.1 ≤ 101 := by have := hv.1; simp at this; omega
        refine Tot.bind (tAnyRing _ hbl hv.2) fun w hw => ?_
        refine Tot.bind (tLong v.1 65 hv1.1 (by omega)) fun x hx => ?_
        exact Tot.ret _ hw
      · simp only [if_neg hu1]
        refine Tot.bind (tAnyRing _ hbl hu) fun w hw => ?_
        rw [w64 (by omega) (by omega)]
        refine Tot.bind (tLong (1 + r.1) 65 (by omega) (by omega)) fun x hx => ?_
        exact Tot.ret _ hw
    obtain ⟨l, hd, tl, s⟩ := q
    obtain ⟨c, c1, c2⟩ := heldBy_both l hd tl (by simp only at hq; omega) l.length 0 0 (by omega) (by omega) (by omega) (by omega)
    have hl : l.length ≤ 1048576 := by simp only at hq; omega
    refine Ev.ex ?_ (r := true)
    unfold laws_FnRingsTold.f
    rw [big_eq]
    simp only [Option.bind_some, decide_eq_true_eq, if_neg hbig]
    refine Ev.bind e1 ?_
    refine Ev.bind (impl_Post_ok l hd tl s hl) ?_
    refine Ev.bind (spec_Post_ok l hd tl s hl) ?_
    refine Ev.bind (impl_Take_ok l hd tl hl) ?_
    refine Ev.bind (spec_Take_ok l hd tl hl) ?_
    simp only [implNew3, implNew9, Option.bind_some]
    refine Ev.bind (impl_RingOk_ok l hd tl) ?_
    refine Ev.bind (spec_RingOk_ok l hd tl) ?_
    have fin : Ev (fun k => (impl_HeldBy.f k l hd tl).bind fun t402 => ((spec_HeldBy.f k l hd tl).bind fun t403 => (some (t402 == t403)))) true := by
      refine Ev.bind (show Ev (fun k => impl_HeldBy.f k l hd tl) c from c2) ?_
      refine Ev.bind (show Ev (fun k => spec_HeldBy.f k l hd tl) c from c1) ?_
      simp only [beq_self_eq_true]
      exact Ev.now _
    have h3 : ((List.replicate (3 : Int).toNat z105).length : Int) = 3 := rfl
    have g1 : (postB l hd tl s).2.2.2 = false → (postB l hd tl s).1.length = l.length ∧ (postB l hd tl s).2.1 = hd := by
      unfold postB
      split
      · intro h; cases h
      · intro _; exact ⟨rfl, rfl⟩
    have g2 : (takeB l hd tl).2.2.2.2 = false → (takeB l hd tl).2.2.1 = tl := by
      unfold takeB
      split
      · intro h; cases h
      · intro _; rfl
    simp only [beq_self_eq_true, if_true, Bool.false_eq_true, if_false, h3]
    cases hp : (postB l hd tl s).2.2.2 with
    | true =>
      simp only [if_true]
      cases ht : (takeB l hd tl).2.2.2.2 with
      | true => simpa using fin
      | false => simpa [g2 ht] using fin
    | false =>
      obtain ⟨g3, g4⟩ := g1 hp
      simp only [Bool.false_eq_true, if_false, g3, g4, if_true]
      cases ht : (takeB l hd tl).2.2.2.2 with
      | true => simpa using fin
      | false => simpa [g2 ht] using fin

end Go.Proofs.Ytideegpoakkgeaa.Pure
