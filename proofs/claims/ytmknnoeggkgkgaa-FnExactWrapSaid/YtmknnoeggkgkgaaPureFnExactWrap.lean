/- The pure statement of the law 'FnExactWrap', proved: over numbers, lists and texts alone. No condition. -/
import Derived.Test.YtmknnoeggkgkgaaStFnExactWrap
import Derived.Laws.BitsLemmas
namespace Go.Proofs.Ytmknnoeggkgkgaa.Pure
open Go.RowKit Go.Proofs.Ytmknnoeggkgkgaa.QFnExactWrap Go.Proofs.YtmknnoeggkgkgaaW.PrintWords Go.Proofs.YtmknnoeggkgkgaaW.PrintLast Go.Proofs.YtmknnoeggkgkgaaW.PrintMore Go.Proofs.Ytmknnoeggkgkgaa.StFnExactWrap Go.Proofs.Ytmknnoeggkgkgaa.Opens
set_option linter.unusedVariables false
set_option linter.unusedSimpArgs false

/-! ### base -/
theorem w64 {x : Int} (h0 : -9223372036854775808 ≤ x) (h1 : x ≤ 9223372036854775807) : wrap64 x = x := by unfold wrap64; omega
theorem w64_range (x : Int) : -9223372036854775808 ≤ wrap64 x ∧ wrap64 x ≤ 9223372036854775807 := by unfold wrap64; omega
theorem ip {α : Type} {c : Prop} [Decidable c] {a b : α} (h : c) : (if c then a else b) = a := if_pos h
theorem ineg {α : Type} {c : Prop} [Decidable c] {a b : α} (h : ¬ c) : (if c then a else b) = b := if_neg h
theorem wf_range {n : Int} (h : (Lit.int .i64 n).wf = true) : -9223372036854775808 ≤ n ∧ n ≤ 9223372036854775807 := by
  simp only [Lit.wf, IntKind.min, IntKind.max, IntKind.signed, IntKind.bits, Bool.and_eq_true, decide_eq_true_eq, if_true] at h
  omega
theorem wf_u8 {n : Int} (h : (Lit.int .u8 n).wf = true) : 0 ≤ n ∧ n ≤ 255 := by
  simp [Lit.wf, IntKind.min, IntKind.max, IntKind.signed, IntKind.bits] at h
  omega
theorem and_low (x : Int) (i : Nat) (hi : i ≤ 62) : Go.bits .and .i64 x (2 ^ i - 1) = x % 2 ^ i := by
  have hpos : 0 < 2 ^ i := Nat.two_pow_pos i
  have hc : ((2 : Int) ^ i - 1) = ((2 ^ i - 1 : Nat) : Int) := by rw [Int.natCast_sub hpos]; simp
  have h62 : 2 ^ i ≤ 2 ^ 62 := Nat.pow_le_pow_right (by decide) hi
  have hlt : 2 ^ i - 1 < 2 ^ 64 := by omega
  have hd : (2 ^ i : Nat) ∣ 2 ^ 64 := Nat.pow_dvd_pow 2 (by omega)
  rw [hc]
  simp only [Go.bits, BitVec.ofInt_natCast, BitVec.toNat_and, BitVec.toNat_ofNat, BitVec.toNat_ofInt]
  simp only [show IntKind.i64.bits = 64 from rfl]
  rw [Nat.mod_eq_of_lt hlt, Nat.and_two_pow_sub_one_eq_mod]
  have h1 : (((x % ((2 ^ 64 : Nat) : Int)).toNat % 2 ^ i : Nat) : Int) = x % 2 ^ i := by
    rw [Int.natCast_emod, Int.toNat_of_nonneg (Int.emod_nonneg _ (by decide))]
    rw [Int.natCast_pow]
    exact Int.emod_emod_of_dvd _ (by
      have : (((2 ^ i : Nat) : Int)) ∣ ((2 ^ 64 : Nat) : Int) := Int.natCast_dvd_natCast.2 hd
      simpa using this)
  rw [h1]
  have h2 : 0 ≤ x % 2 ^ i := Int.emod_nonneg _ (by
    have : (0 : Int) < 2 ^ i := by exact_mod_cast hpos
    omega)
  have h3 : x % 2 ^ i < 2 ^ i := Int.emod_lt_of_pos _ (by exact_mod_cast hpos)
  have h4 : (2 : Int) ^ i ≤ 2 ^ 62 := by exact_mod_cast h62
  rw [IntKind.wrap_i64]
  omega
theorem and255 (x : Int) : Go.bits .and .i64 x 255 = x % 256 := and_low x 8 (by omega)
theorem and65535 (x : Int) : Go.bits .and .i64 x 65535 = x % 65536 := and_low x 16 (by omega)
theorem and30 (x : Int) : Go.bits .and .i64 x 1073741823 = x % 1073741824 := and_low x 30 (by omega)
theorem and1 (x : Int) : Go.bits .and .i64 x 1 = x % 2 := and_low x 1 (by omega)
/-- A law's last step: both are one. -/
theorem same_end {v : Bool} : (if (v != v) = true then some false else some true : Option Bool) = some true := by simp
theorem Ev.ex {α : Type} {g : Nat → Option α} {r : α} (h : Ev g r) : ∃ k, g k = some r := h.rounds
theorem Ev.from_ {α : Type} {g : Nat → Option α} {r : α} (K : Nat) (h : ∀ k, K ≤ k → g k = some r) : Ev g r := ⟨K, h⟩
theorem Ev.both {α β : Type} {g : Nat → Option α} {f : Nat → Option β} {r : α} {q : β} (h : Ev g r) (h' : Ev f q) : ∃ K, ∀ k, K ≤ k → g k = some r ∧ f k = some q := by
  obtain ⟨K, h⟩ := h
  obtain ⟨K', h'⟩ := h'
  exact ⟨K + K', fun k hk => ⟨h k (by omega), h' k (by omega)⟩⟩

/-! ### in -/
def rng (a b c : Int) : Bool := decide (b ≤ a) && decide (a ≤ c)
theorem rng_iff {a b c : Int} : rng a b c = true ↔ b ≤ a ∧ a ≤ c := by simp [rng]
theorem rng_false {a b c : Int} : rng a b c = false ↔ ¬ (b ≤ a ∧ a ≤ c) := by rw [← rng_iff]; simp
theorem in_eq (a b c : Int) : spec_l01In.f a b c = some (rng a b c) := by
  unfold spec_l01In.f rng
  by_cases h : b ≤ a
  · rw [if_pos h]; simp [h]
  · rw [if_neg h]; simp [h]
theorem within_eq (a b c : Int) : impl_within.f a b c = some (rng a b c) := by
  unfold impl_within.f rng
  by_cases h : b ≤ a
  · rw [if_pos h]; simp [h]
  · rw [if_neg h]; simp [h]

/-! ### dgok -/
def dgB (a b c d : Int) (e : Bool) (s : ByteArray) : Bool :=
  rng a 1 99 && (rng b 1 99 && (rng c 0 65535 && (rng d 0 160 && (decide (Int.tmod d 8 = 0) && (rng (s.size : Int) 1 (wrap64 (160 - d)) && (!e || ((s.size : Int) % 8 == 0)))))))
theorem spec_dgB (a b c d : Int) (e : Bool) (s : ByteArray) : spec_DgramOk.f a b c d e s = some (dgB a b c d e s) := by
  unfold spec_DgramOk.f dgB
  simp only [in_eq, Option.bind_some]
  by_cases h8 : Int.tmod d 8 = 0
  · simp only [if_pos h8]
    cases rng a 1 99 <;> cases rng b 1 99 <;> cases rng c 0 65535 <;> cases rng d 0 160 <;> cases rng (s.size : Int) 1 (wrap64 (160 - d)) <;> cases e <;> simp [h8]
  · simp only [if_neg h8]
    cases rng a 1 99 <;> cases rng b 1 99 <;> cases rng c 0 65535 <;> cases rng d 0 160 <;> simp [h8]
theorem impl_dgB (a b c d : Int) (e : Bool) (s : ByteArray) : impl_DgramOk.f a b c d e s = some (dgB a b c d e s) := by
  unfold impl_DgramOk.f impl_isAddr.f impl_isWord.f dgB
  simp only [within_eq, Option.bind_some]
  by_cases h8 : Int.tmod d 8 = 0
  · simp only [if_pos h8]
    cases rng a 1 99 <;> cases rng b 1 99 <;> cases rng c 0 65535 <;> cases rng d 0 160 <;> cases rng (s.size : Int) 1 (wrap64 (160 - d)) <;> cases e <;> simp [h8]
  · simp only [if_neg h8]
    cases rng a 1 99 <;> cases rng b 1 99 <;> cases rng c 0 65535 <;> cases rng d 0 160 <;> simp [h8]
theorem dgB_iff {a b c d : Int} {e : Bool} {s : ByteArray} (h : dgB a b c d e s = true) : (1 ≤ a ∧ a ≤ 99) ∧ (1 ≤ b ∧ b ≤ 99) ∧ (0 ≤ c ∧ c ≤ 65535) ∧ (0 ≤ d ∧ d ≤ 160) ∧ d % 8 = 0 ∧ (1 ≤ (s.size : Int) ∧ (s.size : Int) ≤ 160 - d) ∧ (e = true → (s.size : Int) % 8 = 0) := by
  unfold dgB at h
  simp only [Bool.and_eq_true, decide_eq_true_eq, rng_iff, Bool.or_eq_true, Bool.not_eq_true', beq_iff_eq] at h
  obtain ⟨ha, hb, hc, hd, h8, hs, he⟩ := h
  rw [w64 (by omega) (by omega)] at hs
  rw [Int.tmod_eq_emod_of_nonneg hd.1] at h8
  refine ⟨ha, hb, hc, hd, h8, hs, fun h => ?_⟩
  rcases he with he | he
  · rw [h] at he; cases he
  · exact he

/-! ### loops -/
/-- A loop upward whose rounds do nothing but go on. -/
theorem up_loop {β : Type} {F : Nat → Int → Option β} {n : Nat} {r : β} (hs : ∀ k (j : Nat), j < n → F (k + 1) (j : Int) = F k ((j + 1 : Nat) : Int)) (he : ∀ k, F (k + 1) (n : Int) = some r) :
    ∀ (d j : Nat), n - j = d → j ≤ n → ∀ k, d < k → F k (j : Int) = some r := by
  intro d
  induction d with
  | zero =>
    intro j hd hj k hk
    obtain ⟨k, rfl⟩ : ∃ m, k = m + 1 := ⟨k - 1, by omega⟩
    obtain rfl : j = n := by omega
    exact he k
  | succ d ih =>
    intro j hd hj k hk
    obtain ⟨k, rfl⟩ : ∃ m, k = m + 1 := ⟨k - 1, by omega⟩
    rw [hs k j (by omega)]
    exact ih (j + 1) (by omega) (by omega) k (by omega)
/-- A loop that turns each element of a list into one of a list that was made. -/
theorem map_loop {α β : Type} {F : Nat → List β → Int → Option (List β)} {g : α → β} {l : List α}
    (hs : ∀ k (acc : List β) (j : Nat) (hj : j < l.length), acc.length = l.length → F (k + 1) acc (j : Int) = F k (acc.set j (g l[j])) ((j + 1 : Nat) : Int))
    (he : ∀ k (acc : List β), F (k + 1) acc (l.length : Int) = some acc) :
    ∀ (d j : Nat) (acc : List β), l.length - j = d → j ≤ l.length → acc.length = l.length → (∀ i, i < j → acc[i]? = (l[i]?).map g) → ∀ k, d < k → F k acc (j : Int) = some (l.map g) := by
  intro d
  induction d with
  | zero =>
    intro j acc hd hj hl ha k hk
    obtain ⟨k, rfl⟩ : ∃ m, k = m + 1 := ⟨k - 1, by omega⟩
    obtain rfl : j = l.length := by omega
    rw [he]
    congr 1
    apply List.ext_getElem?
    intro i
    rw [List.getElem?_map]
    by_cases hi : i < l.length
    · exact ha i hi
    · rw [List.getElem?_eq_none (by omega), List.getElem?_eq_none (by omega)]; rfl
  | succ d ih =>
    intro j acc hd hj hl ha k hk
    obtain ⟨k, rfl⟩ : ∃ m, k = m + 1 := ⟨k - 1, by omega⟩
    have hjl : j < l.length := by omega
    rw [hs k acc j hjl hl]
    refine ih (j + 1) _ (by omega) (by omega) (by rw [List.length_set]; exact hl) (fun i hi => ?_) k (by omega)
    by_cases hij : i = j
    · subst hij
      rw [List.getElem?_set_self (by omega), List.getElem?_eq_getElem hjl]
      rfl
    · rw [List.getElem?_set_ne (fun h => hij h.symm)]
      exact ha i (by omega)
theorem getD_at {α : Type} {l : List α} {j : Nat} (z : α) (h : j < l.length) : l.getD (j : Int).toNat z = l[j] := by
  simp [List.getD_eq_getElem?_getD, List.getElem?_eq_getElem h]

/-! ### cutd -/
theorem cut_loop (a b c d : Int) (e : Bool) (s : ByteArray) (st : Int) (h8 : 8 ≤ st) (hst : st ≤ 160) (hs : s.size ≤ 160) : ∀ (n : Nat) (j : Int) (acc : List S62), 0 ≤ j → j ≤ 400 → (s.size : Int) - j ≤ n → acc.length + n ≤ 1000 →
    ∃ l : List S62, l.length ≤ acc.length + n ∧ ∀ k, n < k → spec_CutDgram.l0 k st acc j a b c d e s = some (l, true) ∧ impl_CutDgram.l0 k st acc j a b c d e s = some (l, true) := by
  intro n
  induction n with
  | zero =>
    intro j acc h0 h4 hn ha
    refine ⟨acc, by omega, fun k hk => ?_⟩
    obtain ⟨k, rfl⟩ : ∃ m, k = m + 1 := ⟨k - 1, by omega⟩
    simp only [spec_CutDgram.l0, impl_CutDgram.l0]
    rw [if_neg (by omega), if_neg (by omega)]
    exact ⟨rfl, rfl⟩
  | succ n ih =>
    intro j acc h0 h4 hn ha
    by_cases hj : j < (s.size : Int)
    · have hw : wrap64 (j + st) = j + st := w64 (by omega) (by omega)
      by_cases hg : j + st ≥ (s.size : Int)
      · have hm : mn (j + st) (s.size : Int) = (s.size : Int) := by unfold mn; split <;> omega
        have hd : decide ((s.size : Int) < (s.size : Int)) = false := by simp
        obtain ⟨l, hl, h⟩ := ih (j + st) (acc ++ [(⟨a, b, c, wrap64 (d + j), e, s.extract (j : Int).toNat ((s.size : Int) : Int).toNat⟩ : S62)]) (by omega) (by omega) (by omega) (by rw [List.length_append, List.length_singleton]; omega)
        rw [List.length_append, List.length_singleton] at hl
        refine ⟨l, by omega, fun k hk => ?_⟩
        obtain ⟨k, rfl⟩ : ∃ m, k = m + 1 := ⟨k - 1, by omega⟩
        have h := h k (by omega)
        simp only [spec_CutDgram.l0, impl_CutDgram.l0, hw, hm, hd]
        refine ⟨?_, ?_⟩
        · rw [if_pos hj, if_pos hg, if_pos h0, if_pos (by omega), if_pos (by omega), if_pos (by omega)]
          exact h.1
        · rw [if_pos hj, if_pos h0, if_pos (by omega), if_pos (by omega)]
          cases e
          · rw [if_neg (by simp), if_pos (by omega)]
            exact h.2
          · rw [if_pos rfl, if_pos (by omega)]
            exact h.2
      · have hm : mn (j + st) (s.size : Int) = j + st := by unfold mn; split <;> omega
        have hd : decide (j + st < (s.size : Int)) = true := by simp; omega
        obtain ⟨l, hl, h⟩ := ih (j + st) (acc ++ [(⟨a, b, c, wrap64 (d + j), true, s.extract (j : Int).toNat ((j + st) : Int).toNat⟩ : S62)]) (by omega) (by omega) (by omega) (by rw [List.length_append, List.length_singleton]; omega)
        rw [List.length_append, List.length_singleton] at hl
        refine ⟨l, by omega, fun k hk => ?_⟩
        obtain ⟨k, rfl⟩ : ∃ m, k = m + 1 := ⟨k - 1, by omega⟩
        have h := h k (by omega)
        simp only [spec_CutDgram.l0, impl_CutDgram.l0, hw, hm, hd]
        refine ⟨?_, ?_⟩
        · rw [if_pos hj, if_neg hg, if_pos h0, if_pos (by omega), if_pos (by omega), if_pos (by omega)]
          exact h.1
        · rw [if_pos hj, if_pos h0, if_pos (by omega), if_pos (by omega)]
          cases e
          · rw [if_neg (by simp), if_pos (by omega)]
            exact h.2
          · rw [if_pos rfl, if_pos (by omega)]
            exact h.2
    · refine ⟨acc, by omega, fun k hk => ?_⟩
      obtain ⟨k, rfl⟩ : ∃ m, k = m + 1 := ⟨k - 1, by omega⟩
      simp only [spec_CutDgram.l0, impl_CutDgram.l0]
      rw [if_neg hj, if_neg hj]
      exact ⟨rfl, rfl⟩
theorem cut_both (a b c d : Int) (e : Bool) (s : ByteArray) (n : Int) : ∃ (l : List S62) (ok : Bool), l.length ≤ 160 ∧ (dgB a b c d e s = false → l = [] ∧ ok = false) ∧ ∀ k, 200 < k → spec_CutDgram.f k a b c d e s n = some (l, ok) ∧ impl_CutDgram.f k a b c d e s n = some (l, ok) := by
  cases hb : dgB a b c d e s with
  | false =>
    refine ⟨[], false, by simp, fun _ => ⟨rfl, rfl⟩, fun k hk => ?_⟩
    obtain ⟨k, rfl⟩ : ∃ m, k = m + 1 := ⟨k - 1, by omega⟩
    unfold spec_CutDgram.f impl_CutDgram.f
    simp only [spec_dgB, impl_dgB, hb, Option.bind_some, Bool.false_eq_true, if_false, spec_CutDgram.j0, impl_CutDgram.j0, if_true, and_self]
  | true =>
    obtain ⟨_, _, _, _, _, hs, _⟩ := dgB_iff hb
    cases hn : rng n 8 160 with
    | false =>
      refine ⟨[], false, by simp, (fun h => by cases h), fun k hk => ?_⟩
      obtain ⟨k, rfl⟩ : ∃ m, k = m + 1 := ⟨k - 1, by omega⟩
      unfold spec_CutDgram.f impl_CutDgram.f
      simp only [spec_dgB, impl_dgB, hb, in_eq, within_eq, hn, Option.bind_some, if_true, Bool.not_false, spec_CutDgram.j0, impl_CutDgram.j0, and_self]
    | true =>
      have hr := rng_iff.1 hn
      have hst : wrap64 ((wrap64 (Int.tdiv n 8)) * 8) = n / 8 * 8 := by
        rw [Int.tdiv_eq_ediv_of_nonneg (by omega), w64 (x := n / 8) (by omega) (by omega), w64 (by omega) (by omega)]
      obtain ⟨l, hl, h⟩ := cut_loop a b c d e s (n / 8 * 8) (by omega) (by omega) (by omega) 160 0 [] (by omega) (by omega) (by omega) (by simp)
      refine ⟨l, true, by simpa using hl, (fun h => by cases h), fun k hk => ?_⟩
      obtain ⟨k, rfl⟩ : ∃ m, k = m + 1 := ⟨k - 1, by omega⟩
      unfold spec_CutDgram.f impl_CutDgram.f
      simp only [spec_dgB, impl_dgB, hb, in_eq, within_eq, hn, Option.bind_some, if_true, Bool.not_true, spec_CutDgram.j0, impl_CutDgram.j0, Bool.false_eq_true, if_false, hst]
      exact h k (by omega)

/-! ### sumones -/
set_option maxHeartbeats 4000000 in
theorem sum_loop (s : ByteArray) (hs : s.size ≤ 1048576) : ∀ (d : Nat) (i x : Int), 0 ≤ i → i % 2 = 0 → i ≤ s.size + 1 → (s.size : Int) - i ≤ 2 * d → 0 ≤ x → x ≤ 65535 →
    ∃ r, 0 ≤ r ∧ r ≤ 65535 ∧ (∀ k, d < k → spec_SumOnes.l0 k s x i = some r) ∧ (∀ k, 2 * d < k → impl_SumOnes.l0 k s x i = some r) := by
  intro d
  induction d with
  | zero =>
    intro i x hi0 _ hi hd hx0 hx1
    refine ⟨65535 - x, by omega, by omega, fun k hk => ?_, fun k hk => ?_⟩
    · obtain ⟨k, rfl⟩ : ∃ m, k = m + 1 := ⟨k - 1, by omega⟩
      simp (disch := omega) only [spec_SumOnes.l0, ineg, w64]
    · obtain ⟨k, rfl⟩ : ∃ m, k = m + 1 := ⟨k - 1, by omega⟩
      simp (disch := omega) only [impl_SumOnes.l0, ineg, w64]
  | succ d ih =>
    intro i x hi0 he hi hd hx0 hx1
    by_cases hlt : i < (s.size : Int)
    · have hb := bt_range s i
      have hm : Int.tmod i 2 = 0 := by rw [Int.tmod_eq_emod_of_nonneg hi0]; exact he
      have hm1 : ¬ Int.tmod (i + 1) 2 = 0 := by rw [Int.tmod_eq_emod_of_nonneg (by omega)]; omega
      by_cases hl1 : i + 1 < (s.size : Int)
      · have hc := bt_range s (i + 1)
        obtain ⟨r, r0, r1, ih1, ih2⟩ := ih (i + 2) (if x + (256 * bt s i + bt s (i + 1)) > 65535 then x + (256 * bt s i + bt s (i + 1)) - 65535 else x + (256 * bt s i + bt s (i + 1))) (by omega) (by omega) (by omega) (by omega) (by split <;> omega) (by split <;> omega)
        refine ⟨r, r0, r1, fun k hk => ?_, fun k hk => ?_⟩
        · obtain ⟨k, rfl⟩ : ∃ m, k = m + 1 := ⟨k - 1, by omega⟩
          have ih1 := ih1 k (by omega)
          by_cases hg : x + (256 * bt s i + bt s (i + 1)) > 65535
          · rw [if_pos hg] at ih1
            simp (disch := omega) only [spec_SumOnes.l0, ip, ineg, w64]
            exact ih1
          · rw [if_neg hg] at ih1
            simp (disch := omega) only [spec_SumOnes.l0, ip, ineg, w64]
            exact ih1
        · obtain ⟨k, rfl⟩ : ∃ m, k = m + 1 + 1 := ⟨k - 2, by omega⟩
          have ih2 := ih2 k (by omega)
          by_cases hg1 : x + bt s i * 256 > 65535
          · rw [if_pos (by omega)] at ih2
            rw [show i + 2 = i + 1 + 1 by omega, show x + (256 * bt s i + bt s (i + 1)) - 65535 = x + bt s i * 256 - 65535 + bt s (i + 1) by omega] at ih2
            simp (disch := omega) only [impl_SumOnes.l0, ip, ineg, w64]
            exact ih2
          · by_cases hg2 : x + bt s i * 256 + bt s (i + 1) > 65535
            · rw [if_pos (by omega)] at ih2
              rw [show i + 2 = i + 1 + 1 by omega, show x + (256 * bt s i + bt s (i + 1)) - 65535 = x + bt s i * 256 + bt s (i + 1) - 65535 by omega] at ih2
              simp (disch := omega) only [impl_SumOnes.l0, ip, ineg, w64]
              exact ih2
            · rw [if_neg (by omega)] at ih2
              rw [show i + 2 = i + 1 + 1 by omega, show x + (256 * bt s i + bt s (i + 1)) = x + bt s i * 256 + bt s (i + 1) by omega] at ih2
              simp (disch := omega) only [impl_SumOnes.l0, ip, ineg, w64]
              exact ih2
      · by_cases hg : x + 256 * bt s i > 65535
        · refine ⟨65535 - (x + 256 * bt s i - 65535), by omega, by omega, fun k hk => ?_, fun k hk => ?_⟩
          · obtain ⟨k, rfl⟩ : ∃ m, k = m + 1 + 1 := ⟨k - 2, by omega⟩
            simp (disch := omega) only [spec_SumOnes.l0, ip, ineg, w64]
          · obtain ⟨k, rfl⟩ : ∃ m, k = m + 1 + 1 := ⟨k - 2, by omega⟩
            simp (disch := omega) only [impl_SumOnes.l0, ip, ineg, w64, Int.mul_comm (bt s i) 256]
        · refine ⟨65535 - (x + 256 * bt s i), by omega, by omega, fun k hk => ?_, fun k hk => ?_⟩
          · obtain ⟨k, rfl⟩ : ∃ m, k = m + 1 + 1 := ⟨k - 2, by omega⟩
            simp (disch := omega) only [spec_SumOnes.l0, ip, ineg, w64]
          · obtain ⟨k, rfl⟩ : ∃ m, k = m + 1 + 1 := ⟨k - 2, by omega⟩
            simp (disch := omega) only [impl_SumOnes.l0, ip, ineg, w64, Int.mul_comm (bt s i) 256]
    · refine ⟨65535 - x, by omega, by omega, fun k hk => ?_, fun k hk => ?_⟩
      · obtain ⟨k, rfl⟩ : ∃ m, k = m + 1 := ⟨k - 1, by omega⟩
        simp (disch := omega) only [spec_SumOnes.l0, ineg, w64]
      · obtain ⟨k, rfl⟩ : ∃ m, k = m + 1 := ⟨k - 1, by omega⟩
        simp (disch := omega) only [impl_SumOnes.l0, ineg, w64]
theorem sum_both (s : ByteArray) (hs : s.size ≤ 1048576) : ∃ r, Ev (fun k => spec_SumOnes.f k s) r ∧ Ev (fun k => impl_SumOnes.f k s) r := by
  obtain ⟨r, _, _, h1, h2⟩ := sum_loop s hs (s.size + 1) 0 0 (by omega) (by omega) (by omega) (by omega) (by omega) (by omega)
  exact ⟨r, ⟨s.size + 2, fun k hk => h1 k (by omega)⟩, ⟨2 * (s.size + 1) + 1, fun k hk => h2 k (by omega)⟩⟩

/-! ### bytes -/
theorem bytes_loop (l : List Int) (hl : l.length ≤ 2000000) : ∀ (d j : Nat) (acc : List Int), l.length - j = d → j ≤ l.length → acc.length = j → ∀ k, d < k → impl_byteTexts.l0 k acc l (l.length : Int) (j : Int) = some (strOfNums (acc ++ (l.drop j).map (· % 256))) := by
  intro d
  induction d with
  | zero =>
    intro j acc hd hj ha k hk
    obtain ⟨k, rfl⟩ : ∃ m, k = m + 1 := ⟨k - 1, by omega⟩
    simp only [impl_byteTexts.l0]
    rw [if_neg (by omega), List.drop_of_length_le (by omega)]
    simp
  | succ d ih =>
    intro j acc hd hj ha k hk
    obtain ⟨k, rfl⟩ : ∃ m, k = m + 1 := ⟨k - 1, by omega⟩
    have hjl : j < l.length := by omega
    have hget : rd l (j : Int) = l[j] := by unfold rd; simp [List.getD_eq_getElem?_getD, List.getElem?_eq_getElem hjl]
    have hdrop : l.drop j = l[j] :: l.drop (j + 1) := List.drop_eq_getElem_cons hjl
    simp only [impl_byteTexts.l0]
    rw [if_pos (by omega), if_pos (by omega), if_pos (by omega), if_pos (by omega), hget, w64 (x := (j : Int) + 1) (by omega) (by omega), hdrop]
    have := ih (j + 1) (acc ++ [l[j] % 256]) (by omega) (by omega) (by rw [List.length_append, List.length_singleton]; omega) k (by omega)
    rw [List.append_assoc] at this
    exact this
theorem bytes_ok (l : List Int) (hl : l.length ≤ 2000000) : ∀ k, l.length < k → impl_byteTexts.f k l = some (strOfNums (l.map (· % 256))) := fun k hk =>
  bytes_loop l hl l.length 0 [] (by omega) (by omega) rfl k hk
theorem two_eq (n : Int) (h : 0 ≤ n ∧ n ≤ 65535) : spec_l11Two.f n = some (strOfNums [n / 256 % 256, n % 256]) := by
  unfold spec_l11Two.f
  rw [Int.tdiv_eq_ediv_of_nonneg h.1, Int.tmod_eq_emod_of_nonneg h.1, w64 (by omega) (by omega)]
  rw [show n % 256 % 256 = n % 256 by omega]
theorem word_ok (n : Int) : ∀ k, 2 < k → impl_wordText.f k n = some (strOfNums [n / 256 % 256, n % 256]) := by
  intro k hk
  unfold impl_wordText.f
  rw [bytes_ok _ (by simp) k (by simpa using hk)]
  simp only [Option.bind_some, List.map_cons, List.map_nil, and255]
  rw [show n / 256 % 256 % 256 = n / 256 % 256 by omega, show n % 256 % 256 = n % 256 by omega]

/-! ### dgram -/
theorem ones_ex (s : ByteArray) : ∃ r, 0 ≤ r ∧ r ≤ 65535 ∧ (s.size ≤ 1048576 → Ev (fun k => spec_SumOnes.f k s) r ∧ Ev (fun k => impl_SumOnes.f k s) r) := by
  by_cases hs : s.size ≤ 1048576
  · obtain ⟨r, h0, h3, h1, h2⟩ := sum_loop s hs (s.size + 1) 0 0 (by omega) (by omega) (by omega) (by omega) (by omega) (by omega)
    exact ⟨r, h0, h3, fun _ => ⟨⟨s.size + 2, fun k hk => h1 k (by omega)⟩, ⟨2 * (s.size + 1) + 1, fun k hk => h2 k (by omega)⟩⟩⟩
  · exact ⟨0, by omega, by omega, fun h => absurd h hs⟩
noncomputable def ones (s : ByteArray) : Int := (ones_ex s).choose
theorem ones_range (s : ByteArray) : 0 ≤ ones s ∧ ones s ≤ 65535 := ⟨(ones_ex s).choose_spec.1, (ones_ex s).choose_spec.2.1⟩
theorem ones_spec (s : ByteArray) (h : s.size ≤ 1048576) : Ev (fun k => spec_SumOnes.f k s) (ones s) := ((ones_ex s).choose_spec.2.2 h).1
theorem ones_impl (s : ByteArray) (h : s.size ≤ 1048576) : Ev (fun k => impl_SumOnes.f k s) (ones s) := ((ones_ex s).choose_spec.2.2 h).2
def dgH (a b c d : Int) (e : Bool) : ByteArray := strOfNums [a % 256, b % 256] ++ strOfNums [c / 256 % 256, c % 256] ++ strOfNums [wrap64 (Int.tdiv d 8) % 256, if e = true then 1 else 0]
theorem dgH_size (a b c d : Int) (e : Bool) : (dgH a b c d e).size = 6 := by
  unfold dgH
  simp only [ByteArray.size_append, strOfNums_size, List.length_cons, List.length_nil]
noncomputable def dgT (a b c d : Int) (e : Bool) (s : ByteArray) : ByteArray := dgH a b c d e ++ strOfNums [ones (dgH a b c d e) / 256 % 256, ones (dgH a b c d e) % 256] ++ s
theorem spec_head (a b c d : Int) (e : Bool) (s : ByteArray) (hc : 0 ≤ c ∧ c ≤ 65535) : spec_l11Head.f a b c d e s = some (dgH a b c d e) := by
  unfold spec_l11Head.f dgH
  cases e
  · simp only [Bool.false_eq_true, if_false, Option.bind_some, two_eq c hc]
    rw [if_pos (by simp only [strOfNums_size, List.length_cons, List.length_nil]; omega), if_pos (by simp only [ByteArray.size_append, strOfNums_size, List.length_cons, List.length_nil]; omega)]
  · simp only [if_true, Option.bind_some, two_eq c hc]
    rw [if_pos (by simp only [strOfNums_size, List.length_cons, List.length_nil]; omega), if_pos (by simp only [ByteArray.size_append, strOfNums_size, List.length_cons, List.length_nil]; omega)]
theorem spec_DgramText_ok (a b c d : Int) (e : Bool) (s : ByteArray) : Ev (fun k => spec_DgramText.f k a b c d e s) (if dgB a b c d e s = true then (dgT a b c d e s, true) else ((⟨#[]⟩ : ByteArray), false)) := by
  unfold spec_DgramText.f
  simp only [spec_dgB, Option.bind_some]
  by_cases h : dgB a b c d e s = true
  · obtain ⟨_, _, hc, hd, _, hs, _⟩ := dgB_iff h
    have h6 := dgH_size a b c d e
    simp only [if_pos h, spec_head a b c d e s hc, Option.bind_some]
    refine Ev.bind (ones_spec _ (by omega)) ?_
    simp only [two_eq _ (ones_range _), Option.bind_some]
    have h1 : (dgH a b c d e).size + (strOfNums [ones (dgH a b c d e) / 256 % 256, ones (dgH a b c d e) % 256]).size ≤ 9223372036854775807 := by rw [h6, strOfNums_size]; simp only [List.length_cons, List.length_nil]; omega
    have h2 : (dgH a b c d e ++ strOfNums [ones (dgH a b c d e) / 256 % 256, ones (dgH a b c d e) % 256]).size + s.size ≤ 9223372036854775807 := by rw [ByteArray.size_append, h6, strOfNums_size]; simp only [List.length_cons, List.length_nil]; omega
    simp only [if_pos h1, if_pos h2]
    exact Ev.now _
  · simp only [if_neg h]
    exact Ev.now _
theorem impl_DgramText_ok (a b c d : Int) (e : Bool) (s : ByteArray) : Ev (fun k => impl_DgramText.f k a b c d e s) (if dgB a b c d e s = true then (dgT a b c d e s, true) else ((⟨#[]⟩ : ByteArray), false)) := by
  unfold impl_DgramText.f
  simp only [impl_dgB, Option.bind_some]
  by_cases h : dgB a b c d e s = true
  · obtain ⟨_, _, hc, hd, _, hs, _⟩ := dgB_iff h
    have h6 := dgH_size a b c d e
    simp only [if_pos h]
    refine Ev.bind ⟨3, fun k hk => bytes_ok [a, b] (by simp) k (by simp only [List.length_cons, List.length_nil]; omega)⟩ ?_
    refine Ev.bind ⟨3, fun k hk => word_ok c k (by omega)⟩ ?_
    have h0 : (strOfNums ([a, b].map (· % 256))).size + (strOfNums [c / 256 % 256, c % 256]).size ≤ 9223372036854775807 := by rw [strOfNums_size, strOfNums_size]; simp
    simp only [if_pos h0]
    have hf : impl_flag.f e = some (if e = true then 1 else 0) := by unfold impl_flag.f; cases e <;> rfl
    simp only [hf, Option.bind_some]
    refine Ev.bind ⟨3, fun k hk => bytes_ok [wrap64 (Int.tdiv d 8), if e = true then 1 else 0] (by simp) k (by simp only [List.length_cons, List.length_nil]; omega)⟩ ?_
    have e1 : strOfNums ([a, b].map (· % 256)) ++ strOfNums [c / 256 % 256, c % 256] ++ strOfNums ([wrap64 (Int.tdiv d 8), if e = true then (1 : Int) else 0].map (· % 256)) = dgH a b c d e := by
      unfold dgH
      cases e <;> rfl
    have h3 : (strOfNums ([a, b].map (· % 256)) ++ strOfNums [c / 256 % 256, c % 256]).size + (strOfNums ([wrap64 (Int.tdiv d 8), if e = true then (1 : Int) else 0].map (· % 256))).size ≤ 9223372036854775807 := by
      rw [ByteArray.size_append, strOfNums_size, strOfNums_size, strOfNums_size]; simp
    simp only [if_pos h3, e1]
    refine Ev.bind (ones_impl _ (by omega)) ?_
    refine Ev.bind ⟨3, fun k hk => word_ok _ k (by omega)⟩ ?_
    have h1 : (dgH a b c d e).size + (strOfNums [ones (dgH a b c d e) / 256 % 256, ones (dgH a b c d e) % 256]).size ≤ 9223372036854775807 := by rw [h6, strOfNums_size]; simp only [List.length_cons, List.length_nil]; omega
    have h2 : (dgH a b c d e ++ strOfNums [ones (dgH a b c d e) / 256 % 256, ones (dgH a b c d e) % 256]).size + s.size ≤ 9223372036854775807 := by rw [ByteArray.size_append, h6, strOfNums_size]; simp only [List.length_cons, List.length_nil]; omega
    simp only [if_pos h1, if_pos h2]
    exact Ev.now _
  · simp only [if_neg h]
    exact Ev.now _

/-! ### bl -/
theorem bl_inj {s t : ByteArray} (h : bytesOf s = bytesOf t) : s = t := by
  unfold bytesOf at h
  have h2 : s.data.toList = t.data.toList := by
    apply List.ext_getElem?
    intro i
    have h3 := congrArg (fun l => l[i]?) h
    simp only [List.getElem?_map] at h3
    cases h4 : s.data.toList[i]? <;> cases h5 : t.data.toList[i]? <;> rw [h4, h5] at h3 <;> simp at h3 ⊢
    exact UInt8.toNat_inj.1 (by omega)
  exact ByteArray.ext (by rw [← Array.toArray_toList (xs := s.data), h2])
theorem bl_app (s t : ByteArray) : bytesOf (s ++ t) = bytesOf s ++ bytesOf t := by
  unfold bytesOf
  rw [ByteArray.toList_data_append, List.map_append]
theorem bl_ext (s : ByteArray) (a b : Nat) : bytesOf (s.extract a b) = ((bytesOf s).drop a).take (b - a) := by
  unfold bytesOf
  rw [ByteArray.data_extract, Array.toList_extract, ← List.map_drop, ← List.map_take] <;> simp [List.extract_eq_drop_take]
theorem bl_range {s : ByteArray} : ∀ x ∈ bytesOf s, 0 ≤ x ∧ x ≤ 255 := by
  intro x hx
  obtain ⟨b, _, rfl⟩ := List.mem_map.1 hx
  have := b.toNat_lt
  omega
theorem bl_str {l : List Int} (h : ∀ x ∈ l, 0 ≤ x ∧ x ≤ 255) : bytesOf (strOfNums l) = l := by
  unfold bytesOf
  rw [strOfNums_data, List.map_map]
  have : ∀ x ∈ l, ((fun b : UInt8 => (b.toNat : Int)) ∘ fun n : Int => UInt8.ofNat n.toNat) x = x := by
    intro x hx
    have := h x hx
    simp only [Function.comp, UInt8.toNat_ofNat']
    omega
  rw [List.map_congr_left this, List.map_id']
theorem str_bl (s : ByteArray) : strOfNums (bytesOf s) = s := bl_inj (bl_str bl_range)
theorem bl_empty : bytesOf (⟨#[]⟩ : ByteArray) = [] := rfl
theorem bt_bl (s : ByteArray) (i : Int) : bt s i = rd (bytesOf s) i := (rd_bytesOf s i).symm
theorem toList_iff {s t : ByteArray} : s.toList = t.toList ↔ s = t := by
  rw [ByteArray.toList_eq, ByteArray.toList_eq]
  constructor
  · intro h; exact ByteArray.ext (by rw [← Array.toArray_toList (xs := s.data), h])
  · intro h; rw [h]
theorem toList_nil {s : ByteArray} : s.toList = ([] : List UInt8) ↔ bytesOf s = [] := by
  rw [ByteArray.toList_eq]
  unfold bytesOf
  simp

/-! ### sum -/
def bitM (x : Int) : Int := if Int.tmod x 2 = 1 then Go.bits .xor .u32 ((Int.tdiv x 2) % 4294967296) 3558460437 else (Int.tdiv x 2) % 4294967296
def bit8 (x : Int) : Int := bitM (bitM (bitM (bitM (bitM (bitM (bitM (bitM x)))))))
def sumB (s : Int) (l : List Int) : Int := l.foldl (fun s b => bit8 (Go.bits .xor .u32 s (b % 4294967296))) s
theorem xor_u32 (a b : Int) : 0 ≤ Go.bits .xor .u32 a b ∧ Go.bits .xor .u32 a b < 4294967296 := by
  simp only [Go.bits]
  rw [IntKind.wrap_u32]
  omega
theorem bitM_range (x : Int) : 0 ≤ bitM x ∧ bitM x < 4294967296 := by
  unfold bitM
  split
  · exact xor_u32 _ _
  · omega
theorem sumB_range (s : Int) (h : 0 ≤ s ∧ s < 4294967296) (l : List Int) : 0 ≤ sumB s l ∧ sumB s l < 4294967296 := by
  unfold sumB
  induction l generalizing s with
  | nil => exact h
  | cons b l ih => exact ih _ (bitM_range _)
theorem spec_bits (s : ByteArray) (i : Int) {r : Int} (x : Int) (h : Ev (fun k => spec_SumMore.l0 k (bit8 x) s (wrap64 (i + 1))) r) : Ev (fun k => spec_SumMore.l1 k x s i 0) r := by
  have step : ∀ (j : Int) (x : Int), 0 ≤ j → j < 8 → Ev (fun k => spec_SumMore.l1 k (bitM x) s i (j + 1)) r → Ev (fun k => spec_SumMore.l1 k x s i j) r := by
    intro j x h0 h1 h
    refine Ev.step (fun k => ?_) h
    simp only [spec_SumMore.l1]
    rw [if_pos h1, w64 (x := j + 1) (by omega) (by omega)]
    unfold bitM
    split <;> rfl
  refine step 0 _ (by omega) (by omega) (step 1 _ (by omega) (by omega) (step 2 _ (by omega) (by omega) (step 3 _ (by omega) (by omega) (step 4 _ (by omega) (by omega) (step 5 _ (by omega) (by omega) (step 6 _ (by omega) (by omega) (step 7 _ (by omega) (by omega) ?_)))))))
  refine Ev.step (fun k => ?_) h
  simp only [spec_SumMore.l1]
  rw [if_neg (by omega)]
  rfl
theorem spec_sum_loop (s : ByteArray) (hs : s.size ≤ 9000000000000000000) : ∀ (d j : Nat) (x : Int), s.size - j = d → j ≤ s.size → Ev (fun k => spec_SumMore.l0 k x s (j : Int)) (sumB x ((bytesOf s).drop j)) := by
  have hl := bytesOf_length s
  intro d
  induction d with
  | zero =>
    intro j x hd hj
    rw [List.drop_of_length_le (by omega)]
    refine Ev.step (f := fun _ => some x) (fun k => ?_) (Ev.now _)
    simp only [spec_SumMore.l0]
    rw [if_neg (by omega)]
  | succ d ih =>
    intro j x hd hj
    have hjl : j < (bytesOf s).length := by omega
    rw [List.drop_eq_getElem_cons hjl]
    have hb : bt s (j : Int) = (bytesOf s)[j] := by rw [bt_bl]; unfold rd; rw [List.getD_eq_getElem?_getD, Int.toNat_natCast, List.getElem?_eq_getElem hjl]; rfl
    refine Ev.step (f := fun k => spec_SumMore.l1 k (Go.bits .xor .u32 x ((bytesOf s)[j] % 4294967296)) s (j : Int) 0) (fun k => ?_) ?_
    · simp only [spec_SumMore.l0]
      rw [if_pos (by omega), if_pos (by omega), hb]
    · refine spec_bits s _ _ ?_
      rw [w64 (x := (j : Int) + 1) (by omega) (by omega)]
      exact ih (j + 1) _ (by omega) (by omega)
theorem spec_SumMore_ok (x : Int) (s : ByteArray) (hs : s.size ≤ 9000000000000000000) : Ev (fun k => spec_SumMore.f k x s) (sumB x (bytesOf s)) := spec_sum_loop s hs s.size 0 x (by omega) (by omega)
theorem spec_SumOf_ok (s : ByteArray) (hs : s.size ≤ 9000000000000000000) : Ev (fun k => spec_SumOf.f k s) (sumB 4294967295 (bytesOf s)) := Ev.bind (spec_SumMore_ok _ s hs) (Ev.now _)
theorem impl_bits (s : ByteArray) (i : Int) {r : Int} (x : Int) (h : Ev (fun k => impl_SumMore.l0 k (bit8 x) s (wrap64 (i + 1))) r) : Ev (fun k => impl_SumMore.l1 k x s i 0) r := by
  have step : ∀ (j : Int) (x : Int), 0 ≤ j → j < 8 → Ev (fun k => impl_SumMore.l1 k (bitM x) s i (j + 1)) r → Ev (fun k => impl_SumMore.l1 k x s i j) r := by
    intro j x h0 h1 h
    refine Ev.step (fun k => ?_) h
    simp only [impl_SumMore.l1]
    rw [if_pos h1, w64 (x := j + 1) (by omega) (by omega)]
    unfold bitM
    split <;> rfl
  refine step 0 _ (by omega) (by omega) (step 1 _ (by omega) (by omega) (step 2 _ (by omega) (by omega) (step 3 _ (by omega) (by omega) (step 4 _ (by omega) (by omega) (step 5 _ (by omega) (by omega) (step 6 _ (by omega) (by omega) (step 7 _ (by omega) (by omega) ?_)))))))
  refine Ev.step (fun k => ?_) h
  simp only [impl_SumMore.l1]
  rw [if_neg (by omega)]
  rfl
theorem impl_sum_loop (s : ByteArray) (hs : s.size ≤ 9000000000000000000) : ∀ (d j : Nat) (x : Int), s.size - j = d → j ≤ s.size → Ev (fun k => impl_SumMore.l0 k x s (j : Int)) (sumB x ((bytesOf s).drop j)) := by
  have hl := bytesOf_length s
  intro d
  induction d with
  | zero =>
    intro j x hd hj
    rw [List.drop_of_length_le (by omega)]
    refine Ev.step (f := fun _ => some x) (fun k => ?_) (Ev.now _)
    simp only [impl_SumMore.l0]
    rw [if_neg (by omega)]
  | succ d ih =>
    intro j x hd hj
    have hjl : j < (bytesOf s).length := by omega
    rw [List.drop_eq_getElem_cons hjl]
    have hb : bt s (j : Int) = (bytesOf s)[j] := by rw [bt_bl]; unfold rd; rw [List.getD_eq_getElem?_getD, Int.toNat_natCast, List.getElem?_eq_getElem hjl]; rfl
    refine Ev.step (f := fun k => impl_SumMore.l1 k (Go.bits .xor .u32 x ((bytesOf s)[j] % 4294967296)) s (j : Int) 0) (fun k => ?_) ?_
    · simp only [impl_SumMore.l0]
      rw [if_pos (by omega), if_pos (by omega), hb]
    · refine impl_bits s _ _ ?_
      rw [w64 (x := (j : Int) + 1) (by omega) (by omega)]
      exact ih (j + 1) _ (by omega) (by omega)
theorem impl_SumMore_ok (x : Int) (s : ByteArray) (hs : s.size ≤ 9000000000000000000) : Ev (fun k => impl_SumMore.f k x s) (sumB x (bytesOf s)) := impl_sum_loop s hs s.size 0 x (by omega) (by omega)
theorem impl_SumOf_ok (s : ByteArray) (hs : s.size ≤ 9000000000000000000) : Ev (fun k => impl_SumOf.f k s) (sumB 4294967295 (bytesOf s)) := Ev.bind (impl_SumMore_ok _ s hs) (Ev.now _)

/-! ### sealed -/
def four (x : Int) : ByteArray := strOfNums [x / 16777216 % 256, x / 65536 % 256, x / 256 % 256, x % 256]
def sumT (s : ByteArray) : ByteArray := four (sumB 4294967295 (bytesOf s))
theorem four_size (x : Int) : (four x).size = 4 := by unfold four; rw [strOfNums_size]; rfl
theorem sumT_size (s : ByteArray) : (sumT s).size = 4 := four_size _
theorem highFirst_ok (x : Int) : ∀ k, 5 < k → impl_highFirst.f k x 4 = some (four x) := by
  intro k hk
  obtain ⟨k, rfl⟩ : ∃ m, k = m + 5 := ⟨k - 5, by omega⟩
  unfold impl_highFirst.f
  rw [if_pos (by omega), if_pos (by decide), w64 (by omega) (by omega)]
  have h3 : List.replicate (4 : Int).toNat (0 : Int) = [0, 0, 0, 0] := rfl
  rw [h3]
  simp only [impl_highFirst.l0, and255]
  rw [if_pos (by omega), if_pos (by omega), if_pos (by simp), w64 (x := (4 - 1 : Int) - 1) (by omega) (by omega)]
  rw [if_pos (by omega), if_pos (by omega), if_pos (by simp), w64 (x := (4 - 1 : Int) - 1 - 1) (by omega) (by omega)]
  rw [if_pos (by omega), if_pos (by omega), if_pos (by simp), w64 (x := (4 - 1 : Int) - 1 - 1 - 1) (by omega) (by omega)]
  rw [if_pos (by omega), if_pos (by omega), if_pos (by simp), w64 (x := (4 - 1 : Int) - 1 - 1 - 1 - 1) (by omega) (by omega)]
  rw [if_neg (by omega)]
  have e : ((([(0 : Int), 0, 0, 0].set ((4 - 1 : Int)).toNat (x % 256 % 256)).set ((4 - 1 : Int) - 1).toNat (x / 256 % 256 % 256)).set ((4 - 1 : Int) - 1 - 1).toNat (x / 256 / 256 % 256 % 256)).set ((4 - 1 : Int) - 1 - 1 - 1).toNat (x / 256 / 256 / 256 % 256 % 256) = [x / 256 / 256 / 256 % 256 % 256, x / 256 / 256 % 256 % 256, x / 256 % 256 % 256, x % 256 % 256] := rfl
  rw [e]
  unfold four
  congr 2
  have h1 : x / 256 / 256 / 256 % 256 % 256 = x / 16777216 % 256 := by omega
  have h2 : x / 256 / 256 % 256 % 256 = x / 65536 % 256 := by omega
  have h4 : x / 256 % 256 % 256 = x / 256 % 256 := by omega
  have h5 : x % 256 % 256 = x % 256 := by omega
  rw [h1, h2, h4, h5]
theorem l02Four_eq (x : Int) : spec_l02Four.f x = some (four x) := rfl
theorem impl_Sealed_ok (s : ByteArray) : ∃ K, ∀ k, K ≤ k → impl_Sealed.f k s = some (if s.size ≤ 20000 then (s ++ sumT s, true) else ((⟨#[]⟩ : ByteArray), false)) := by
  by_cases h : s.size ≤ 20000
  · obtain ⟨K, hK⟩ := impl_SumOf_ok s (by omega)
    refine ⟨K + 6, fun k hk => ?_⟩
    have hr := sumB_range 4294967295 (by omega) (bytesOf s)
    have hK' : impl_SumOf.f k s = some (sumB 4294967295 (bytesOf s)) := hK k (by omega)
    unfold impl_Sealed.f
    rw [if_neg (by omega), hK']
    simp only [Option.bind_some]
    rw [w64 (by omega) (by omega), highFirst_ok _ k (by omega)]
    simp only [Option.bind_some]
    rw [if_pos (by rw [four_size]; omega), if_pos h]
    rfl
  · refine ⟨0, fun k _ => ?_⟩
    unfold impl_Sealed.f
    rw [if_pos (by omega), if_neg h]
theorem spec_Sealed_ok (s : ByteArray) : ∃ K, ∀ k, K ≤ k → spec_Sealed.f k s = some (if s.size ≤ 20000 then (s ++ sumT s, true) else ((⟨#[]⟩ : ByteArray), false)) := by
  by_cases h : s.size ≤ 20000
  · obtain ⟨K, hK⟩ := spec_SumOf_ok s (by omega)
    refine ⟨K, fun k hk => ?_⟩
    have hK' : spec_SumOf.f k s = some (sumB 4294967295 (bytesOf s)) := hK k (by omega)
    unfold spec_Sealed.f
    rw [if_neg (by omega), hK']
    simp only [Option.bind_some, l02Four_eq]
    rw [if_pos (by rw [four_size]; omega), if_pos h]
    rfl
  · refine ⟨0, fun k _ => ?_⟩
    unfold spec_Sealed.f
    rw [if_pos (by omega), if_neg h]
/-- What is Unsealed. -/
def unB (s : ByteArray) : ByteArray × Bool :=
  if 4 ≤ s.size ∧ s.size ≤ 20004 ∧ s.extract (s.size - 4) s.size = sumT (s.extract 0 (s.size - 4)) then (s.extract 0 (s.size - 4), true) else ((⟨#[]⟩ : ByteArray), false)
theorem split_at (s : ByteArray) (n : Nat) (h : n ≤ s.size) : s.extract 0 n ++ s.extract n s.size = s := by
  rw [ByteArray.extract_append_extract]
  rw [Nat.min_eq_left (Nat.zero_le _), Nat.max_eq_right h, ByteArray.extract_zero_size]

/-! ### scan -/

/-! ### cell -/
def cellB (a b c : Int) (s : ByteArray) : Bool := rng a 0 99 && rng b 1 99 && rng c 1 3 && decide (s.size ≤ 60)
theorem spec_CellOk_eq (a b c : Int) (s : ByteArray) : spec_CellOk.f a b c s = some (cellB a b c s) := by
  unfold spec_CellOk.f cellB
  simp only [in_eq, Option.bind_some]
  have h : ((s.size : Int) ≤ 60) ↔ s.size ≤ 60 := by omega
  cases rng a 0 99 <;> cases rng b 1 99 <;> cases rng c 1 3 <;> simp [h]
theorem impl_CellOk_eq (a b c : Int) (s : ByteArray) : impl_CellOk.f a b c s = some (cellB a b c s) := by
  unfold impl_CellOk.f impl_isAddr.f cellB
  simp only [within_eq, Option.bind_some]
  have h : ((s.size : Int) ≤ 60) ↔ s.size ≤ 60 := by omega
  cases rng a 0 99 <;> cases rng b 1 99 <;> cases rng c 1 3 <;> simp [h]
def noCell : Int × Int × Int × ByteArray × Bool := (0, 0, 0, (⟨#[]⟩ : ByteArray), false)
/-- The frame that bytes are, when they are one. -/
def readCellB (s : ByteArray) : Int × Int × Int × ByteArray × Bool :=
  if (unB s).2 = true ∧ 3 ≤ (unB s).1.size ∧ cellB (bt (unB s).1 0) (bt (unB s).1 1) (bt (unB s).1 2) ((unB s).1.extract 3 (unB s).1.size) = true then
    (bt (unB s).1 0, bt (unB s).1 1, bt (unB s).1 2, (unB s).1.extract 3 (unB s).1.size, true) else noCell
theorem unB_size (s : ByteArray) : (unB s).1.size ≤ 20000 := by
  unfold unB
  split
  · rename_i h; simp only [ByteArray.size_extract]; omega
  · simp; decide

/-! ### celltext -/
theorem spec_CellText_ok (a b c : Int) (s : ByteArray) : ∃ K, ∀ k, K ≤ k → spec_CellText.f k a b c s = some (if cellB a b c s = true then (strOfNums [a % 256, b % 256, c % 256] ++ s ++ sumT (strOfNums [a % 256, b % 256, c % 256] ++ s), true) else ((⟨#[]⟩ : ByteArray), false)) := by
  by_cases h : cellB a b c s = true
  · have hs : s.size ≤ 60 := by
      unfold cellB at h
      simp only [Bool.and_eq_true, decide_eq_true_eq] at h
      exact h.2
    have hz : (strOfNums [a % 256, b % 256, c % 256]).size = 3 := by rw [strOfNums_size]; rfl
    obtain ⟨K, hK⟩ := spec_Sealed_ok (strOfNums [a % 256, b % 256, c % 256] ++ s)
    refine ⟨K, fun k hk => ?_⟩
    unfold spec_CellText.f
    rw [spec_CellOk_eq]
    simp only [Option.bind_some]
    rw [if_pos h, if_pos (by omega), hK k hk, if_pos (by rw [ByteArray.size_append]; omega), if_pos h]
    rfl
  · refine ⟨0, fun k _ => ?_⟩
    unfold spec_CellText.f
    rw [spec_CellOk_eq]
    simp only [Option.bind_some]
    rw [if_neg h, if_neg h]
theorem impl_CellText_ok (a b c : Int) (s : ByteArray) : ∃ K, ∀ k, K ≤ k → impl_CellText.f k a b c s = some (if cellB a b c s = true then (strOfNums [a % 256, b % 256, c % 256] ++ s ++ sumT (strOfNums [a % 256, b % 256, c % 256] ++ s), true) else ((⟨#[]⟩ : ByteArray), false)) := by
  by_cases h : cellB a b c s = true
  · have hs : s.size ≤ 60 := by
      unfold cellB at h
      simp only [Bool.and_eq_true, decide_eq_true_eq] at h
      exact h.2
    have hz : (strOfNums [a % 256, b % 256, c % 256]).size = 3 := by rw [strOfNums_size]; rfl
    obtain ⟨K, hK⟩ := impl_Sealed_ok (strOfNums [a % 256, b % 256, c % 256] ++ s)
    refine ⟨K + 4, fun k hk => ?_⟩
    unfold impl_CellText.f
    rw [impl_CellOk_eq]
    simp only [Option.bind_some]
    rw [if_pos h, bytes_ok _ (by simp) k (by simp only [List.length_cons, List.length_nil]; omega)]
    simp only [Option.bind_some, List.map_cons, List.map_nil]
    rw [if_pos (by omega), hK k (by omega), if_pos (by rw [ByteArray.size_append]; omega), if_pos h]
    rfl
  · refine ⟨0, fun k _ => ?_⟩
    unfold impl_CellText.f
    rw [impl_CellOk_eq]
    simp only [Option.bind_some]
    rw [if_neg h, if_neg h]

/-! ### segok -/
def segB (n a f : Int) (s : ByteArray) : Bool :=
  rng n 0 65535 && rng a 0 65535 && rng f 0 7 && decide (s.size ≤ 8) && (decide (s.toList = []) || decide (f % 2 = 0)) && (decide (a = 0) || decide (f / 2 % 2 = 1))
theorem and2_flag (f : Int) (h : 0 ≤ f ∧ f ≤ 7) : Go.bits .and .i64 f 2 = 2 * (f / 2 % 2) := by
  have : f = 0 ∨ f = 1 ∨ f = 2 ∨ f = 3 ∨ f = 4 ∨ f = 5 ∨ f = 6 ∨ f = 7 := by omega
  rcases this with rfl | rfl | rfl | rfl | rfl | rfl | rfl | rfl <;> decide +kernel
theorem has1_eq (n a f : Int) (s : ByteArray) (h : 0 ≤ f ∧ f ≤ 7) : spec_l12Has.f n a f s 1 = some (decide (f % 2 = 1)) := by
  unfold spec_l12Has.f
  rw [if_neg (by decide), Int.tdiv_one, w64 (by omega) (by omega), Int.tmod_eq_emod_of_nonneg h.1]
  rfl
theorem has2_eq (n a f : Int) (s : ByteArray) (h : 0 ≤ f ∧ f ≤ 7) : spec_l12Has.f n a f s 2 = some (decide (f / 2 % 2 = 1)) := by
  unfold spec_l12Has.f
  rw [if_neg (by decide), Int.tdiv_eq_ediv_of_nonneg h.1, w64 (by omega) (by omega), Int.tmod_eq_emod_of_nonneg (by omega)]
  rfl
theorem spec_segOk_eq (n a f : Int) (s : ByteArray) : ∀ k, 0 < k → spec_SegOk.f k n a f s = some (segB n a f s) := by
  intro k hk
  obtain ⟨k, rfl⟩ : ∃ m, k = m + 1 := ⟨k - 1, by omega⟩
  unfold spec_SegOk.f segB
  simp only [in_eq, Option.bind_some, spec_SegOk.j0]
  cases h1 : rng n 0 65535
  · simp
  cases h2 : rng a 0 65535
  · simp
  cases h3 : rng f 0 7
  · simp
  have hf := rng_iff.1 h3
  simp only [if_true, has1_eq n a f s hf, has2_eq n a f s hf, Option.bind_some]
  by_cases h4 : (s.size : Int) > 8
  · have : ¬ s.size ≤ 8 := by omega
    simp [h4, this]
  · have : s.size ≤ 8 := by omega
    have h01 : f % 2 = 0 ∨ f % 2 = 1 := by omega
    by_cases h5 : s.toList = [] <;> by_cases h7 : f / 2 % 2 = 1 <;> by_cases h8 : a = 0 <;> rcases h01 with h6 | h6 <;> simp [h4, this, h5, h6, h7, h8]
theorem impl_segOk_eq (n a f : Int) (s : ByteArray) : impl_SegOk.f n a f s = some (segB n a f s) := by
  unfold impl_SegOk.f impl_isWord.f segB
  simp only [within_eq, Option.bind_some]
  cases h1 : rng n 0 65535
  · simp
  cases h2 : rng a 0 65535
  · simp
  cases h3 : rng f 0 7
  · simp
  have hf := rng_iff.1 h3
  simp only [if_true, and1, and2_flag f hf]
  by_cases h4 : (s.size : Int) > 8
  · have : ¬ s.size ≤ 8 := by omega
    simp [h4, this]
  · have : s.size ≤ 8 := by omega
    have h01 : f % 2 = 0 ∨ f % 2 = 1 := by omega
    have h02 : f / 2 % 2 = 0 ∨ f / 2 % 2 = 1 := by omega
    by_cases h5 : s.toList = [] <;> by_cases h8 : a = 0 <;> rcases h01 with h6 | h6 <;> rcases h02 with h7 | h7 <;> simp [h4, this, h5, h6, h7, h8]

/-! ### segtext -/
def segT (n a f : Int) (s : ByteArray) : ByteArray := strOfNums [n / 256 % 256, n % 256] ++ strOfNums [a / 256 % 256, a % 256] ++ strOfNums [f % 256] ++ s
theorem spec_segText_eq (n a f : Int) (s : ByteArray) : ∀ k, 0 < k → spec_SegText.f k n a f s = some (if segB n a f s = true then (segT n a f s, true) else ((⟨#[]⟩ : ByteArray), false)) := by
  intro k hk
  unfold spec_SegText.f
  rw [spec_segOk_eq n a f s k hk]
  simp only [Option.bind_some]
  by_cases h : segB n a f s = true
  · have h' := h
    unfold segB at h'
    simp only [Bool.and_eq_true, decide_eq_true_eq, rng_iff] at h'
    rw [if_pos h, if_pos h, two_eq n h'.1.1.1.1.1, two_eq a h'.1.1.1.1.2]
    simp only [Option.bind_some, ByteArray.size_append, strOfNums_size, List.length_cons, List.length_nil]
    rw [if_pos (by omega), if_pos (by omega), if_pos (by omega)]
    rfl
  · rw [if_neg h, if_neg h]
theorem impl_segText_eq (n a f : Int) (s : ByteArray) : ∀ k, 2 < k → impl_SegText.f k n a f s = some (if segB n a f s = true then (segT n a f s, true) else ((⟨#[]⟩ : ByteArray), false)) := by
  intro k hk
  unfold impl_SegText.f
  rw [impl_segOk_eq n a f s]
  simp only [Option.bind_some]
  by_cases h : segB n a f s = true
  · have h' := h
    unfold segB at h'
    simp only [Bool.and_eq_true, decide_eq_true_eq, rng_iff] at h'
    rw [if_pos h, if_pos h, word_ok n k hk, word_ok a k hk, bytes_ok _ (by simp) k (by simp; omega)]
    simp only [Option.bind_some, ByteArray.size_append, strOfNums_size, List.length_cons, List.length_nil, List.map_cons, List.map_nil]
    rw [if_pos (by omega), if_pos (by omega), if_pos (by omega)]
    rfl
  · rw [if_neg h, if_neg h]

/-! ### wrap -/
noncomputable def dgO (d : S62) : ByteArray × Bool := if dgB d.f0 d.f1 d.f2 d.f3 d.f4 d.f5 = true then (dgT d.f0 d.f1 d.f2 d.f3 d.f4 d.f5, true) else ((⟨#[]⟩ : ByteArray), false)
def cellO (a b c : Int) (s : ByteArray) : ByteArray × Bool := if cellB a b c s = true then (strOfNums [a % 256, b % 256, c % 256] ++ s ++ sumT (strOfNums [a % 256, b % 256, c % 256] ++ s), true) else ((⟨#[]⟩ : ByteArray), false)
noncomputable def wrapL (p q : Int) : List S62 → List ByteArray → List ByteArray × Bool
  | [], acc => (acc, true)
  | d :: l, acc => if (cellO q p 1 (dgO d).1).2 = true then wrapL p q l (acc ++ [(cellO q p 1 (dgO d).1).1]) else ([], false)
theorem wrapL_len (p q : Int) : ∀ (l : List S62) (acc : List ByteArray), (wrapL p q l acc).1.length ≤ acc.length + l.length := by
  intro l
  induction l with
  | nil => intro acc; show acc.length ≤ _; omega
  | cons d l ih =>
    intro acc
    unfold wrapL
    split
    · have := ih (acc ++ [(cellO q p 1 (dgO d).1).1])
      rw [List.length_append, List.length_singleton] at this
      rw [List.length_cons]
      omega
    · simp
theorem rdD_at {l : List S62} {j : Nat} (h : j < l.length) : rd_T62 l (j : Int) = l[j] := by unfold rd_T62; exact getD_at _ h
theorem spec_wrap_loop (p q : Int) (l : List S62) (hl : l.length ≤ 1000) : ∀ (d j : Nat) (acc : List ByteArray), l.length - j = d → j ≤ l.length → acc.length = j → Ev (fun k => spec_Wrap.l0 k p q l acc (j : Int)) (wrapL p q (l.drop j) acc) := by
  intro d
  induction d with
  | zero =>
    intro j acc hd hj ha
    rw [List.drop_of_length_le (by omega)]
    exact Ev.step (f := fun _ => some (acc, true)) (fun k => by simp only [spec_Wrap.l0]; rw [if_neg (by omega)]) (Ev.now _)
  | succ d ih =>
    intro j acc hd hj ha
    have hjl : j < l.length := by omega
    have e1 : Ev (fun k => spec_DgramText.f k l[j].f0 l[j].f1 l[j].f2 l[j].f3 l[j].f4 l[j].f5) (dgO l[j]) := spec_DgramText_ok _ _ _ _ _ _
    have e2 : Ev (fun k => spec_CellText.f k q p 1 (dgO l[j]).1) (cellO q p 1 (dgO l[j]).1) := spec_CellText_ok _ _ _ _
    refine Ev.step (fun k => by simp only [spec_Wrap.l0]; rw [if_pos (by omega), if_pos (by omega), rdD_at hjl, w64 (x := (j : Int) + 1) (by omega) (by omega)]) ?_
    refine Ev.bind e1 ?_
    refine Ev.bind e2 ?_
    rw [List.drop_eq_getElem_cons hjl]
    unfold wrapL
    by_cases hc : (cellO q p 1 (dgO l[j]).1).2 = true
    · simp only [if_pos hc, if_pos (show acc.length < 8796093022208 by omega)]
      exact ih (j + 1) (acc ++ [(cellO q p 1 (dgO l[j]).1).1]) (by omega) (by omega) (by rw [List.length_append, List.length_singleton]; omega)
    · simp only [if_neg hc]
      exact Ev.now _
theorem impl_wrap_loop (p q : Int) (l : List S62) (hl : l.length ≤ 1000) : ∀ (d j : Nat) (acc : List ByteArray), l.length - j = d → j ≤ l.length → acc.length = j → Ev (fun k => impl_Wrap.l0 k p q acc l (l.length : Int) (j : Int)) (wrapL p q (l.drop j) acc) := by
  intro d
  induction d with
  | zero =>
    intro j acc hd hj ha
    rw [List.drop_of_length_le (by omega)]
    exact Ev.step (f := fun _ => some (acc, true)) (fun k => by simp only [impl_Wrap.l0]; rw [if_neg (by omega)]) (Ev.now _)
  | succ d ih =>
    intro j acc hd hj ha
    have hjl : j < l.length := by omega
    have e1 : Ev (fun k => impl_DgramText.f k l[j].f0 l[j].f1 l[j].f2 l[j].f3 l[j].f4 l[j].f5) (dgO l[j]) := impl_DgramText_ok _ _ _ _ _ _
    have e2 : Ev (fun k => impl_CellText.f k q p 1 (dgO l[j]).1) (cellO q p 1 (dgO l[j]).1) := impl_CellText_ok _ _ _ _
    refine Ev.step (fun k => by simp only [impl_Wrap.l0]; rw [if_pos (by omega), if_pos (by omega), if_pos (by omega), rdD_at hjl, w64 (x := (j : Int) + 1) (by omega) (by omega)]) ?_
    refine Ev.bind e1 ?_
    refine Ev.bind e2 ?_
    rw [List.drop_eq_getElem_cons hjl]
    unfold wrapL
    by_cases hc : (cellO q p 1 (dgO l[j]).1).2 = true
    · simp only [if_pos hc, if_pos (show acc.length < 8796093022208 by omega)]
      exact ih (j + 1) (acc ++ [(cellO q p 1 (dgO l[j]).1).1]) (by omega) (by omega) (by rw [List.length_append, List.length_singleton]; omega)
    · simp only [if_neg hc]
      exact Ev.now _
theorem wrap_both (n a f : Int) (s : ByteArray) (p q i : Int) : ∃ (r : List ByteArray) (ok : Bool), r.length ≤ 160 ∧ Ev (fun k => spec_Wrap.f k n a f s p q i) (r, ok) ∧ Ev (fun k => impl_Wrap.f k n a f s p q i) (r, ok) := by
  have e1 : Ev (fun k => spec_SegText.f k n a f s) (if segB n a f s = true then (segT n a f s, true) else ((⟨#[]⟩ : ByteArray), false)) := ⟨3, fun k hk => spec_segText_eq n a f s k (by omega)⟩
  have e2 : Ev (fun k => impl_SegText.f k n a f s) (if segB n a f s = true then (segT n a f s, true) else ((⟨#[]⟩ : ByteArray), false)) := ⟨3, fun k hk => impl_segText_eq n a f s k (by omega)⟩
  generalize (if segB n a f s = true then (segT n a f s, true) else ((⟨#[]⟩ : ByteArray), false)) = x at e1 e2
  obtain ⟨t, o⟩ := x
  obtain ⟨l, ok, hl, _, hc⟩ := cut_both p q i 0 false t 8
  have c1 : Ev (fun k => spec_CutDgram.f k p q i 0 false t 8) (l, ok) := ⟨201, fun k hk => (hc k (by omega)).1⟩
  have c2 : Ev (fun k => impl_CutDgram.f k p q i 0 false t 8) (l, ok) := ⟨201, fun k hk => (hc k (by omega)).2⟩
  cases o with
  | false =>
    refine ⟨[], false, by simp, ?_, ?_⟩
    · unfold spec_Wrap.f
      refine Ev.bind e1 ?_
      refine Ev.bind c1 ?_
      simp only [Bool.false_eq_true, if_false]
      exact Ev.step (f := fun _ => some ([], false)) (fun k => by simp only [spec_Wrap.j0, if_true]) (Ev.now _)
    · unfold impl_Wrap.f
      refine Ev.bind e2 ?_
      simp only [Bool.false_eq_true, if_false]
      exact Ev.now _
  | true =>
    cases ok with
    | false =>
      refine ⟨[], false, by simp, ?_, ?_⟩
      · unfold spec_Wrap.f
        refine Ev.bind e1 ?_
        refine Ev.bind c1 ?_
        simp only [if_true, Bool.not_false]
        exact Ev.step (f := fun _ => some ([], false)) (fun k => by simp only [spec_Wrap.j0, if_true]) (Ev.now _)
      · unfold impl_Wrap.f
        refine Ev.bind e2 ?_
        simp only [if_true]
        refine Ev.bind c2 ?_
        simp only [Bool.false_eq_true, if_false]
        exact Ev.now _
    | true =>
      have hw := wrapL_len p q l []
      refine ⟨(wrapL p q l []).1, (wrapL p q l []).2, by simp at hw; omega, ?_, ?_⟩
      · unfold spec_Wrap.f
        refine Ev.bind e1 ?_
        refine Ev.bind c1 ?_
        simp only [if_true, Bool.not_true]
        refine Ev.step (f := fun k => spec_Wrap.l0 k p q l [] 0) (fun k => by simp only [spec_Wrap.j0, Bool.false_eq_true, if_false]) ?_
        exact spec_wrap_loop p q l (by omega) l.length 0 [] (by omega) (by omega) rfl
      · unfold impl_Wrap.f
        refine Ev.bind e2 ?_
        simp only [if_true]
        refine Ev.bind c2 ?_
        simp only [if_true]
        exact impl_wrap_loop p q l (by omega) l.length 0 [] (by omega) (by omega) rfl

/-! ### mark -/
theorem mt_loop : ∀ (d : Nat) (x : Int) (s : ByteArray), 0 ≤ x → x < 10 ^ d → x ≤ 9223372036854775807 → s.size + d ≤ 1000 → ∃ t, ∀ k, d < k → laws_markText.l0 k x s = some t := by
  intro d
  induction d with
  | zero =>
    intro x s h0 h1 h2 hs
    refine ⟨(⟨#[109]⟩ : ByteArray) ++ s, fun k hk => ?_⟩
    obtain ⟨k, rfl⟩ : ∃ m, k = m + 1 := ⟨k - 1, by omega⟩
    simp only [laws_markText.l0]
    rw [if_neg (by omega), if_pos (by omega)]
  | succ d ih =>
    intro x s h0 h1 h2 hs
    by_cases hx : x > 0
    · have h10 : x / 10 < 10 ^ d := by
        have : (10 : Int) ^ (d + 1) = 10 ^ d * 10 := Int.pow_succ 10 d
        omega
      obtain ⟨t, ih⟩ := ih (x / 10) (strOfNums [(48 + x % 10) % 256] ++ s) (by omega) h10 (by omega) (by rw [ByteArray.size_append, strOfNums_size]; simp only [List.length_cons, List.length_nil]; omega)
      refine ⟨t, fun k hk => ?_⟩
      obtain ⟨k, rfl⟩ : ∃ m, k = m + 1 := ⟨k - 1, by omega⟩
      simp only [laws_markText.l0]
      rw [if_pos hx, Int.tmod_eq_emod_of_nonneg h0, Int.tdiv_eq_ediv_of_nonneg h0, w64 (x := 48 + x % 10) (by omega) (by omega)]
      simp only [Option.bind_some]
      rw [if_pos (by rw [strOfNums_size]; simp only [List.length_cons, List.length_nil]; omega)]
      rw [w64 (by omega) (by omega)]
      exact ih k (by omega)
    · refine ⟨(⟨#[109]⟩ : ByteArray) ++ s, fun k hk => ?_⟩
      obtain ⟨k, rfl⟩ : ∃ m, k = m + 1 := ⟨k - 1, by omega⟩
      simp only [laws_markText.l0]
      rw [if_neg hx, if_pos (by omega)]
theorem markText_ok (n : Int) (h0 : 0 ≤ n) (h1 : n < 1000000000000000) : ∃ t, ∀ k, 20 ≤ k → laws_markText.f k n = some t := by
  by_cases hn : n ≤ 0
  · exact ⟨_, fun k _ => by unfold laws_markText.f; rw [if_pos hn]⟩
  · obtain ⟨t, ht⟩ := mt_loop 15 n ⟨#[]⟩ h0 (by omega) (by omega) (by decide)
    exact ⟨t, fun k hk => by unfold laws_markText.f; rw [if_neg hn]; exact ht k (by omega)⟩
def mt (n : Int) : ByteArray := (laws_markText.f 20 n).getD ⟨#[]⟩
theorem markText_eq {k : Nat} {n : Int} (hk : 20 ≤ k) (h0 : 0 ≤ n) (h1 : n < 1000000000000000) : laws_markText.f k n = some (mt n) := by
  obtain ⟨t, ht⟩ := markText_ok n h0 h1
  unfold mt
  rw [ht k hk, ht 20 (by omega)]
  rfl
theorem mark_loop {α : Type} {F : Nat → List α → Int → Int → Option (Int × List α)} {G : Int → α} {w : Nat}
    (hs : ∀ k (l : List α) (c : Int) (j : Nat), j < l.length → l.length ≤ 2000000 → 20 ≤ k → 0 ≤ c → c ≤ 100000000000000 → F (k + 1) l c (j : Int) = F k (l.set j (G c)) (c + w) ((j + 1 : Nat) : Int))
    (he : ∀ k (l : List α) (c : Int), F (k + 1) l c (l.length : Int) = some (c, l)) :
    ∀ (d j : Nat) (l : List α) (c : Int), l.length - j = d → j ≤ l.length → l.length ≤ 2000000 → 0 ≤ c → c + w * d ≤ 100000000000000 →
    ∃ l' : List α, l'.length = l.length ∧ (∀ i, i < j → l'[i]? = l[i]?) ∧ (∀ i, j ≤ i → i < l.length → l'[i]? = some (G (c + w * ((i - j : Nat) : Int)))) ∧ ∀ k, d + 20 < k → F k l c (j : Int) = some (c + w * d, l') := by
  intro d
  induction d with
  | zero =>
    intro j l c hd hj hl h0 h1
    obtain rfl : j = l.length := by omega
    refine ⟨l, rfl, fun _ _ => rfl, fun i h2 h3 => by omega, fun k hk => ?_⟩
    obtain ⟨k, rfl⟩ : ∃ m, k = m + 1 := ⟨k - 1, by omega⟩
    rw [he]
    simp
  | succ d ih =>
    intro j l c hd hj hl h0 h1
    have hmul : (w : Int) * ((d + 1 : Nat) : Int) = w + w * d := by rw [Int.natCast_succ, Int.mul_add, Int.mul_one, Int.add_comm]
    have hwd : 0 ≤ (w : Int) * (d : Int) := Int.mul_nonneg (by omega) (by omega)
    obtain ⟨l', hl', h2, h3, h4⟩ := ih (j + 1) (l.set j (G c)) (c + w) (by rw [List.length_set]; omega) (by rw [List.length_set]; omega) (by rw [List.length_set]; exact hl) (by omega) (by omega)
    rw [List.length_set] at hl' h3
    refine ⟨l', hl', fun i hi => ?_, fun i hi1 hi2 => ?_, fun k hk => ?_⟩
    · rw [h2 i (by omega), List.getElem?_set_ne (by omega)]
    · by_cases hij : i = j
      · subst hij
        rw [h2 i (by omega), List.getElem?_set_self (by omega)]
        simp
      · rw [h3 i (by omega) hi2]
        congr 2
        have : ((i - j : Nat) : Int) = ((i - (j + 1) : Nat) : Int) + 1 := by omega
        rw [this, Int.mul_add, Int.mul_one]
        omega
    · obtain ⟨k, rfl⟩ : ∃ m, k = m + 1 := ⟨k - 1, by omega⟩
      rw [hs k l c j (by omega) hl (by omega) h0 (by omega), h4 k (by omega), hmul]
      congr 2
      omega
theorem held_loop {α : Type} {F : Nat → List α → Int → Int → Option Int} {G : Int → α} {w : Nat} {l : List α}
    (hs : ∀ k (c : Int) (j : Nat) (hj : j < l.length), l.length ≤ 2000000 → 20 ≤ k → 0 ≤ c → c ≤ 100000000000000 → l[j] = G c → F (k + 1) l c (j : Int) = F k l (c + w) ((j + 1 : Nat) : Int))
    (he : ∀ k (c : Int), F (k + 1) l c (l.length : Int) = some c) (hl : l.length ≤ 2000000) :
    ∀ (d j : Nat) (c : Int), l.length - j = d → j ≤ l.length → 0 ≤ c → c + w * d ≤ 100000000000000 → (∀ i, j ≤ i → i < l.length → l[i]? = some (G (c + w * ((i - j : Nat) : Int)))) → ∀ k, d + 20 < k → F k l c (j : Int) = some (c + w * d) := by
  intro d
  induction d with
  | zero =>
    intro j c hd hj h0 h1 hG k hk
    obtain rfl : j = l.length := by omega
    obtain ⟨k, rfl⟩ : ∃ m, k = m + 1 := ⟨k - 1, by omega⟩
    rw [he]
    simp
  | succ d ih =>
    intro j c hd hj h0 h1 hG k hk
    obtain ⟨k, rfl⟩ : ∃ m, k = m + 1 := ⟨k - 1, by omega⟩
    have hjl : j < l.length := by omega
    have hmul : (w : Int) * ((d + 1 : Nat) : Int) = w + w * d := by rw [Int.natCast_succ, Int.mul_add, Int.mul_one, Int.add_comm]
    have hwd : 0 ≤ (w : Int) * (d : Int) := Int.mul_nonneg (by omega) (by omega)
    have hj0 : l[j] = G c := by
      have := hG j (Nat.le_refl _) hjl
      rw [List.getElem?_eq_getElem hjl] at this
      simpa using this
    rw [hs k c j hjl hl (by omega) h0 (by omega) hj0, ih (j + 1) (c + w) (by omega) (by omega) (by omega) (by omega) (fun i h2 h3 => ?_) k (by omega), hmul]
    · congr 1; omega
    · rw [hG i (by omega) h3]
      congr 2
      have : ((i - j : Nat) : Int) = ((i - (j + 1) : Nat) : Int) + 1 := by omega
      rw [this, Int.mul_add, Int.mul_one]
      omega

/-! ### m_String -/
theorem rdS_at {l : List ByteArray} {j : Nat} (h : j < l.length) : rdOf ByteArray.empty l (j : Int) = l[j] := by
  unfold rdOf
  rw [List.getD_eq_getElem?_getD, Int.toNat_natCast, List.getElem?_eq_getElem h]
  rfl
theorem markStringS_ok (l : List ByteArray) (c : Int) (hl : l.length ≤ 2000000) (h0 : 0 ≤ c) (h1 : c + 1 * l.length ≤ 100000000000000) :
    ∃ l' : List ByteArray, l'.length = l.length ∧ (∀ i, i < l.length → l'[i]? = some (mt (c + 1 * (i : Int)))) ∧ ∀ k, l.length + 20 < k → laws_markStringS.f k l c = some (c + 1 * l.length, l') := by
  obtain ⟨l', hl', _, h3, h4⟩ := mark_loop (F := fun k l c j => laws_markStringS.l0 k l c j) (G := mt) (w := 1) (fun k l c j hj hl hk h0 h1 => by
      simp (disch := omega) only [laws_markStringS.l0, ip, Option.bind_some, w64, markText_eq, List.set_set, Int.toNat_natCast]
      congr 1 <;> omega) (fun k l c => by simp only [laws_markStringS.l0]; rw [if_neg (by omega)]) l.length 0 l c (by omega) (by omega) hl h0 h1
  exact ⟨l', hl', fun i hi => by simpa using h3 i (by omega) hi, h4⟩
theorem heldStringS_ok (l : List ByteArray) (c : Int) (hl : l.length ≤ 2000000) (h0 : 0 ≤ c) (h1 : c + 1 * l.length ≤ 100000000000000) (hG : ∀ i, i < l.length → l[i]? = some (mt (c + 1 * (i : Int)))) :
    ∀ k, l.length + 20 < k → laws_heldStringS.f k l c = some (c + 1 * l.length) := by
  exact held_loop (F := fun k l c j => laws_heldStringS.l0 k l c j) (G := mt) (w := 1) (fun k c j hj hl hk h0 h1 hP => by
      have hr : rdOf ByteArray.empty l (j : Int) = mt c := by rw [rdS_at hj]; exact hP
      simp (disch := omega) only [laws_heldStringS.l0, hr, ip, Option.bind_some, w64, markText_eq, if_true, bne_self_eq_false, Bool.false_eq_true, if_false]
      congr 1 <;> omega) (fun k c => by simp only [laws_heldStringS.l0]; rw [if_neg (by omega)]) hl l.length 0 c (by omega) (by omega) h0 h1 (fun i _ hi => by simpa using hG i hi)
theorem markheldString (l : List ByteArray) (hl : l.length ≤ 2000000) (c : Int) (h0 : 0 ≤ c) (h1 : c ≤ 10000000000000) : ∃ (m : Int) (l' : List ByteArray), 0 ≤ m ∧ m ≤ c + 1 * l.length ∧ Ev (fun k => laws_markStringS.f k l c) (m, l') ∧ Ev (fun k => laws_heldStringS.f k l' c) m := by
  obtain ⟨l', hl', h2, h3⟩ := markStringS_ok l c hl h0 (by omega)
  refine ⟨c + 1 * l.length, l', by omega, by omega, ⟨l.length + 21, fun k hk => h3 k (by omega)⟩, ⟨l.length + 21, fun k hk => ?_⟩⟩
  have := heldStringS_ok l' c (by omega) h0 (by omega) (fun i hi => h2 i (by omega)) k (by omega)
  rw [hl'] at this
  exact this
theorem eqStringS_ok (l : List ByteArray) (hl : l.length ≤ 2000000) : ∀ k, l.length < k → laws_eqStringS.f k l l = some true := by
  intro k hk
  unfold laws_eqStringS.f
  rw [if_pos rfl]
  refine up_loop (F := fun k j => laws_eqStringS.l0 k l l j) (n := l.length) ?_ ?_ l.length 0 (by omega) (by omega) k hk
  · intro k j hj
    simp (disch := omega) only [laws_eqStringS.l0, ip, w64, Option.bind_some, if_true, bne_self_eq_false, Bool.false_eq_true, if_false]
    rfl
  · intro k
    simp only [laws_eqStringS.l0]
    rw [if_neg (by omega)]

/-! ### FnExactWrap -/
theorem FnExactWrap : StFnExactWrap.Pure := by
  intro a b c s p q i
  intros
  by_cases hz : wrap64 (1048576 - (s.size : Int)) < 0
  · exact ⟨0, by unfold laws_FnExactWrap.f laws_szSeg.f; rw [if_pos hz]; simp⟩
  · obtain ⟨r, ok, hr, h1, h2⟩ := wrap_both a b c s p q i
    obtain ⟨m, l', g1, _, me, he⟩ := markheldString r (by omega) 1 (by omega) (by omega)
    refine Ev.ex ?_ (r := true)
    unfold laws_FnExactWrap.f laws_szSeg.f laws_toSeg.f
    simp only [if_neg hz, Option.bind_some]
    refine Ev.bind h1 ?_
    refine Ev.bind h2 ?_
    have he0 : Ev (fun k => laws_eqStringS.f k r r) true := ⟨r.length + 1, fun k hk => eqStringS_ok r (by omega) k (by omega)⟩
    refine Ev.bind he0 ?_
    simp only [if_true, bne_self_eq_false]
    refine Ev.step (fun k => by simp only [laws_FnExactWrap.j0, Bool.false_eq_true, if_false]; rfl) ?_
    refine Ev.bind me ?_
    refine Ev.bind he ?_
    simp only [if_neg (show ¬ m < 0 by omega), if_true, laws_toSeg.f, Option.bind_some]
    refine Ev.bind h2 ?_
    refine Ev.bind he0 ?_
    simp only [if_true, bne_self_eq_false]
    refine Ev.step (fun k => by simp only [laws_FnExactWrap.j1, Bool.false_eq_true, if_false]; rfl) ?_
    refine Ev.bind he ?_
    simp only [if_neg (show ¬ m < 0 by omega), if_true]
    exact Ev.now _

end Go.Proofs.Ytmknnoeggkgkgaa.Pure
