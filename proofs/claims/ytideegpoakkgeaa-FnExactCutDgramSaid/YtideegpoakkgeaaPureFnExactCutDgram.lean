/- The pure statement of the law 'FnExactCutDgram', proved: over numbers, lists and texts alone. No condition. -/
import Derived.Test.YtideegpoakkgeaaStFnExactCutDgram
import Derived.Laws.BitsLemmas
namespace Go.Proofs.Ytideegpoakkgeaa.Pure
open Go.RowKit Go.Proofs.Ytideegpoakkgeaa.QFnExactCutDgram Go.Proofs.YtideegpoakkgeaaW.PrintWords Go.Proofs.YtideegpoakkgeaaW.PrintLast Go.Proofs.YtideegpoakkgeaaW.PrintMore Go.Proofs.Ytideegpoakkgeaa.StFnExactCutDgram Go.Proofs.Ytideegpoakkgeaa.Opens
set_option linter.unusedVariables false
set_option linter.unusedSimpArgs false

/-! ### base -/
theorem w64 {x : Int} (h0 : -9223372036854775808 ≤ x) (h1 : x ≤ 9223372036854775807) : wrap64 x = x := by unfold wrap64; omega
theorem w64_range (x : Int) : -9223372036854775808 ≤ wrap64 x ∧ wrap64 x ≤ 9223372036854775807 := by unfold wrap64; omega
theorem ip {α : Type} {c : Prop} [Decidable c] {a b : α} (h : c) : (if c then a else b) = a := if_pos h
theorem ineg {α : Type} {c : Prop} [Decidable c] {a b : α} (h : ¬ c) : (if c then a else b) = b := if_neg h
theorem wf_range {n : Int} (h : (Lit.int .i64 n).wf = true) : -9223372036854775808 ≤ n ∧ n ≤ 9223372036854775807 := by
  simp only [Lit.wf, IntKind.min, IntKind.max, IntKind.signed, IntKind.bits, Bool.and_eq_true, decide_eq_true_eq, if_true] at h
  omega
theorem wf_u8 {n : Int} (h : (Lit.int .u8 n).wf = true) : 0 ≤ n ∧ n ≤ 255 := by
  simp [Lit.wf, IntKind.min, IntKind.max, IntKind.signed, IntKind.bits] at h
  omega
theorem and_low (x : Int) (i : Nat) (hi : i ≤ 62) : Go.bits .and .i64 x (2 ^ i - 1) = x % 2 ^ i := by
  have hpos : 0 < 2 ^ i := Nat.two_pow_pos i
  have hc : ((2 : Int) ^ i - 1) = ((2 ^ i - 1 : Nat) : Int) := by rw [Int.natCast_sub hpos]; simp
  have h62 : 2 ^ i ≤ 2 ^ 62 := Nat.pow_le_pow_right (by decide) hi
  have hlt : 2 ^ i - 1 < 2 ^ 64 := by omega
  have hd : (2 ^ i : Nat) ∣ 2 ^ 64 := Nat.pow_dvd_pow 2 (by omega)
  rw [hc]
  simp only [Go.bits, BitVec.ofInt_natCast, BitVec.toNat_and, BitVec.toNat_ofNat, BitVec.toNat_ofInt]
  simp only [show IntKind.i64.bits = 64 from rfl]
  rw [Nat.mod_eq_of_lt hlt, Nat.and_two_pow_sub_one_eq_mod]
  have h1 : (((x % ((2 ^ 64 : Nat) : Int)).toNat % 2 ^ i : Nat) : Int) = x % 2 ^ i := by
    rw [Int.natCast_emod, Int.toNat_of_nonneg (Int.emod_nonneg _ (by decide))]
    rw [Int.natCast_pow]
    exact Int.emod_emod_of_dvd _ (by
      have : (((2 ^ i : Nat) : Int)) ∣ ((2 ^ 64 : Nat) : Int) := Int.natCast_dvd_natCast.2 hd
      simpa using this)
  rw [h1]
  have h2 : 0 ≤ x % 2 ^ i := Int.emod_nonneg _ (by
    have : (0 : Int) < 2 ^ i := by exact_mod_cast hpos
    omega)
  have h3 : x % 2 ^ i < 2 ^ i := Int.emod_lt_of_pos _ (by exact_mod_cast hpos)
  have h4 : (2 : Int) ^ i ≤ 2 ^ 62 := by exact_mod_cast h62
  rw [IntKind.wrap_i64]
  omega
theorem and255 (x : Int) : Go.bits .and .i64 x 255 = x % 256 := and_low x 8 (by omega)
theorem and65535 (x : Int) : Go.bits .and .i64 x 65535 = x % 65536 := and_low x 16 (by omega)
theorem and30 (x : Int) : Go.bits .and .i64 x 1073741823 = x % 1073741824 := and_low x 30 (by omega)
theorem and1 (x : Int) : Go.bits .and .i64 x 1 = x % 2 := and_low x 1 (by omega)
/-- A law's last step: both are one. -/
theorem same_end {v : Bool} : (if (v != v) = true then some false else some true : Option Bool) = some true := by simp
theorem Ev.ex {α : Type} {g : Nat → Option α} {r : α} (h : Ev g r) : ∃ k, g k = some r := h.rounds
theorem Ev.from_ {α : Type} {g : Nat → Option α} {r : α} (K : Nat) (h : ∀ k, K ≤ k → g k = some r) : Ev g r := ⟨K, h⟩
theorem Ev.both {α β : Type} {g : Nat → Option α} {f : Nat → Option β} {r : α} {q : β} (h : Ev g r) (h' : Ev f q) : ∃ K, ∀ k, K ≤ k → g k = some r ∧ f k = some q := by
  obtain ⟨K, h⟩ := h
  obtain ⟨K', h'⟩ := h'
  exact ⟨K + K', fun k hk => ⟨h k (by omega), h' k (by omega)⟩⟩

/-! ### in -/
def rng (a b c : Int) : Bool := decide (b ≤ a) && decide (a ≤ c)
theorem rng_iff {a b c : Int} : rng a b c = true ↔ b ≤ a ∧ a ≤ c := by simp [rng]
theorem rng_false {a b c : Int} : rng a b c = false ↔ ¬ (b ≤ a ∧ a ≤ c) := by rw [← rng_iff]; simp
theorem in_eq (a b c : Int) : spec_l01In.f a b c = some (rng a b c) := by
  unfold spec_l01In.f rng
  by_cases h : b ≤ a
  · rw [if_pos h]; simp [h]
  · rw [if_neg h]; simp [h]
theorem within_eq (a b c : Int) : impl_within.f a b c = some (rng a b c) := by
  unfold impl_within.f rng
  by_cases h : b ≤ a
  · rw [if_pos h]; simp [h]
  · rw [if_neg h]; simp [h]

/-! ### dgok -/
def dgB (a b c d : Int) (e : Bool) (s : ByteArray) : Bool :=
  rng a 1 99 && (rng b 1 99 && (rng c 0 65535 && (rng d 0 160 && (decide (Int.tmod d 8 = 0) && (rng (s.size : Int) 1 (wrap64 (160 - d)) && (!e || ((s.size : Int) % 8 == 0)))))))
theorem spec_dgB (a b c d : Int) (e : Bool) (s : ByteArray) : spec_DgramOk.f a b c d e s = some (dgB a b c d e s) := by
  unfold spec_DgramOk.f dgB
  simp only [in_eq, Option.bind_some]
  by_cases h8 : Int.tmod d 8 = 0
  · simp only [if_pos h8]
    cases rng a 1 99 <;> cases rng b 1 99 <;> cases rng c 0 65535 <;> cases rng d 0 160 <;> cases rng (s.size : Int) 1 (wrap64 (160 - d)) <;> cases e <;> simp [h8]
  · simp only [if_neg h8]
    cases rng a 1 99 <;> cases rng b 1 99 <;> cases rng c 0 65535 <;> cases rng d 0 160 <;> simp [h8]
theorem impl_dgB (a b c d : Int) (e : Bool) (s : ByteArray) : impl_DgramOk.f a b c d e s = some (dgB a b c d e s) := by
  unfold impl_DgramOk.f impl_isAddr.f impl_isWord.f dgB
  simp only [within_eq, Option.bind_some]
  by_cases h8 : Int.tmod d 8 = 0
  · simp only [if_pos h8]
    cases rng a 1 99 <;> cases rng b 1 99 <;> cases rng c 0 65535 <;> cases rng d 0 160 <;> cases rng (s.size : Int) 1 (wrap64 (160 - d)) <;> cases e <;> simp [h8]
  · simp only [if_neg h8]
    cases rng a 1 99 <;> cases rng b 1 99 <;> cases rng c 0 65535 <;> cases rng d 0 160 <;> simp [h8]
theorem dgB_iff {a b c d : Int} {e : Bool} {s : ByteArray} (h : dgB a b c d e s = true) : (1 ≤ a ∧ a ≤ 99) ∧ (1 ≤ b ∧ b ≤ 99) ∧ (0 ≤ c ∧ c ≤ 65535) ∧ (0 ≤ d ∧ d ≤ 160) ∧ d % 8 = 0 ∧ (1 ≤ (s.size : Int) ∧ (s.size : Int) ≤ 160 - d) ∧ (e = true → (s.size : Int) % 8 = 0) := by
  unfold dgB at h
  simp only [Bool.and_eq_true, decide_eq_true_eq, rng_iff, Bool.or_eq_true, Bool.not_eq_true', beq_iff_eq] at h
  obtain ⟨ha, hb, hc, hd, h8, hs, he⟩ := h
  rw [w64 (by omega) (by omega)] at hs
  rw [Int.tmod_eq_emod_of_nonneg hd.1] at h8
  refine ⟨ha, hb, hc, hd, h8, hs, fun h => ?_⟩
  rcases he with he | he
  · rw [h] at he; cases he
  · exact he

/-! ### loops -/
/-- A loop upward whose rounds do nothing but go on. -/
theorem up_loop {β : Type} {F : Nat → Int → Option β} {n : Nat} {r : β} (hs : ∀ k (j : Nat), j < n → F (k + 1) (j : Int) = F k ((j + 1 : Nat) : Int)) (he : ∀ k, F (k + 1) (n : Int) = some r) :
    ∀ (d j : Nat), n - j = d → j ≤ n → ∀ k, d < k → F k (j : Int) = some r := by
  intro d
  induction d with
  | zero =>
    intro j hd hj k hk
    obtain ⟨k, rfl⟩ : ∃ m, k = m + 1 := ⟨k - 1, by omega⟩
    obtain rfl : j = n := by omega
    exact he k
  | succ d ih =>
    intro j hd hj k hk
    obtain ⟨k, rfl⟩ : ∃ m, k = m + 1 := ⟨k - 1, by omega⟩
    rw [hs k j (by omega)]
    exact ih (j + 1) (by omega) (by omega) k (by omega)
/-- A loop that turns each element of a list into one of a list that was made. -/
theorem map_loop {α β : Type} {F : Nat → List β → Int → Option (List β)} {g : α → β} {l : List α}
    (hs : ∀ k (acc : List β) (j : Nat) (hj : j < l.length), acc.length = l.length → F (k + 1) acc (j : Int) = F k (acc.set j (g l[j])) ((j + 1 : Nat) : Int))
    (he : ∀ k (acc : List β), F (k + 1) acc (l.length : Int) = some acc) :
    ∀ (d j : Nat) (acc : List β), l.length - j = d → j ≤ l.length → acc.length = l.length → (∀ i, i < j → acc[i]? = (l[i]?).map g) → ∀ k, d < k → F k acc (j : Int) = some (l.map g) := by
  intro d
  induction d with
  | zero =>
    intro j acc hd hj hl ha k hk
    obtain ⟨k, rfl⟩ : ∃ m, k = m + 1 := ⟨k - 1, by omega⟩
    obtain rfl : j = l.length := by omega
    rw [he]
    congr 1
    apply List.ext_getElem?
    intro i
    rw [List.getElem?_map]
    by_cases hi : i < l.length
    · exact ha i hi
    · rw [List.getElem?_eq_none (by omega), List.getElem?_eq_none (by omega)]; rfl
  | succ d ih =>
    intro j acc hd hj hl ha k hk
    obtain ⟨k, rfl⟩ : ∃ m, k = m + 1 := ⟨k - 1, by omega⟩
    have hjl : j < l.length := by omega
    rw [hs k acc j hjl hl]
    refine ih (j + 1) _ (by omega) (by omega) (by rw [List.length_set]; exact hl) (fun i hi => ?_) k (by omega)
    by_cases hij : i = j
    · subst hij
      rw [List.getElem?_set_self (by omega), List.getElem?_eq_getElem hjl]
      rfl
    · rw [List.getElem?_set_ne (fun h => hij h.symm)]
      exact ha i (by omega)
theorem getD_at {α : Type} {l : List α} {j : Nat} (z : α) (h : j < l.length) : l.getD (j : Int).toNat z = l[j] := by
  simp [List.getD_eq_getElem?_getD, List.getElem?_eq_getElem h]

/-! ### cutd -/
theorem cut_loop (a b c d : Int) (e : Bool) (s : ByteArray) (st : Int) (h8 : 8 ≤ st) (hst : st ≤ 160) (hs : s.size ≤ 160) : ∀ (n : Nat) (j : Int) (acc : List S36), 0 ≤ j → j ≤ 400 → (s.size : Int) - j ≤ n → acc.length + n ≤ 1000 →
    ∃ l : List S36, l.length ≤ acc.length + n ∧ ∀ k, n < k → spec_CutDgram.l0 k st acc j a b c d e s = some (l, true) ∧ impl_CutDgram.l0 k st acc j a b c d e s = some (l, true) := by
  intro n
  induction n with
  | zero =>
    intro j acc h0 h4 hn ha
    refine ⟨acc, by omega, fun k hk => ?_⟩
    obtain ⟨k, rfl⟩ : ∃ m, k = m + 1 := ⟨k - 1, by omega⟩
    simp only [spec_CutDgram.l0, impl_CutDgram.l0]
    rw [if_neg (by omega), if_neg (by omega)]
    exact ⟨rfl, rfl⟩
  | succ n ih =>
    intro j acc h0 h4 hn ha
    by_cases hj : j < (s.size : Int)
    · have hw : wrap64 (j + st) = j + st := w64 (by omega) (by omega)
      by_cases hg : j + st ≥ (s.size : Int)
      · have hm : mn (j + st) (s.size : Int) = (s.size : Int) := by unfold mn; split <;> omega
        have hd : decide ((s.size : Int) < (s.size : Int)) = false := by simp
        obtain ⟨l, hl, h⟩ := ih (j + st) (acc ++ [(⟨a, b, c, wrap64 (d + j), e, s.extract (j : Int).toNat ((s.size : Int) : Int).toNat⟩ : S36)]) (by omega) (by omega) (by omega) (by rw [List.length_append, List.length_singleton]; omega)
        rw [List.length_append, List.length_singleton] at hl
        refine ⟨l, by omega, fun k hk => ?_⟩
        obtain ⟨k, rfl⟩ : ∃ m, k = m + 1 := ⟨k - 1, by omega⟩
        have h := h k (by omega)
        simp only [spec_CutDgram.l0, impl_CutDgram.l0, hw, hm, hd]
        refine ⟨?_, ?_⟩
        · rw [if_pos hj, if_pos hg, if_pos h0, if_pos (by omega), if_pos (by omega), if_pos (by omega)]
          exact h.1
        · rw [if_pos hj, if_pos h0, if_pos (by omega), if_pos (by omega)]
          cases e
          · rw [if_neg (by simp), if_pos (by omega)]
            exact h.2
          · rw [if_pos rfl, if_pos (by omega)]
            exact h.2
      · have hm : mn (j + st) (s.size : Int) = j + st := by unfold mn; split <;> omega
        have hd : decide (j + st < (s.size : Int)) = true := by simp; omega
        obtain ⟨l, hl, h⟩ := ih (j + st) (acc ++ [(⟨a, b, c, wrap64 (d + j), true, s.extract (j : Int).toNat ((j + st) : Int).toNat⟩ : S36)]) (by omega) (by omega) (by omega) (by rw [List.length_append, List.length_singleton]; omega)
        rw [List.length_append, List.length_singleton] at hl
        refine ⟨l, by omega, fun k hk => ?_⟩
        obtain ⟨k, rfl⟩ : ∃ m, k = m + 1 := ⟨k - 1, by omega⟩
        have h := h k (by omega)
        simp only [spec_CutDgram.l0, impl_CutDgram.l0, hw, hm, hd]
        refine ⟨?_, ?_⟩
        · rw [if_pos hj, if_neg hg, if_pos h0, if_pos (by omega), if_pos (by omega), if_pos (by omega)]
          exact h.1
        · rw [if_pos hj, if_pos h0, if_pos (by omega), if_pos (by omega)]
          cases e
          · rw [if_neg (by simp), if_pos (by omega)]
            exact h.2
          · rw [if_pos rfl, if_pos (by omega)]
            exact h.2
    · refine ⟨acc, by omega, fun k hk => ?_⟩
      obtain ⟨k, rfl⟩ : ∃ m, k = m + 1 := ⟨k - 1, by omega⟩
      simp only [spec_CutDgram.l0, impl_CutDgram.l0]
      rw [if_neg hj, if_neg hj]
      exact ⟨rfl, rfl⟩
theorem cut_both (a b c d : Int) (e : Bool) (s : ByteArray) (n : Int) : ∃ (l : List S36) (ok : Bool), l.length ≤ 160 ∧ (dgB a b c d e s = false → l = [] ∧ ok = false) ∧ ∀ k, 200 < k → spec_CutDgram.f k a b c d e s n = some (l, ok) ∧ impl_CutDgram.f k a b c d e s n = some (l, ok) := by
  cases hb : dgB a b c d e s with
  | false =>
    refine ⟨[], false, by simp, fun _ => ⟨rfl, rfl⟩, fun k hk => ?_⟩
    obtain ⟨k, rfl⟩ : ∃ m, k = m + 1 := ⟨k - 1, by omega⟩
    unfold spec_CutDgram.f impl_CutDgram.f
    simp only [spec_dgB, impl_dgB, hb, Option.bind_some, Bool.false_eq_true, if_false, spec_CutDgram.j0, impl_CutDgram.j0, if_true, and_self]
  | true =>
    obtain ⟨_, _, _, _, _, hs, _⟩ := dgB_iff hb
    cases hn : rng n 8 160 with
    | false =>
      refine ⟨[], false, by simp, (fun h => by cases h), fun k hk => ?_⟩
      obtain ⟨k, rfl⟩ : ∃ m, k = m + 1 := ⟨k - 1, by omega⟩
      unfold spec_CutDgram.f impl_CutDgram.f
      simp only [spec_dgB, impl_dgB, hb, in_eq, within_eq, hn, Option.bind_some, if_true, Bool.not_false, spec_CutDgram.j0, impl_CutDgram.j0, and_self]
    | true =>
      have hr := rng_iff.1 hn
      have hst : wrap64 ((wrap64 (Int.tdiv n 8)) * 8) = n / 8 * 8 := by
        rw [Int.tdiv_eq_ediv_of_nonneg (by omega), w64 (x := n / 8) (by omega) (by omega), w64 (by omega) (by omega)]
      obtain ⟨l, hl, h⟩ := cut_loop a b c d e s (n / 8 * 8) (by omega) (by omega) (by omega) 160 0 [] (by omega) (by omega) (by omega) (by simp)
      refine ⟨l, true, by simpa using hl, (fun h => by cases h), fun k hk => ?_⟩
      obtain ⟨k, rfl⟩ : ∃ m, k = m + 1 := ⟨k - 1, by omega⟩
      unfold spec_CutDgram.f impl_CutDgram.f
      simp only [spec_dgB, impl_dgB, hb, in_eq, within_eq, hn, Option.bind_some, if_true, Bool.not_true, spec_CutDgram.j0, impl_CutDgram.j0, Bool.false_eq_true, if_false, hst]
      exact h k (by omega)

/-! ### mark -/
theorem mt_loop : ∀ (d : Nat) (x : Int) (s : ByteArray), 0 ≤ x → x < 10 ^ d → x ≤ 9223372036854775807 → s.size + d ≤ 1000 → ∃ t, ∀ k, d < k → laws_markText.l0 k x s = some t := by
  intro d
  induction d with
  | zero =>
    intro x s h0 h1 h2 hs
    refine ⟨(⟨#[109]⟩ : ByteArray) ++ s, fun k hk => ?_⟩
    obtain ⟨k, rfl⟩ : ∃ m, k = m + 1 := ⟨k - 1, by omega⟩
    simp only [laws_markText.l0]
    rw [if_neg (by omega), if_pos (by omega)]
  | succ d ih =>
    intro x s h0 h1 h2 hs
    by_cases hx : x > 0
    · have h10 : x / 10 < 10 ^ d := by
        have : (10 : Int) ^ (d + 1) = 10 ^ d * 10 := Int.pow_succ 10 d
        omega
      obtain ⟨t, ih⟩ := ih (x / 10) (strOfNums [(48 + x % 10) % 256] ++ s) (by omega) h10 (by omega) (by rw [ByteArray.size_append, strOfNums_size]; simp only [List.length_cons, List.length_nil]; omega)
      refine ⟨t, fun k hk => ?_⟩
      obtain ⟨k, rfl⟩ : ∃ m, k = m + 1 := ⟨k - 1, by omega⟩
      simp only [laws_markText.l0]
      rw [if_pos hx, Int.tmod_eq_emod_of_nonneg h0, Int.tdiv_eq_ediv_of_nonneg h0, w64 (x := 48 + x % 10) (by omega) (by omega)]
      simp only [Option.bind_some]
      rw [if_pos (by rw [strOfNums_size]; simp only [List.length_cons, List.length_nil]; omega)]
      rw [w64 (by omega) (by omega)]
      exact ih k (by omega)
    · refine ⟨(⟨#[109]⟩ : ByteArray) ++ s, fun k hk => ?_⟩
      obtain ⟨k, rfl⟩ : ∃ m, k = m + 1 := ⟨k - 1, by omega⟩
      simp only [laws_markText.l0]
      rw [if_neg hx, if_pos (by omega)]
theorem markText_ok (n : Int) (h0 : 0 ≤ n) (h1 : n < 1000000000000000) : ∃ t, ∀ k, 20 ≤ k → laws_markText.f k n = some t := by
  by_cases hn : n ≤ 0
  · exact ⟨_, fun k _ => by unfold laws_markText.f; rw [if_pos hn]⟩
  · obtain ⟨t, ht⟩ := mt_loop 15 n ⟨#[]⟩ h0 (by omega) (by omega) (by decide)
    exact ⟨t, fun k hk => by unfold laws_markText.f; rw [if_neg hn]; exact ht k (by omega)⟩
def mt (n : Int) : ByteArray := (laws_markText.f 20 n).getD ⟨#[]⟩
theorem markText_eq {k : Nat} {n : Int} (hk : 20 ≤ k) (h0 : 0 ≤ n) (h1 : n < 1000000000000000) : laws_markText.f k n = some (mt n) := by
  obtain ⟨t, ht⟩ := markText_ok n h0 h1
  unfold mt
  rw [ht k hk, ht 20 (by omega)]
  rfl
theorem mark_loop {α : Type} {F : Nat → List α → Int → Int → Option (Int × List α)} {G : Int → α} {w : Nat}
    (hs : ∀ k (l : List α) (c : Int) (j : Nat), j < l.length → l.length ≤ 2000000 → 20 ≤ k → 0 ≤ c → c ≤ 100000000000000 → F (k + 1) l c (j : Int) = F k (l.set j (G c)) (c + w) ((j + 1 : Nat) : Int))
    (he : ∀ k (l : List α) (c : Int), F (k + 1) l c (l.length : Int) = some (c, l)) :
    ∀ (d j : Nat) (l : List α) (c : Int), l.length - j = d → j ≤ l.length → l.length ≤ 2000000 → 0 ≤ c → c + w * d ≤ 100000000000000 →
    ∃ l' : List α, l'.length = l.length ∧ (∀ i, i < j → l'[i]? = l[i]?) ∧ (∀ i, j ≤ i → i < l.length → l'[i]? = some (G (c + w * ((i - j : Nat) : Int)))) ∧ ∀ k, d + 20 < k → F k l c (j : Int) = some (c + w * d, l') := by
  intro d
  induction d with
  | zero =>
    intro j l c hd hj hl h0 h1
    obtain rfl : j = l.length := by omega
    refine ⟨l, rfl, fun _ _ => rfl, fun i h2 h3 => by omega, fun k hk => ?_⟩
    obtain ⟨k, rfl⟩ : ∃ m, k = m + 1 := ⟨k - 1, by omega⟩
    rw [he]
    simp
  | succ d ih =>
    intro j l c hd hj hl h0 h1
    have hmul : (w : Int) * ((d + 1 : Nat) : Int) = w + w * d := by rw [Int.natCast_succ, Int.mul_add, Int.mul_one, Int.add_comm]
    have hwd : 0 ≤ (w : Int) * (d : Int) := Int.mul_nonneg (by omega) (by omega)
    obtain ⟨l', hl', h2, h3, h4⟩ := ih (j + 1) (l.set j (G c)) (c + w) (by rw [List.length_set]; omega) (by rw [List.length_set]; omega) (by rw [List.length_set]; exact hl) (by omega) (by omega)
    rw [List.length_set] at hl' h3
    refine ⟨l', hl', fun i hi => ?_, fun i hi1 hi2 => ?_, fun k hk => ?_⟩
    · rw [h2 i (by omega), List.getElem?_set_ne (by omega)]
    · by_cases hij : i = j
      · subst hij
        rw [h2 i (by omega), List.getElem?_set_self (by omega)]
        simp
      · rw [h3 i (by omega) hi2]
        congr 2
        have : ((i - j : Nat) : Int) = ((i - (j + 1) : Nat) : Int) + 1 := by omega
        rw [this, Int.mul_add, Int.mul_one]
        omega
    · obtain ⟨k, rfl⟩ : ∃ m, k = m + 1 := ⟨k - 1, by omega⟩
      rw [hs k l c j (by omega) hl (by omega) h0 (by omega), h4 k (by omega), hmul]
      congr 2
      omega
theorem held_loop {α : Type} {F : Nat → List α → Int → Int → Option Int} {G : Int → α} {w : Nat} {l : List α}
    (hs : ∀ k (c : Int) (j : Nat) (hj : j < l.length), l.length ≤ 2000000 → 20 ≤ k → 0 ≤ c → c ≤ 100000000000000 → l[j] = G c → F (k + 1) l c (j : Int) = F k l (c + w) ((j + 1 : Nat) : Int))
    (he : ∀ k (c : Int), F (k + 1) l c (l.length : Int) = some c) (hl : l.length ≤ 2000000) :
    ∀ (d j : Nat) (c : Int), l.length - j = d → j ≤ l.length → 0 ≤ c → c + w * d ≤ 100000000000000 → (∀ i, j ≤ i → i < l.length → l[i]? = some (G (c + w * ((i - j : Nat) : Int)))) → ∀ k, d + 20 < k → F k l c (j : Int) = some (c + w * d) := by
  intro d
  induction d with
  | zero =>
    intro j c hd hj h0 h1 hG k hk
    obtain rfl : j = l.length := by omega
    obtain ⟨k, rfl⟩ : ∃ m, k = m + 1 := ⟨k - 1, by omega⟩
    rw [he]
    simp
  | succ d ih =>
    intro j c hd hj h0 h1 hG k hk
    obtain ⟨k, rfl⟩ : ∃ m, k = m + 1 := ⟨k - 1, by omega⟩
    have hjl : j < l.length := by omega
    have hmul : (w : Int) * ((d + 1 : Nat) : Int) = w + w * d := by rw [Int.natCast_succ, Int.mul_add, Int.mul_one, Int.add_comm]
    have hwd : 0 ≤ (w : Int) * (d : Int) := Int.mul_nonneg (by omega) (by omega)
    have hj0 : l[j] = G c := by
      have := hG j (Nat.le_refl _) hjl
      rw [List.getElem?_eq_getElem hjl] at this
      simpa using this
    rw [hs k c j hjl hl (by omega) h0 (by omega) hj0, ih (j + 1) (c + w) (by omega) (by omega) (by omega) (by omega) (fun i h2 h3 => ?_) k (by omega), hmul]
    · congr 1; omega
    · rw [hG i (by omega) h3]
      congr 2
      have : ((i - j : Nat) : Int) = ((i - (j + 1) : Nat) : Int) + 1 := by omega
      rw [this, Int.mul_add, Int.mul_one]
      omega

/-! ### m_Dgram -/
def mkDgram (c : Int) : S36 := ⟨c, c + 1, c + 1 + 1, c + 1 + 1 + 1, (Int.tmod (c + 1 + 1 + 1 + 1) 3 == 0), mt (c + 1 + 1 + 1 + 1 + 1)⟩
theorem rdset_Dgram (l : List S36) (j : Nat) (a : S36) (h : j < l.length) : rd_T36 (l.set j a) (j : Int) = a := by
  unfold rd_T36
  rw [getD_at _ (by rw [List.length_set]; exact h), List.getElem_set_self]
theorem markDgramS_ok (l : List S36) (c : Int) (hl : l.length ≤ 2000000) (h0 : 0 ≤ c) (h1 : c + 6 * l.length ≤ 100000000000000) :
    ∃ l' : List S36, l'.length = l.length ∧ (∀ i, i < l.length → l'[i]? = some (mkDgram (c + 6 * (i : Int)))) ∧ ∀ k, l.length + 20 < k → laws_markDgramS.f k l c = some (c + 6 * l.length, l') := by
  obtain ⟨l', hl', _, h3, h4⟩ := mark_loop (F := fun k l c j => laws_markDgramS.l0 k l c j) (G := mkDgram) (w := 6) (fun k l c j hj hl hk h0 h1 => by
      simp (disch := omega) only [laws_markDgramS.l0, ip, Option.bind_some, w64, markText_eq, rdset_Dgram, List.set_set, Int.toNat_natCast]
      unfold mkDgram
      congr 1 <;> omega) (fun k l c => by simp only [laws_markDgramS.l0]; rw [if_neg (by omega)]) l.length 0 l c (by omega) (by omega) hl h0 h1
  exact ⟨l', hl', fun i hi => by simpa using h3 i (by omega) hi, h4⟩
theorem heldDgramS_ok (l : List S36) (c : Int) (hl : l.length ≤ 2000000) (h0 : 0 ≤ c) (h1 : c + 6 * l.length ≤ 100000000000000) (hG : ∀ i, i < l.length → l[i]? = some (mkDgram (c + 6 * (i : Int)))) :
    ∀ k, l.length + 20 < k → laws_heldDgramS.f k l c = some (c + 6 * l.length) := by
  exact held_loop (F := fun k l c j => laws_heldDgramS.l0 k l c j) (G := mkDgram) (w := 6) (fun k c j hj hl hk h0 h1 hP => by
      have hr : rd_T36 l (j : Int) = mkDgram c := by unfold rd_T36; rw [getD_at _ hj]; exact hP
      simp (disch := omega) only [laws_heldDgramS.l0, hr, mkDgram, ip, Option.bind_some, w64, markText_eq, if_true, bne_self_eq_false, Bool.false_eq_true, if_false]
      congr 1 <;> omega) (fun k c => by simp only [laws_heldDgramS.l0]; rw [if_neg (by omega)]) hl l.length 0 c (by omega) (by omega) h0 h1 (fun i _ hi => by simpa using hG i hi)
theorem markheldDgram (l : List S36) (hl : l.length ≤ 2000000) (c : Int) (h0 : 0 ≤ c) (h1 : c ≤ 10000000000000) : ∃ (m : Int) (l' : List S36), 0 ≤ m ∧ m ≤ c + 6 * l.length ∧ Ev (fun k => laws_markDgramS.f k l c) (m, l') ∧ Ev (fun k => laws_heldDgramS.f k l' c) m := by
  obtain ⟨l', hl', h2, h3⟩ := markDgramS_ok l c hl h0 (by omega)
  refine ⟨c + 6 * l.length, l', by omega, by omega, ⟨l.length + 21, fun k hk => h3 k (by omega)⟩, ⟨l.length + 21, fun k hk => ?_⟩⟩
  have := heldDgramS_ok l' c (by omega) h0 (by omega) (fun i hi => h2 i (by omega)) k (by omega)
  rw [hl'] at this
  exact this
theorem eqDgramS_ok (l : List S36) (hl : l.length ≤ 2000000) : ∀ k, l.length < k → laws_eqDgramS.f k l l = some true := by
  intro k hk
  unfold laws_eqDgramS.f
  rw [if_pos rfl]
  refine up_loop (F := fun k j => laws_eqDgramS.l0 k l l j) (n := l.length) ?_ ?_ l.length 0 (by omega) (by omega) k hk
  · intro k j hj
    simp (disch := omega) only [laws_eqDgramS.l0, laws_eqDgram.f, ip, w64, Option.bind_some, if_true, bne_self_eq_false, Bool.false_eq_true, if_false]
    rfl
  · intro k
    simp only [laws_eqDgramS.l0]
    rw [if_neg (by omega)]

/-! ### FnExactCutDgram -/
theorem FnExactCutDgram : StFnExactCutDgram.Pure := by
  intro a b c d e s n _ _ _ _ _ _ _
  by_cases hz : wrap64 (1048576 - (s.size : Int)) < 0
  · exact ⟨0, by unfold laws_FnExactCutDgram.f laws_szDgram.f; rw [if_pos hz]; simp⟩
  · obtain ⟨l, ok, hl, _, hc⟩ := cut_both a b c d e s n
    obtain ⟨m1, l1', g1, _, m1e, h1e⟩ := markheldDgram l (by omega) 1 (by omega) (by omega)
    obtain ⟨K2, hK2⟩ := Ev.both m1e h1e
    refine ⟨K2 + 1000, ?_⟩
    unfold laws_FnExactCutDgram.f laws_szDgram.f laws_toDgram.f
    rw [if_neg hz]
    simp only [Option.bind_some]
    rw [if_neg hz, (hc _ (by omega)).1]
    simp only [Option.bind_some]
    rw [(hc _ (by omega)).2]
    simp only [Option.bind_some]
    rw [eqDgramS_ok l (by omega) _ (by omega)]
    simp only [Option.bind_some, if_true, bne_self_eq_false, laws_FnExactCutDgram.j0, Bool.false_eq_true, if_false]
    rw [(hK2 _ (by omega)).1]
    simp only [Option.bind_some]
    rw [(hK2 _ (by omega)).2]
    simp only [Option.bind_some, if_true, laws_toDgram.f]
    rw [if_neg (by omega), (hc _ (by omega)).2]
    simp only [Option.bind_some]
    rw [eqDgramS_ok l (by omega) _ (by omega)]
    simp only [Option.bind_some, if_true, bne_self_eq_false, laws_FnExactCutDgram.j1, Bool.false_eq_true, if_false]
    rw [(hK2 _ (by omega)).2]
    simp only [Option.bind_some, if_true]
    rw [if_neg (by omega)]

end Go.Proofs.Ytideegpoakkgeaa.Pure
