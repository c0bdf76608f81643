/- The pure statement of the law 'FnDgrams', proved: over numbers, lists and texts alone. No condition. -/
import Derived.Test.YtjijbffecppeiaaStFnDgrams
import Derived.Laws.BitsLemmas
namespace Go.Proofs.Ytjijbffecppeiaa.Pure
open Go.RowKit Go.Proofs.Ytjijbffecppeiaa.QFnDgrams Go.Proofs.YtjijbffecppeiaaW.PrintWords Go.Proofs.YtjijbffecppeiaaW.PrintLast Go.Proofs.YtjijbffecppeiaaW.PrintMore Go.Proofs.Ytjijbffecppeiaa.StFnDgrams Go.Proofs.Ytjijbffecppeiaa.Opens
set_option linter.unusedVariables false
set_option linter.unusedSimpArgs false

/-! ### base -/
theorem w64 {x : Int} (h0 : -9223372036854775808 ≤ x) (h1 : x ≤ 9223372036854775807) : wrap64 x = x := by unfold wrap64; omega
theorem w64_range (x : Int) : -9223372036854775808 ≤ wrap64 x ∧ wrap64 x ≤ 9223372036854775807 := by unfold wrap64; omega
theorem ip {α : Type} {c : Prop} [Decidable c] {a b : α} (h : c) : (if c then a else b) = a := if_pos h
theorem ineg {α : Type} {c : Prop} [Decidable c] {a b : α} (h : ¬ c) : (if c then a else b) = b := if_neg h
theorem wf_range {n : Int} (h : (Lit.int .i64 n).wf = true) : -9223372036854775808 ≤ n ∧ n ≤ 9223372036854775807 := by
  simp only [Lit.wf, IntKind.min, IntKind.max, IntKind.signed, IntKind.bits, Bool.and_eq_true, decide_eq_true_eq, if_true] at h
  omega
theorem wf_u8 {n : Int} (h : (Lit.int .u8 n).wf = true) : 0 ≤ n ∧ n ≤ 255 := by
  simp [Lit.wf, IntKind.min, IntKind.max, IntKind.signed, IntKind.bits] at h
  omega
theorem and_low (x : Int) (i : Nat) (hi : i ≤ 62) : Go.bits .and .i64 x (2 ^ i - 1) = x % 2 ^ i := by
  have hpos : 0 < 2 ^ i := Nat.two_pow_pos i
  have hc : ((2 : Int) ^ i - 1) = ((2 ^ i - 1 : Nat) : Int) := by rw [Int.natCast_sub hpos]; simp
  have h62 : 2 ^ i ≤ 2 ^ 62 := Nat.pow_le_pow_right (by decide) hi
  have hlt : 2 ^ i - 1 < 2 ^ 64 := by omega
  have hd : (2 ^ i : Nat) ∣ 2 ^ 64 := Nat.pow_dvd_pow 2 (by omega)
  rw [hc]
  simp only [Go.bits, BitVec.ofInt_natCast, BitVec.toNat_and, BitVec.toNat_ofNat, BitVec.toNat_ofInt]
  simp only [show IntKind.i64.bits = 64 from rfl]
  rw [Nat.mod_eq_of_lt hlt, Nat.and_two_pow_sub_one_eq_mod]
  have h1 : (((x % ((2 ^ 64 : Nat) : Int)).toNat % 2 ^ i : Nat) : Int) = x % 2 ^ i := by
    rw [Int.natCast_emod, Int.toNat_of_nonneg (Int.emod_nonneg _ (by decide))]
    rw [Int.natCast_pow]
    exact Int.emod_emod_of_dvd _ (by
      have : (((2 ^ i : Nat) : Int)) ∣ ((2 ^ 64 : Nat) : Int) := Int.natCast_dvd_natCast.2 hd
      simpa using this)
  rw [h1]
  have h2 : 0 ≤ x % 2 ^ i := Int.emod_nonneg _ (by
    have : (0 : Int) < 2 ^ i := by exact_mod_cast hpos
    omega)
  have h3 : x % 2 ^ i < 2 ^ i := Int.emod_lt_of_pos _ (by exact_mod_cast hpos)
  have h4 : (2 : Int) ^ i ≤ 2 ^ 62 := by exact_mod_cast h62
  rw [IntKind.wrap_i64]
  omega
theorem and255 (x : Int) : Go.bits .and .i64 x 255 = x % 256 := and_low x 8 (by omega)
theorem and65535 (x : Int) : Go.bits .and .i64 x 65535 = x % 65536 := and_low x 16 (by omega)
theorem and30 (x : Int) : Go.bits .and .i64 x 1073741823 = x % 1073741824 := and_low x 30 (by omega)
theorem and1 (x : Int) : Go.bits .and .i64 x 1 = x % 2 := and_low x 1 (by omega)
/-- A law's last step: both are one. -/
theorem same_end {v : Bool} : (if (v != v) = true then some false else some true : Option Bool) = some true := by simp
theorem Ev.ex {α : Type} {g : Nat → Option α} {r : α} (h : Ev g r) : ∃ k, g k = some r := h.rounds
theorem Ev.from_ {α : Type} {g : Nat → Option α} {r : α} (K : Nat) (h : ∀ k, K ≤ k → g k = some r) : Ev g r := ⟨K, h⟩
theorem Ev.both {α β : Type} {g : Nat → Option α} {f : Nat → Option β} {r : α} {q : β} (h : Ev g r) (h' : Ev f q) : ∃ K, ∀ k, K ≤ k → g k = some r ∧ f k = some q := by
  obtain ⟨K, h⟩ := h
  obtain ⟨K', h'⟩ := h'
  exact ⟨K + K', fun k hk => ⟨h k (by omega), h' k (by omega)⟩⟩

/-! ### in -/
def rng (a b c : Int) : Bool := decide (b ≤ a) && decide (a ≤ c)
theorem rng_iff {a b c : Int} : rng a b c = true ↔ b ≤ a ∧ a ≤ c := by simp [rng]
theorem rng_false {a b c : Int} : rng a b c = false ↔ ¬ (b ≤ a ∧ a ≤ c) := by rw [← rng_iff]; simp
theorem in_eq (a b c : Int) : spec_l01In.f a b c = some (rng a b c) := by
  unfold spec_l01In.f rng
  by_cases h : b ≤ a
  · rw [if_pos h]; simp [h]
  · rw [if_neg h]; simp [h]
theorem within_eq (a b c : Int) : impl_within.f a b c = some (rng a b c) := by
  unfold impl_within.f rng
  by_cases h : b ≤ a
  · rw [if_pos h]; simp [h]
  · rw [if_neg h]; simp [h]

/-! ### dgok -/
def dgB (a b c d : Int) (e : Bool) (s : ByteArray) : Bool :=
  rng a 1 99 && (rng b 1 99 && (rng c 0 65535 && (rng d 0 160 && (decide (Int.tmod d 8 = 0) && (rng (s.size : Int) 1 (wrap64 (160 - d)) && (!e || ((s.size : Int) % 8 == 0)))))))
theorem spec_dgB (a b c d : Int) (e : Bool) (s : ByteArray) : spec_DgramOk.f a b c d e s = some (dgB a b c d e s) := by
  unfold spec_DgramOk.f dgB
  simp only [in_eq, Option.bind_some]
  by_cases h8 : Int.tmod d 8 = 0
  · simp only [if_pos h8]
    cases rng a 1 99 <;> cases rng b 1 99 <;> cases rng c 0 65535 <;> cases rng d 0 160 <;> cases rng (s.size : Int) 1 (wrap64 (160 - d)) <;> cases e <;> simp [h8]
  · simp only [if_neg h8]
    cases rng a 1 99 <;> cases rng b 1 99 <;> cases rng c 0 65535 <;> cases rng d 0 160 <;> simp [h8]
theorem impl_dgB (a b c d : Int) (e : Bool) (s : ByteArray) : impl_DgramOk.f a b c d e s = some (dgB a b c d e s) := by
  unfold impl_DgramOk.f impl_isAddr.f impl_isWord.f dgB
  simp only [within_eq, Option.bind_some]
  by_cases h8 : Int.tmod d 8 = 0
  · simp only [if_pos h8]
    cases rng a 1 99 <;> cases rng b 1 99 <;> cases rng c 0 65535 <;> cases rng d 0 160 <;> cases rng (s.size : Int) 1 (wrap64 (160 - d)) <;> cases e <;> simp [h8]
  · simp only [if_neg h8]
    cases rng a 1 99 <;> cases rng b 1 99 <;> cases rng c 0 65535 <;> cases rng d 0 160 <;> simp [h8]
theorem dgB_iff {a b c d : Int} {e : Bool} {s : ByteArray} (h : dgB a b c d e s = true) : (1 ≤ a ∧ a ≤ 99) ∧ (1 ≤ b ∧ b ≤ 99) ∧ (0 ≤ c ∧ c ≤ 65535) ∧ (0 ≤ d ∧ d ≤ 160) ∧ d % 8 = 0 ∧ (1 ≤ (s.size : Int) ∧ (s.size : Int) ≤ 160 - d) ∧ (e = true → (s.size : Int) % 8 = 0) := by
  unfold dgB at h
  simp only [Bool.and_eq_true, decide_eq_true_eq, rng_iff, Bool.or_eq_true, Bool.not_eq_true', beq_iff_eq] at h
  obtain ⟨ha, hb, hc, hd, h8, hs, he⟩ := h
  rw [w64 (by omega) (by omega)] at hs
  rw [Int.tmod_eq_emod_of_nonneg hd.1] at h8
  refine ⟨ha, hb, hc, hd, h8, hs, fun h => ?_⟩
  rcases he with he | he
  · rw [h] at he; cases he
  · exact he

/-! ### sumones -/
set_option maxHeartbeats 4000000 in
theorem sum_loop (s : ByteArray) (hs : s.size ≤ 1048576) : ∀ (d : Nat) (i x : Int), 0 ≤ i → i % 2 = 0 → i ≤ s.size + 1 → (s.size : Int) - i ≤ 2 * d → 0 ≤ x → x ≤ 65535 →
    ∃ r, 0 ≤ r ∧ r ≤ 65535 ∧ (∀ k, d < k → spec_SumOnes.l0 k s x i = some r) ∧ (∀ k, 2 * d < k → impl_SumOnes.l0 k s x i = some r) := by
  intro d
  induction d with
  | zero =>
    intro i x hi0 _ hi hd hx0 hx1
    refine ⟨65535 - x, by omega, by omega, fun k hk => ?_, fun k hk => ?_⟩
    · obtain ⟨k, rfl⟩ : ∃ m, k = m + 1 := ⟨k - 1, by omega⟩
      simp (disch := omega) only [spec_SumOnes.l0, ineg, w64]
    · obtain ⟨k, rfl⟩ : ∃ m, k = m + 1 := ⟨k - 1, by omega⟩
      simp (disch := omega) only [impl_SumOnes.l0, ineg, w64]
  | succ d ih =>
    intro i x hi0 he hi hd hx0 hx1
    by_cases hlt : i < (s.size : Int)
    · have hb := bt_range s i
      have hm : Int.tmod i 2 = 0 := by rw [Int.tmod_eq_emod_of_nonneg hi0]; exact he
      have hm1 : ¬ Int.tmod (i + 1) 2 = 0 := by rw [Int.tmod_eq_emod_of_nonneg (by omega)]; omega
      by_cases hl1 : i + 1 < (s.size : Int)
      · have hc := bt_range s (i + 1)
        obtain ⟨r, r0, r1, ih1, ih2⟩ := ih (i + 2) (if x + (256 * bt s i + bt s (i + 1)) > 65535 then x + (256 * bt s i + bt s (i + 1)) - 65535 else x + (256 * bt s i + bt s (i + 1))) (by omega) (by omega) (by omega) (by omega) (by split <;> omega) (by split <;> omega)
        refine ⟨r, r0, r1, fun k hk => ?_, fun k hk => ?_⟩
        · obtain ⟨k, rfl⟩ : ∃ m, k = m + 1 := ⟨k - 1, by omega⟩
          have ih1 := ih1 k (by omega)
          by_cases hg : x + (256 * bt s i + bt s (i + 1)) > 65535
          · rw [if_pos hg] at ih1
            simp (disch := omega) only [spec_SumOnes.l0, ip, ineg, w64]
            exact ih1
          · rw [if_neg hg] at ih1
            simp (disch := omega) only [spec_SumOnes.l0, ip, ineg, w64]
            exact ih1
        · obtain ⟨k, rfl⟩ : ∃ m, k = m + 1 + 1 := ⟨k - 2, by omega⟩
          have ih2 := ih2 k (by omega)
          by_cases hg1 : x + bt s i * 256 > 65535
          · rw [if_pos (by omega)] at ih2
            rw [show i + 2 = i + 1 + 1 by omega, show x + (256 * bt s i + bt s (i + 1)) - 65535 = x + bt s i * 256 - 65535 + bt s (i + 1) by omega] at ih2
            simp (disch := omega) only [impl_SumOnes.l0, ip, ineg, w64]
            exact ih2
          · by_cases hg2 : x + bt s i * 256 + bt s (i + 1) > 65535
            · rw [if_pos (by omega)] at ih2
              rw [show i + 2 = i + 1 + 1 by omega, show x + (256 * bt s i + bt s (i + 1)) - 65535 = x + bt s i * 256 + bt s (i + 1) - 65535 by omega] at ih2
              simp (disch := omega) only [impl_SumOnes.l0, ip, ineg, w64]
              exact ih2
            · rw [if_neg (by omega)] at ih2
              rw [show i + 2 = i + 1 + 1 by omega, show x + (256 * bt s i + bt s (i + 1)) = x + bt s i * 256 + bt s (i + 1) by omega] at ih2
              simp (disch := omega) only [impl_SumOnes.l0, ip, ineg, w64]
              exact ih2
      · by_cases hg : x + 256 * bt s i > 65535
        · refine ⟨65535 - (x + 256 * bt s i - 65535), by omega, by omega, fun k hk => ?_, fun k hk => ?_⟩
          · obtain ⟨k, rfl⟩ : ∃ m, k = m + 1 + 1 := ⟨k - 2, by omega⟩
            simp (disch := omega) only [spec_SumOnes.l0, ip, ineg, w64]
          · obtain ⟨k, rfl⟩ : ∃ m, k = m + 1 + 1 := ⟨k - 2, by omega⟩
            simp (disch := omega) only [impl_SumOnes.l0, ip, ineg, w64, Int.mul_comm (bt s i) 256]
        · refine ⟨65535 - (x + 256 * bt s i), by omega, by omega, fun k hk => ?_, fun k hk => ?_⟩
          · obtain ⟨k, rfl⟩ : ∃ m, k = m + 1 + 1 := ⟨k - 2, by omega⟩
            simp (disch := omega) only [spec_SumOnes.l0, ip, ineg, w64]
          · obtain ⟨k, rfl⟩ : ∃ m, k = m + 1 + 1 := ⟨k - 2, by omega⟩
            simp (disch := omega) only [impl_SumOnes.l0, ip, ineg, w64, Int.mul_comm (bt s i) 256]
    · refine ⟨65535 - x, by omega, by omega, fun k hk => ?_, fun k hk => ?_⟩
      · obtain ⟨k, rfl⟩ : ∃ m, k = m + 1 := ⟨k - 1, by omega⟩
        simp (disch := omega) only [spec_SumOnes.l0, ineg, w64]
      · obtain ⟨k, rfl⟩ : ∃ m, k = m + 1 := ⟨k - 1, by omega⟩
        simp (disch := omega) only [impl_SumOnes.l0, ineg, w64]
theorem sum_both (s : ByteArray) (hs : s.size ≤ 1048576) : ∃ r, Ev (fun k => spec_SumOnes.f k s) r ∧ Ev (fun k => impl_SumOnes.f k s) r := by
  obtain ⟨r, _, _, h1, h2⟩ := sum_loop s hs (s.size + 1) 0 0 (by omega) (by omega) (by omega) (by omega) (by omega) (by omega)
  exact ⟨r, ⟨s.size + 2, fun k hk => h1 k (by omega)⟩, ⟨2 * (s.size + 1) + 1, fun k hk => h2 k (by omega)⟩⟩

/-! ### bytes -/
theorem bytes_loop (l : List Int) (hl : l.length ≤ 2000000) : ∀ (d j : Nat) (acc : List Int), l.length - j = d → j ≤ l.length → acc.length = j → ∀ k, d < k → impl_byteTexts.l0 k acc l (l.length : Int) (j : Int) = some (strOfNums (acc ++ (l.drop j).map (· % 256))) := by
  intro d
  induction d with
  | zero =>
    intro j acc hd hj ha k hk
    obtain ⟨k, rfl⟩ : ∃ m, k = m + 1 := ⟨k - 1, by omega⟩
    simp only [impl_byteTexts.l0]
    rw [if_neg (by omega), List.drop_of_length_le (by omega)]
    simp
  | succ d ih =>
    intro j acc hd hj ha k hk
    obtain ⟨k, rfl⟩ : ∃ m, k = m + 1 := ⟨k - 1, by omega⟩
    have hjl : j < l.length := by omega
    have hget : rd l (j : Int) = l[j] := by unfold rd; simp [List.getD_eq_getElem?_getD, List.getElem?_eq_getElem hjl]
    have hdrop : l.drop j = l[j] :: l.drop (j + 1) := List.drop_eq_getElem_cons hjl
    simp only [impl_byteTexts.l0]
    rw [if_pos (by omega), if_pos (by omega), if_pos (by omega), if_pos (by omega), hget, w64 (x := (j : Int) + 1) (by omega) (by omega), hdrop]
    have := ih (j + 1) (acc ++ [l[j] % 256]) (by omega) (by omega) (by rw [List.length_append, List.length_singleton]; omega) k (by omega)
    rw [List.append_assoc] at this
    exact this
theorem bytes_ok (l : List Int) (hl : l.length ≤ 2000000) : ∀ k, l.length < k → impl_byteTexts.f k l = some (strOfNums (l.map (· % 256))) := fun k hk =>
  bytes_loop l hl l.length 0 [] (by omega) (by omega) rfl k hk
theorem two_eq (n : Int) (h : 0 ≤ n ∧ n ≤ 65535) : spec_l11Two.f n = some (strOfNums [n / 256 % 256, n % 256]) := by
  unfold spec_l11Two.f
  rw [Int.tdiv_eq_ediv_of_nonneg h.1, Int.tmod_eq_emod_of_nonneg h.1, w64 (by omega) (by omega)]
  rw [show n % 256 % 256 = n % 256 by omega]
theorem word_ok (n : Int) : ∀ k, 2 < k → impl_wordText.f k n = some (strOfNums [n / 256 % 256, n % 256]) := by
  intro k hk
  unfold impl_wordText.f
  rw [bytes_ok _ (by simp) k (by simpa using hk)]
  simp only [Option.bind_some, List.map_cons, List.map_nil, and255]
  rw [show n / 256 % 256 % 256 = n / 256 % 256 by omega, show n % 256 % 256 = n % 256 by omega]

/-! ### dgram -/
theorem ones_ex (s : ByteArray) : ∃ r, 0 ≤ r ∧ r ≤ 65535 ∧ (s.size ≤ 1048576 → Ev (fun k => spec_SumOnes.f k s) r ∧ Ev (fun k => impl_SumOnes.f k s) r) := by
  by_cases hs : s.size ≤ 1048576
  · obtain ⟨r, h0, h3, h1, h2⟩ := sum_loop s hs (s.size + 1) 0 0 (by omega) (by omega) (by omega) (by omega) (by omega) (by omega)
    exact ⟨r, h0, h3, fun _ => ⟨⟨s.size + 2, fun k hk => h1 k (by omega)⟩, ⟨2 * (s.size + 1) + 1, fun k hk => h2 k (by omega)⟩⟩⟩
  · exact ⟨0, by omega, by omega, fun h => absurd h hs⟩
noncomputable def ones (s : ByteArray) : Int := (ones_ex s).choose
theorem ones_range (s : ByteArray) : 0 ≤ ones s ∧ ones s ≤ 65535 := ⟨(ones_ex s).choose_spec.1, (ones_ex s).choose_spec.2.1⟩
theorem ones_spec (s : ByteArray) (h : s.size ≤ 1048576) : Ev (fun k => spec_SumOnes.f k s) (ones s) := ((ones_ex s).choose_spec.2.2 h).1
theorem ones_impl (s : ByteArray) (h : s.size ≤ 1048576) : Ev (fun k => impl_SumOnes.f k s) (ones s) := ((ones_ex s).choose_spec.2.2 h).2
def dgH (a b c d : Int) (e : Bool) : ByteArray := strOfNums [a % 256, b % 256] ++ strOfNums [c / 256 % 256, c % 256] ++ strOfNums [wrap64 (Int.tdiv d 8) % 256, if e = true then 1 else 0]
theorem dgH_size (a b c d : Int) (e : Bool) : (dgH a b c d e).size = 6 := by
  unfold dgH
  simp only [ByteArray.size_append, strOfNums_size, List.length_cons, List.length_nil]
noncomputable def dgT (a b c d : Int) (e : Bool) (s : ByteArray) : ByteArray := dgH a b c d e ++ strOfNums [ones (dgH a b c d e) / 256 % 256, ones (dgH a b c d e) % 256] ++ s
theorem spec_head (a b c d : Int) (e : Bool) (s : ByteArray) (hc : 0 ≤ c ∧ c ≤ 65535) : spec_l11Head.f a b c d e s = some (dgH a b c d e) := by
  unfold spec_l11Head.f dgH
  cases e
  · simp only [Bool.false_eq_true, if_false, Option.bind_some, two_eq c hc]
    rw [if_pos (by simp only [strOfNums_size, List.length_cons, List.length_nil]; omega), if_pos (by simp only [ByteArray.size_append, strOfNums_size, List.length_cons, List.length_nil]; omega)]
  · simp only [if_true, Option.bind_some, two_eq c hc]
    rw [if_pos (by simp only [strOfNums_size, List.length_cons, List.length_nil]; omega), if_pos (by simp only [ByteArray.size_append, strOfNums_size, List.length_cons, List.length_nil]; omega)]
theorem spec_DgramText_ok (a b c d : Int) (e : Bool) (s : ByteArray) : Ev (fun k => spec_DgramText.f k a b c d e s) (if dgB a b c d e s = true then (dgT a b c d e s, true) else ((⟨#[]⟩ : ByteArray), false)) := by
  unfold spec_DgramText.f
  simp only [spec_dgB, Option.bind_some]
  by_cases h : dgB a b c d e s = true
  · obtain ⟨_, _, hc, hd, _, hs, _⟩ := dgB_iff h
    have h6 := dgH_size a b c d e
    simp only [if_pos h, spec_head a b c d e s hc, Option.bind_some]
    refine Ev.bind (ones_spec _ (by omega)) ?_
    simp only [two_eq _ (ones_range _), Option.bind_some]
    have h1 : (dgH a b c d e).size + (strOfNums [ones (dgH a b c d e) / 256 % 256, ones (dgH a b c d e) % 256]).size ≤ 9223372036854775807 := by rw [h6, strOfNums_size]; simp only [List.length_cons, List.length_nil]; omega
    have h2 : (dgH a b c d e ++ strOfNums [ones (dgH a b c d e) / 256 % 256, ones (dgH a b c d e) % 256]).size + s.size ≤ 9223372036854775807 := by rw [ByteArray.size_append, h6, strOfNums_size]; simp only [List.length_cons, List.length_nil]; omega
    simp only [if_pos h1, if_pos h2]
    exact Ev.now _
  · simp only [if_neg h]
    exact Ev.now _
theorem impl_DgramText_ok (a b c d : Int) (e : Bool) (s : ByteArray) : Ev (fun k => impl_DgramText.f k a b c d e s) (if dgB a b c d e s = true then (dgT a b c d e s, true) else ((⟨#[]⟩ : ByteArray), false)) := by
  unfold impl_DgramText.f
  simp only [impl_dgB, Option.bind_some]
  by_cases h : dgB a b c d e s = true
  · obtain ⟨_, _, hc, hd, _, hs, _⟩ := dgB_iff h
    have h6 := dgH_size a b c d e
    simp only [if_pos h]
    refine Ev.bind ⟨3, fun k hk => bytes_ok [a, b] (by simp) k (by simp only [List.length_cons, List.length_nil]; omega)⟩ ?_
    refine Ev.bind ⟨3, fun k hk => word_ok c k (by omega)⟩ ?_
    have h0 : (strOfNums ([a, b].map (· % 256))).size + (strOfNums [c / 256 % 256, c % 256]).size ≤ 9223372036854775807 := by rw [strOfNums_size, strOfNums_size]; simp
    simp only [if_pos h0]
    have hf : impl_flag.f e = some (if e = true then 1 else 0) := by unfold impl_flag.f; cases e <;> rfl
    simp only [hf, Option.bind_some]
    refine Ev.bind ⟨3, fun k hk => bytes_ok [wrap64 (Int.tdiv d 8), if e = true then 1 else 0] (by simp) k (by simp only [List.length_cons, List.length_nil]; omega)⟩ ?_
    have e1 : strOfNums ([a, b].map (· % 256)) ++ strOfNums [c / 256 % 256, c % 256] ++ strOfNums ([wrap64 (Int.tdiv d 8), if e = true then (1 : Int) else 0].map (· % 256)) = dgH a b c d e := by
      unfold dgH
      cases e <;> rfl
    have h3 : (strOfNums ([a, b].map (· % 256)) ++ strOfNums [c / 256 % 256, c % 256]).size + (strOfNums ([wrap64 (Int.tdiv d 8), if e = true then (1 : Int) else 0].map (· % 256))).size ≤ 9223372036854775807 := by
      rw [ByteArray.size_append, strOfNums_size, strOfNums_size, strOfNums_size]; simp
    simp only [if_pos h3, e1]
    refine Ev.bind (ones_impl _ (by omega)) ?_
    refine Ev.bind ⟨3, fun k hk => word_ok _ k (by omega)⟩ ?_
    have h1 : (dgH a b c d e).size + (strOfNums [ones (dgH a b c d e) / 256 % 256, ones (dgH a b c d e) % 256]).size ≤ 9223372036854775807 := by rw [h6, strOfNums_size]; simp only [List.length_cons, List.length_nil]; omega
    have h2 : (dgH a b c d e ++ strOfNums [ones (dgH a b c d e) / 256 % 256, ones (dgH a b c d e) % 256]).size + s.size ≤ 9223372036854775807 := by rw [ByteArray.size_append, h6, strOfNums_size]; simp only [List.length_cons, List.length_nil]; omega
    simp only [if_pos h1, if_pos h2]
    exact Ev.now _
  · simp only [if_neg h]
    exact Ev.now _

/-! ### bl -/
theorem bl_inj {s t : ByteArray} (h : bytesOf s = bytesOf t) : s = t := by
  unfold bytesOf at h
  have h2 : s.data.toList = t.data.toList := by
    apply List.ext_getElem?
    intro i
    have h3 := congrArg (fun l => l[i]?) h
    simp only [List.getElem?_map] at h3
    cases h4 : s.data.toList[i]? <;> cases h5 : t.data.toList[i]? <;> rw [h4, h5] at h3 <;> simp at h3 ⊢
    exact UInt8.toNat_inj.1 (by omega)
  exact ByteArray.ext (by rw [← Array.toArray_toList (xs := s.data), h2])
theorem bl_app (s t : ByteArray) : bytesOf (s ++ t) = bytesOf s ++ bytesOf t := by
  unfold bytesOf
  rw [ByteArray.toList_data_append, List.map_append]
theorem bl_ext (s : ByteArray) (a b : Nat) : bytesOf (s.extract a b) = ((bytesOf s).drop a).take (b - a) := by
  unfold bytesOf
  rw [ByteArray.data_extract, Array.toList_extract, ← List.map_drop, ← List.map_take] <;> simp [List.extract_eq_drop_take]
theorem bl_range {s : ByteArray} : ∀ x ∈ bytesOf s, 0 ≤ x ∧ x ≤ 255 := by
  intro x hx
  obtain ⟨b, _, rfl⟩ := List.mem_map.1 hx
  have := b.toNat_lt
  omega
theorem bl_str {l : List Int} (h : ∀ x ∈ l, 0 ≤ x ∧ x ≤ 255) : bytesOf (strOfNums l) = l := by
  unfold bytesOf
  rw [strOfNums_data, List.map_map]
  have : ∀ x ∈ l, ((fun b : UInt8 => (b.toNat : Int)) ∘ fun n : Int => UInt8.ofNat n.toNat) x = x := by
    intro x hx
    have := h x hx
    simp only [Function.comp, UInt8.toNat_ofNat']
    omega
  rw [List.map_congr_left this, List.map_id']
theorem str_bl (s : ByteArray) : strOfNums (bytesOf s) = s := bl_inj (bl_str bl_range)
theorem bl_empty : bytesOf (⟨#[]⟩ : ByteArray) = [] := rfl
theorem bt_bl (s : ByteArray) (i : Int) : bt s i = rd (bytesOf s) i := (rd_bytesOf s i).symm
theorem toList_iff {s t : ByteArray} : s.toList = t.toList ↔ s = t := by
  rw [ByteArray.toList_eq, ByteArray.toList_eq]
  constructor
  · intro h; exact ByteArray.ext (by rw [← Array.toArray_toList (xs := s.data), h])
  · intro h; rw [h]
theorem toList_nil {s : ByteArray} : s.toList = ([] : List UInt8) ↔ bytesOf s = [] := by
  rw [ByteArray.toList_eq]
  unfold bytesOf
  simp

/-! ### scan -/
theorem one_bad (s : ByteArray) (a : Int) : impl_scan_one.f s a true = some (0, s, a, true) := by unfold impl_scan_one.f; rw [if_pos rfl]
theorem one_end (s : ByteArray) (a : Int) (h : a ≥ (s.size : Int)) (b : Bool) : impl_scan_one.f s a b = some (0, s, a, true) := by
  unfold impl_scan_one.f
  by_cases hb : b = true
  · rw [if_pos hb]
  · rw [if_neg hb, if_pos h]
theorem one_ok (s : ByteArray) (a : Int) (h0 : 0 ≤ a) (h : a < (s.size : Int)) (hs : s.size ≤ 9000000000000000000) : impl_scan_one.f s a false = some (bt s a, s, a + 1, false) := by
  unfold impl_scan_one.f
  have hb := bt_range s a
  rw [if_neg (by simp), if_neg (by omega), w64 (x := a + 1) (by omega) (by omega), show a + 1 - 1 = a by omega, w64 (x := a) (by omega) (by omega), if_pos h0, if_pos h, w64 (by omega) (by omega)]
theorem rest_bad (s : ByteArray) (a : Int) : impl_scan_rest.f s a true = some ((⟨#[]⟩ : ByteArray), s, a, true) := by unfold impl_scan_rest.f; rw [if_pos rfl]
theorem rest_ok (s : ByteArray) (a : Int) (h0 : 0 ≤ a) (h : a ≤ (s.size : Int)) : impl_scan_rest.f s a false = some (s.extract a.toNat s.size, s, (s.size : Int), false) := by
  unfold impl_scan_rest.f
  rw [if_neg (by simp), if_pos h0, if_pos h]
theorem done_bad (s : ByteArray) (a : Int) : impl_scan_done.f s a true = some (false, s, a, true) := by unfold impl_scan_done.f; rw [if_pos rfl]
theorem done_ok (s : ByteArray) (a : Int) : impl_scan_done.f s a false = some ((a == (s.size : Int)), s, a, false) := by unfold impl_scan_done.f; rw [if_neg (by simp)]

/-! ### scanany -/
-- What a scan has done by the place n: it has come to an end ahead of it, or it stands there.
def At (s : ByteArray) (n : Nat) (a : Int) (c : Bool) : Prop := (c = true ∧ s.size < n) ∨ (c = false ∧ a = (n : Int) ∧ n ≤ s.size)
theorem one_at (s : ByteArray) (n : Nat) (a : Int) (c : Bool) (h : At s n a c) (hs : s.size ≤ 9000000000000000000) : ∃ v i c', impl_scan_one.f s a c = some (v, s, i, c') ∧ At s (n + 1) i c' ∧ (n + 1 ≤ s.size → v = bt s n) := by
  rcases h with ⟨rfl, h⟩ | ⟨rfl, rfl, h⟩
  · exact ⟨_, _, _, one_bad s a, .inl ⟨rfl, by omega⟩, fun h2 => by omega⟩
  · by_cases h2 : n < s.size
    · exact ⟨_, _, _, one_ok s n (by omega) (by omega) hs, .inr ⟨rfl, by omega, by omega⟩, fun _ => rfl⟩
    · exact ⟨_, _, _, one_end s n (by omega) false, .inl ⟨rfl, by omega⟩, fun h3 => by omega⟩
theorem or256 (x y : Int) (hx : 0 ≤ x ∧ x ≤ 255) (hy : 0 ≤ y ∧ y ≤ 255) : Go.bits .or .i64 (x * 256) y = x * 256 + y := by
  obtain ⟨a, rfl⟩ : ∃ a : Nat, x = a := ⟨x.toNat, by omega⟩
  obtain ⟨c, rfl⟩ : ∃ c : Nat, y = c := ⟨y.toNat, by omega⟩
  have ha : a ≤ 255 := by omega
  have hc : c < 2 ^ 8 := by omega
  have e : ((a : Int) * 256) = ((2 ^ 8 * a : Nat) : Int) := by omega
  rw [e]
  simp only [Go.bits, BitVec.ofInt_natCast, BitVec.toNat_or, BitVec.toNat_ofNat, show IntKind.i64.bits = 64 from rfl]
  rw [Nat.mod_eq_of_lt (by omega), Nat.mod_eq_of_lt (by omega), ← Nat.two_pow_add_eq_or_of_lt hc, IntKind.wrap_i64]
  omega
theorem word_at (s : ByteArray) (n : Nat) (a : Int) (c : Bool) (h : At s n a c) (hs : s.size ≤ 9000000000000000000) : ∃ v i c', impl_scan_word.f s a c = some (v, s, i, c') ∧ At s (n + 2) i c' ∧ (n + 2 ≤ s.size → v = bt s n * 256 + bt s (n + 1 : Nat)) := by
  obtain ⟨v, i, c1, e, h1, q1⟩ := one_at s n a c h hs
  obtain ⟨v2, i2, c2, e2, h2, q2⟩ := one_at s (n + 1) i c1 h1 hs
  unfold impl_scan_word.f
  rw [e]
  simp only [Option.bind_some]
  rw [e2]
  simp only [Option.bind_some]
  refine ⟨_, _, _, rfl, h2, fun h3 => ?_⟩
  have b0 := bt_range s n
  have b1 := bt_range s ((n + 1 : Nat) : Int)
  rw [q1 (by omega), q2 (by omega), w64 (by omega) (by omega), or256 _ _ b0 b1]

/-! ### readdgram -/
theorem bl_dgT (a b c d : Int) (e : Bool) (s : ByteArray) : bytesOf (dgT a b c d e s) = [a % 256, b % 256, c / 256 % 256, c % 256, wrap64 (Int.tdiv d 8) % 256, if e = true then 1 else 0, ones (dgH a b c d e) / 256 % 256, ones (dgH a b c d e) % 256] ++ bytesOf s := by
  have ho := ones_range (dgH a b c d e)
  have hH : bytesOf (dgH a b c d e) = [a % 256, b % 256, c / 256 % 256, c % 256, wrap64 (Int.tdiv d 8) % 256, if e = true then 1 else 0] := by
    unfold dgH
    rw [bl_app, bl_app, bl_str (by intro x hx; simp at hx; omega), bl_str (by intro x hx; simp at hx; omega), bl_str (by intro x hx; simp at hx; rcases hx with rfl | rfl; (omega); (cases e <;> simp))]
    rfl
  unfold dgT
  rw [bl_app, bl_app, hH, bl_str (by intro x hx; simp at hx; omega)]
  rfl
def noDg : Int × Int × Int × Int × Bool × ByteArray × Bool := (0, 0, 0, 0, false, (⟨#[]⟩ : ByteArray), false)
open Classical in
noncomputable def readDgB (s : ByteArray) : Int × Int × Int × Int × Bool × ByteArray × Bool :=
  if 8 ≤ s.size ∧ dgB (bt s 0) (bt s 1) (bt s 2 * 256 + bt s 3) (8 * bt s 4) (bt s 5 == 1) (s.extract 8 s.size) = true ∧ dgT (bt s 0) (bt s 1) (bt s 2 * 256 + bt s 3) (8 * bt s 4) (bt s 5 == 1) (s.extract 8 s.size) = s then
    (bt s 0, bt s 1, bt s 2 * 256 + bt s 3, 8 * bt s 4, bt s 5 == 1, s.extract 8 s.size, true) else noDg
/-- What both do with what they have written once more. -/
theorem dg_end {k0 : Int × Int × Int × Int × Bool × ByteArray × Bool} (c : Bool) (t s : ByteArray) :
    (if (if c = true then (t, true) else ((⟨#[]⟩ : ByteArray), false)).2 = true then (if (if c = true then (t, true) else ((⟨#[]⟩ : ByteArray), false)).1.toList = s.toList then some k0 else some noDg) else some noDg) = if c = true ∧ t = s then some k0 else some noDg := by
  cases c
  · simp
  · simp [toList_iff]
theorem impl_ReadDgram_ok (s : ByteArray) (hs : s.size ≤ 1048576) : Ev (fun k => impl_ReadDgram.f k s) (readDgB s) := by
  obtain ⟨v0, i0, c0, e0, p0, q0⟩ := one_at s 0 0 false (.inr ⟨rfl, rfl, by omega⟩) (by omega)
  obtain ⟨v1, i1, c1, e1, p1, q1⟩ := one_at s 1 i0 c0 p0 (by omega)
  obtain ⟨v2, i2, c2, e2, p2, q2⟩ := word_at s 2 i1 c1 p1 (by omega)
  obtain ⟨v3, i3, c3, e3, p3, q3⟩ := one_at s 4 i2 c2 p2 (by omega)
  obtain ⟨v4, i4, c4, e4, p4, q4⟩ := one_at s 5 i3 c3 p3 (by omega)
  obtain ⟨v5, i5, c5, e5, p5, q5⟩ := word_at s 6 i4 c4 p4 (by omega)
  unfold impl_ReadDgram.f
  rw [e0]
  simp only [Option.bind_some]
  rw [e1]
  simp only [Option.bind_some]
  rw [e2]
  simp only [Option.bind_some]
  rw [e3]
  simp only [Option.bind_some]
  rw [e4]
  simp only [Option.bind_some]
  rw [e5]
  simp only [Option.bind_some]
  rcases p5 with ⟨rfl, h8⟩ | ⟨rfl, rfl, h8⟩
  · rw [rest_bad]
    simp only [Option.bind_some]
    refine Ev.bind (impl_DgramText_ok _ _ _ _ _ _) ?_
    rw [done_bad]
    simp only [Option.bind_some, Bool.false_eq_true, if_false]
    have : readDgB s = noDg := by
      unfold readDgB
      exact if_neg (fun h => by have := h.1; omega)
    rw [this]
    exact Ev.now _
  · rw [rest_ok s ((6 + 2 : Nat) : Int) (by omega) (by omega)]
    simp only [Option.bind_some]
    refine Ev.bind (impl_DgramText_ok _ _ _ _ _ _) ?_
    rw [done_ok]
    simp only [Option.bind_some, beq_self_eq_true, if_true]
    have b4 := bt_range s 4
    have f0 : v0 = bt s 0 := q0 (by omega)
    have f1 : v1 = bt s 1 := q1 (by omega)
    have f2 : v2 = bt s 2 * 256 + bt s 3 := q2 (by omega)
    have f3 : v3 = bt s 4 := q3 (by omega)
    have f4 : v4 = bt s 5 := q4 (by omega)
    subst f0 f1 f2 f3 f4
    rw [w64 (x := 8 * bt s 4) (by omega) (by omega)]
    have e8 : (((6 + 2 : Nat) : Int)).toNat = 8 := rfl
    rw [e8]
    have key := dg_end (k0 := (bt s 0, bt s 1, bt s 2 * 256 + bt s 3, 8 * bt s 4, bt s 5 == 1, s.extract 8 s.size, true)) (dgB (bt s 0) (bt s 1) (bt s 2 * 256 + bt s 3) (8 * bt s 4) (bt s 5 == 1) (s.extract 8 s.size)) (dgT (bt s 0) (bt s 1) (bt s 2 * 256 + bt s 3) (8 * bt s 4) (bt s 5 == 1) (s.extract 8 s.size)) s
    refine ⟨0, fun k _ => ?_⟩
    refine key.trans ?_
    unfold readDgB
    by_cases hc : dgB (bt s 0) (bt s 1) (bt s 2 * 256 + bt s 3) (8 * bt s 4) (bt s 5 == 1) (s.extract 8 s.size) = true ∧ dgT (bt s 0) (bt s 1) (bt s 2 * 256 + bt s 3) (8 * bt s 4) (bt s 5 == 1) (s.extract 8 s.size) = s
    · rw [if_pos hc, if_pos ⟨by omega, hc⟩]
    · rw [if_neg hc, if_neg (fun h => hc h.2)]
theorem spec_ReadDgram_ok (s : ByteArray) (hs : s.size ≤ 1048576) : Ev (fun k => spec_ReadDgram.f k s) (readDgB s) := by
  unfold spec_ReadDgram.f
  by_cases h9 : (s.size : Int) < 9
  · simp only [if_pos h9]
    have : readDgB s = noDg := by
      unfold readDgB
      refine if_neg (fun h => ?_)
      have h2 := (dgB_iff h.2.1).2.2.2.2.2.1
      rw [ByteArray.size_extract] at h2
      omega
    rw [this]
    exact Ev.step (f := fun _ => some noDg) (fun k => by simp only [spec_ReadDgram.j0, if_true]; rfl) (Ev.now _)
  · simp only [if_neg h9, if_pos (show (5 : Int) < (s.size : Int) by omega)]
    by_cases h5 : bt s 5 > 1
    · have : readDgB s = noDg := by
        unfold readDgB
        refine if_neg (fun h => ?_)
        have hb := bl_dgT (bt s 0) (bt s 1) (bt s 2 * 256 + bt s 3) (8 * bt s 4) (bt s 5 == 1) (s.extract 8 s.size)
        rw [h.2.2] at hb
        have h1 : bt s 5 = if (bt s 5 == 1) = true then 1 else 0 := by
          conv => lhs; rw [bt_bl, hb]
          rfl
        split at h1 <;> omega
      rw [this]
      exact Ev.step (f := fun _ => some noDg) (fun k => by simp only [spec_ReadDgram.j0, decide_eq_true h5, if_true]; rfl) (Ev.now _)
    · have b0 := bt_range s 0
      have b1 := bt_range s 1
      have b2 := bt_range s 2
      have b3 := bt_range s 3
      have b4 := bt_range s 4
      refine Ev.step (f := fun k => (spec_DgramText.f k (bt s 0) (bt s 1) (bt s 2 * 256 + bt s 3) (8 * bt s 4) (bt s 5 == 1) (s.extract 8 s.size)).bind fun bt132 => (if bt132.2 = true then (if bt132.1.toList = s.toList then some (bt s 0, bt s 1, bt s 2 * 256 + bt s 3, 8 * bt s 4, bt s 5 == 1, s.extract 8 s.size, true) else some noDg) else some noDg)) (fun k => ?_) ?_
      · simp only [spec_ReadDgram.j0, decide_eq_false h5, Bool.false_eq_true, if_false]
        rw [if_pos (by omega), if_pos (by omega), if_pos (by omega), if_pos (by omega), if_pos (by omega), if_pos (by omega), if_pos (by omega)]
        simp only [Int.mul_comm 256]
        simp only [w64 (x := bt s 0) (by omega) (by omega), w64 (x := bt s 1) (by omega) (by omega), w64 (x := bt s 2) (by omega) (by omega), w64 (x := bt s 3) (by omega) (by omega), w64 (x := bt s 4) (by omega) (by omega), w64 (x := bt s 2 * 256) (by omega) (by omega), w64 (x := bt s 2 * 256 + bt s 3) (by omega) (by omega), w64 (x := 8 * bt s 4) (by omega) (by omega)]
        rfl
      · refine Ev.bind (spec_DgramText_ok _ _ _ _ _ _) ?_
        have key := dg_end (k0 := (bt s 0, bt s 1, bt s 2 * 256 + bt s 3, 8 * bt s 4, bt s 5 == 1, s.extract 8 s.size, true)) (dgB (bt s 0) (bt s 1) (bt s 2 * 256 + bt s 3) (8 * bt s 4) (bt s 5 == 1) (s.extract 8 s.size)) (dgT (bt s 0) (bt s 1) (bt s 2 * 256 + bt s 3) (8 * bt s 4) (bt s 5 == 1) (s.extract 8 s.size)) s
        refine ⟨0, fun k _ => key.trans ?_⟩
        unfold readDgB
        by_cases hc : dgB (bt s 0) (bt s 1) (bt s 2 * 256 + bt s 3) (8 * bt s 4) (bt s 5 == 1) (s.extract 8 s.size) = true ∧ dgT (bt s 0) (bt s 1) (bt s 2 * 256 + bt s 3) (8 * bt s 4) (bt s 5 == 1) (s.extract 8 s.size) = s
        · rw [if_pos hc, if_pos ⟨by omega, hc⟩]
        · rw [if_neg hc, if_neg (fun h => hc h.2)]

/-! ### dgback -/
theorem dgT_size (a b c d : Int) (e : Bool) (s : ByteArray) : (dgT a b c d e s).size = 8 + s.size := by
  have h := dgH_size a b c d e
  unfold dgT
  rw [ByteArray.size_append, ByteArray.size_append, h, strOfNums_size]
  rfl
/-- What is written and read again is what was. -/
theorem dg_back (a b c d : Int) (e : Bool) (s : ByteArray) (h : dgB a b c d e s = true) : readDgB (dgT a b c d e s) = (a, b, c, d, e, s, true) := by
  obtain ⟨ha, hb, hc, hd, h8, hs, he⟩ := dgB_iff h
  have hB := bl_dgT a b c d e s
  have h0 : bt (dgT a b c d e s) 0 = a := by rw [bt_bl, hB]; show a % 256 = a; omega
  have h1 : bt (dgT a b c d e s) 1 = b := by rw [bt_bl, hB]; show b % 256 = b; omega
  have h2 : bt (dgT a b c d e s) 2 = c / 256 % 256 := by rw [bt_bl, hB]; rfl
  have h3 : bt (dgT a b c d e s) 3 = c % 256 := by rw [bt_bl, hB]; rfl
  have h4 : bt (dgT a b c d e s) 4 = d / 8 := by
    rw [bt_bl, hB]
    show wrap64 (Int.tdiv d 8) % 256 = d / 8
    rw [Int.tdiv_eq_ediv_of_nonneg hd.1, w64 (by omega) (by omega)]
    omega
  have h5 : (bt (dgT a b c d e s) 5 == 1) = e := by
    rw [bt_bl, hB]
    show ((if e = true then (1 : Int) else 0) == 1) = e
    cases e <;> rfl
  have hx : (dgT a b c d e s).extract 8 (dgT a b c d e s).size = s := by
    apply bl_inj
    rw [bl_ext, hB, dgT_size]
    have := bytesOf_length s
    show (bytesOf s).take (8 + s.size - 8) = bytesOf s
    rw [List.take_of_length_le (by omega)]
  have e1 : c / 256 % 256 * 256 + c % 256 = c := by omega
  have e2 : 8 * (d / 8) = d := by omega
  unfold readDgB
  rw [h0, h1, h2, h3, h4, h5, hx, e1, e2, if_pos ⟨by rw [dgT_size]; omega, h, rfl⟩]
theorem dg_forth (s : ByteArray) (h : (readDgB s).2.2.2.2.2.2 = true) : dgB (readDgB s).1 (readDgB s).2.1 (readDgB s).2.2.1 (readDgB s).2.2.2.1 (readDgB s).2.2.2.2.1 (readDgB s).2.2.2.2.2.1 = true ∧
    dgT (readDgB s).1 (readDgB s).2.1 (readDgB s).2.2.1 (readDgB s).2.2.2.1 (readDgB s).2.2.2.2.1 (readDgB s).2.2.2.2.2.1 = s := by
  by_cases hc : 8 ≤ s.size ∧ dgB (bt s 0) (bt s 1) (bt s 2 * 256 + bt s 3) (8 * bt s 4) (bt s 5 == 1) (s.extract 8 s.size) = true ∧ dgT (bt s 0) (bt s 1) (bt s 2 * 256 + bt s 3) (8 * bt s 4) (bt s 5 == 1) (s.extract 8 s.size) = s
  · have e : readDgB s = (bt s 0, bt s 1, bt s 2 * 256 + bt s 3, 8 * bt s 4, bt s 5 == 1, s.extract 8 s.size, true) := by unfold readDgB; exact if_pos hc
    rw [e]
    exact hc.2
  · have e : readDgB s = noDg := by unfold readDgB; exact if_neg hc
    rw [e] at h
    cases h
theorem Ev.det {α : Type} {g : Nat → Option α} {r q : α} (h : Ev g r) (h2 : Ev g q) : r = q := by
  obtain ⟨K, hK⟩ := Ev.both h h2
  obtain ⟨a, b⟩ := hK K (Nat.le_refl _)
  exact Option.some.inj (a.symm.trans b)
def fw (x w : Int) : Int := if x + w > 65535 then x + w - 65535 else x + w
theorem fw_range {x w : Int} (hx : 0 ≤ x ∧ x ≤ 65535) (hw : 0 ≤ w ∧ w ≤ 65535) : 0 ≤ fw x w ∧ fw x w ≤ 65535 := by
  unfold fw
  split <;> omega
theorem word_range (s : ByteArray) (i : Int) : 0 ≤ 256 * bt s i + bt s (i + 1) ∧ 256 * bt s i + bt s (i + 1) ≤ 65535 := by
  have := bt_range s i
  have := bt_range s (i + 1)
  omega
theorem ones_step (s : ByteArray) (hs : s.size ≤ 1048576) (x i : Int) (h0 : 0 ≤ i) (hi : i + 1 < (s.size : Int)) (hx : 0 ≤ x ∧ x ≤ 65535) {r : Int} (h : Ev (fun k => spec_SumOnes.l0 k s (fw x (256 * bt s i + bt s (i + 1))) (i + 2)) r) : Ev (fun k => spec_SumOnes.l0 k s x i) r := by
  refine Ev.step (fun k => ?_) h
  have b0 := bt_range s i
  have b1 := bt_range s (i + 1)
  unfold fw
  by_cases hg : x + (256 * bt s i + bt s (i + 1)) > 65535
  · rw [if_pos hg]
    simp (disch := omega) only [spec_SumOnes.l0, ip, ineg, w64]
  · rw [if_neg hg]
    simp (disch := omega) only [spec_SumOnes.l0, ip, ineg, w64]
theorem ones_last (s : ByteArray) (x i : Int) (hi : (s.size : Int) ≤ i) (hx : 0 ≤ x ∧ x ≤ 65535) : Ev (fun k => spec_SumOnes.l0 k s x i) (65535 - x) :=
  Ev.step (f := fun _ => some (65535 - x)) (fun k => by simp only [spec_SumOnes.l0]; rw [if_neg (by omega), w64 (by omega) (by omega)]) (Ev.now _)
theorem ones_six (s : ByteArray) (hs : s.size = 6) : ones s = 65535 - fw (fw (fw 0 (256 * bt s 0 + bt s 1)) (256 * bt s 2 + bt s 3)) (256 * bt s 4 + bt s 5) := by
  have r0 : (0 : Int) ≤ 0 ∧ (0 : Int) ≤ 65535 := by omega
  have r1 := fw_range r0 (word_range s 0)
  have r2 := fw_range r1 (word_range s 2)
  have r3 := fw_range r2 (word_range s 4)
  refine Ev.det (ones_spec s (by omega)) ?_
  exact ones_step s (by omega) 0 0 (by omega) (by omega) r0 (ones_step s (by omega) _ (0 + 2) (by omega) (by omega) r1 (ones_step s (by omega) _ (0 + 2 + 2) (by omega) (by omega) r2 (ones_last s _ _ (by omega) r3)))
theorem ones_eight (s : ByteArray) (hs : s.size = 8) : ones s = 65535 - fw (fw (fw (fw 0 (256 * bt s 0 + bt s 1)) (256 * bt s 2 + bt s 3)) (256 * bt s 4 + bt s 5)) (256 * bt s 6 + bt s 7) := by
  have r0 : (0 : Int) ≤ 0 ∧ (0 : Int) ≤ 65535 := by omega
  have r1 := fw_range r0 (word_range s 0)
  have r2 := fw_range r1 (word_range s 2)
  have r3 := fw_range r2 (word_range s 4)
  have r4 := fw_range r3 (word_range s 6)
  refine Ev.det (ones_spec s (by omega)) ?_
  exact ones_step s (by omega) 0 0 (by omega) (by omega) r0 (ones_step s (by omega) _ (0 + 2) (by omega) (by omega) r1 (ones_step s (by omega) _ (0 + 2 + 2) (by omega) (by omega) r2 (ones_step s (by omega) _ (0 + 2 + 2 + 2) (by omega) (by omega) r3 (ones_last s _ _ (by omega) r4))))
theorem bl_dgH (a b c d : Int) (e : Bool) : bytesOf (dgH a b c d e) = [a % 256, b % 256, c / 256 % 256, c % 256, wrap64 (Int.tdiv d 8) % 256, if e = true then 1 else 0] := by
  unfold dgH
  rw [bl_app, bl_app, bl_str (by intro x hx; simp at hx; omega), bl_str (by intro x hx; simp at hx; omega), bl_str (by intro x hx; simp at hx; rcases hx with rfl | rfl; (omega); (cases e <;> simp))]
  rfl
/-- The head with its sum sums up to nothing. -/
theorem ones_head (a b c d : Int) (e : Bool) (s : ByteArray) : ones ((dgT a b c d e s).extract 0 8) = 0 := by
  have hB := bl_dgT a b c d e s
  have hH := bl_dgH a b c d e
  have ho := ones_range (dgH a b c d e)
  have h6 := ones_six (dgH a b c d e) (dgH_size a b c d e)
  have hx : bytesOf ((dgT a b c d e s).extract 0 8) = [a % 256, b % 256, c / 256 % 256, c % 256, wrap64 (Int.tdiv d 8) % 256, if e = true then 1 else 0, ones (dgH a b c d e) / 256 % 256, ones (dgH a b c d e) % 256] := by
    rw [bl_ext, hB]
    rfl
  have hsz : ((dgT a b c d e s).extract 0 8).size = 8 := by rw [ByteArray.size_extract, dgT_size]; omega
  rw [ones_eight _ hsz]
  have g : ∀ i : Int, bt ((dgT a b c d e s).extract 0 8) i = rd [a % 256, b % 256, c / 256 % 256, c % 256, wrap64 (Int.tdiv d 8) % 256, if e = true then 1 else 0, ones (dgH a b c d e) / 256 % 256, ones (dgH a b c d e) % 256] i := fun i => by rw [bt_bl, hx]
  have g2 : ∀ i : Int, bt (dgH a b c d e) i = rd [a % 256, b % 256, c / 256 % 256, c % 256, wrap64 (Int.tdiv d 8) % 256, if e = true then 1 else 0] i := fun i => by rw [bt_bl, hH]
  have k0 : bt ((dgT a b c d e s).extract 0 8) 0 = bt (dgH a b c d e) 0 := by rw [g, g2]; rfl
  have k1 : bt ((dgT a b c d e s).extract 0 8) 1 = bt (dgH a b c d e) 1 := by rw [g, g2]; rfl
  have k2 : bt ((dgT a b c d e s).extract 0 8) 2 = bt (dgH a b c d e) 2 := by rw [g, g2]; rfl
  have k3 : bt ((dgT a b c d e s).extract 0 8) 3 = bt (dgH a b c d e) 3 := by rw [g, g2]; rfl
  have k4 : bt ((dgT a b c d e s).extract 0 8) 4 = bt (dgH a b c d e) 4 := by rw [g, g2]; rfl
  have k5 : bt ((dgT a b c d e s).extract 0 8) 5 = bt (dgH a b c d e) 5 := by rw [g, g2]; rfl
  have k6 : bt ((dgT a b c d e s).extract 0 8) 6 = ones (dgH a b c d e) / 256 % 256 := by rw [g]; rfl
  have k7 : bt ((dgT a b c d e s).extract 0 8) 7 = ones (dgH a b c d e) % 256 := by rw [g]; rfl
  rw [k0, k1, k2, k3, k4, k5, k6, k7]
  generalize fw (fw (fw 0 (256 * bt (dgH a b c d e) 0 + bt (dgH a b c d e) 1)) (256 * bt (dgH a b c d e) 2 + bt (dgH a b c d e) 3)) (256 * bt (dgH a b c d e) 4 + bt (dgH a b c d e) 5) = x at *
  generalize ones (dgH a b c d e) = o at *
  unfold fw
  split <;> omega
theorem ones_none : ones (⟨#[]⟩ : ByteArray) = 65535 := by
  refine Ev.det (ones_spec _ (by show 0 ≤ _; omega)) ?_
  exact ones_last _ 0 0 (by show (0 : Int) ≤ 0; omega) (by omega)

/-! ### draw -/
def Cur (b : List Int) (i : Int) : Prop := 0 ≤ i ∧ i ≤ (b.length : Int)
theorem new_loop (b : List Int) : ∀ (d : Nat) (i x : Int), 0 ≤ i → i ≤ 4000 → 4000 - i ≤ d → ∃ h, ∀ k, d < k → spec_l01New.l0 k b x i = some (b, 0, h) := by
  intro d
  induction d with
  | zero =>
    intro i x h0 h1 hd
    refine ⟨x, fun k hk => ?_⟩
    obtain ⟨k, rfl⟩ : ∃ m, k = m + 1 := ⟨k - 1, by omega⟩
    simp only [spec_l01New.l0]
    by_cases hl : i < (b.length : Int)
    · rw [if_pos hl, if_neg (by omega)]
    · rw [if_neg hl]
  | succ d ih =>
    intro i x h0 h1 hd
    by_cases hl : i < (b.length : Int) ∧ i < 4000
    · obtain ⟨h, ih⟩ := ih (i + 1) (Go.bits .and .i64 (wrap64 ((wrap64 ((wrap64 (x * 131)) + (wrap64 (rd b i)))) + 7)) 1073741823) (by omega) (by omega) (by omega)
      refine ⟨h, fun k hk => ?_⟩
      obtain ⟨k, rfl⟩ : ∃ m, k = m + 1 := ⟨k - 1, by omega⟩
      simp only [spec_l01New.l0]
      rw [if_pos hl.1, if_pos hl.2, if_pos h0, w64 (x := i + 1) (by omega) (by omega)]
      exact ih k (by omega)
    · refine ⟨x, fun k hk => ?_⟩
      obtain ⟨k, rfl⟩ : ∃ m, k = m + 1 := ⟨k - 1, by omega⟩
      simp only [spec_l01New.l0]
      by_cases hl2 : i < (b.length : Int)
      · rw [if_pos hl2, if_neg (by omega)]
      · rw [if_neg hl2]
theorem new_ok (b : List Int) : ∃ h, Ev (fun k => spec_l01New.f k b) (b, 0, h) := by
  obtain ⟨h, hk⟩ := new_loop b 4000 0 (wrap64 (37401 + (b.length : Int))) (by omega) (by omega) (by omega)
  exact ⟨h, 4001, fun k h1 => hk k (by omega)⟩
theorem cur_zero (b : List Int) : Cur b 0 := ⟨by omega, by omega⟩
theorem byte_ok {b : List Int} {i : Int} (h : Int) (hb : b.length ≤ 1048576) (hi : Cur b i) : ∃ v i' h', spec_l01Byte.f b i h = some (v, i', h') ∧ (0 ≤ v ∧ v ≤ 255) ∧ Cur b i' := by
  obtain ⟨h0, h1⟩ := hi
  unfold spec_l01Byte.f
  by_cases hl : i < (b.length : Int)
  · rw [if_pos hl, if_pos h0]
    refine ⟨_, _, _, rfl, ?_, ?_⟩
    · rw [and255]; omega
    · rw [w64 (by omega) (by omega)]; exact ⟨by omega, by omega⟩
  · rw [if_neg hl]
    refine ⟨_, _, _, rfl, ?_, h0, h1⟩
    rw [and255]; omega
theorem tmod_below {x n : Int} (hx : 0 ≤ x) (hn : 0 < n) : 0 ≤ Int.tmod x n ∧ Int.tmod x n < n := by
  rw [Int.tmod_eq_emod_of_nonneg hx]
  exact ⟨Int.emod_nonneg _ (by omega), Int.emod_lt_of_pos _ hn⟩
theorem below_ok {b : List Int} {i : Int} (h n : Int) (hb : b.length ≤ 1048576) (hi : Cur b i) : ∃ v i' h', spec_l01Below.f b i h n = some (v, i', h') ∧ (0 ≤ v ∧ (0 < n → v < n) ∧ (n ≤ 0 → v = 0)) ∧ Cur b i' := by
  unfold spec_l01Below.f
  by_cases hn : n ≤ 0
  · rw [if_pos hn]
    exact ⟨0, i, h, rfl, ⟨by omega, fun h => by omega, fun _ => rfl⟩, hi⟩
  · rw [if_neg hn]
    by_cases hs : n ≤ 256
    · rw [if_pos hs]
      obtain ⟨v, i', h', e, hv, hi'⟩ := byte_ok h hb hi
      rw [e]
      simp only [Option.bind_some]
      rw [if_neg (by omega)]
      have := tmod_below hv.1 (show 0 < n by omega)
      exact ⟨_, _, _, rfl, ⟨this.1, fun _ => this.2, fun h => absurd h hn⟩, hi'⟩
    · rw [if_neg hs]
      obtain ⟨v1, i1, h1, e1, hv1, hi1⟩ := byte_ok h hb hi
      rw [e1]
      simp only [Option.bind_some]
      obtain ⟨v2, i2, h2, e2, hv2, hi2⟩ := byte_ok h1 hb hi1
      rw [e2]
      simp only [Option.bind_some]
      obtain ⟨v3, i3, h3, e3, hv3, hi3⟩ := byte_ok h2 hb hi2
      rw [e3]
      simp only [Option.bind_some]
      obtain ⟨v4, i4, h4, e4, hv4, hi4⟩ := byte_ok h3 hb hi3
      rw [e4]
      simp only [Option.bind_some]
      rw [if_neg (by omega)]
      rw [w64 (x := v1 * 16777216) (by omega) (by omega), w64 (x := v2 * 65536) (by omega) (by omega), w64 (x := v3 * 256) (by omega) (by omega), w64 (x := v1 * 16777216 + v2 * 65536) (by omega) (by omega),
        w64 (x := v1 * 16777216 + v2 * 65536 + v3 * 256) (by omega) (by omega), w64 (x := v1 * 16777216 + v2 * 65536 + v3 * 256 + v4) (by omega) (by omega)]
      have := tmod_below (show 0 ≤ v1 * 16777216 + v2 * 65536 + v3 * 256 + v4 by omega) (show 0 < n by omega)
      exact ⟨_, _, _, rfl, ⟨this.1, fun _ => this.2, fun h => absurd h hn⟩, hi4⟩
theorem big_eq (b : List Int) : laws_big.f b = some (decide ((b.length : Int) > 1048576)) := rfl

/-! ### tot -/
/-- A row of calls that comes to an answer of a kind. -/
def Tot {α : Type} (g : Nat → Option α) (P : α → Prop) : Prop := ∃ r, Ev g r ∧ P r
theorem Tot.bind {α β : Type} {g : Nat → Option α} {f : Nat → α → Option β} {P : α → Prop} {Q : β → Prop} (h : Tot g P) (h2 : ∀ r, P r → Tot (fun k => f k r) Q) : Tot (fun k => (g k).bind (f k)) Q := by
  obtain ⟨r, e, hr⟩ := h
  obtain ⟨q, e2, hq⟩ := h2 r hr
  exact ⟨q, Ev.bind e e2, hq⟩
theorem Tot.ret {α : Type} {P : α → Prop} (r : α) (h : P r) : Tot (fun _ => some r) P := ⟨r, Ev.now _, h⟩
theorem Tot.step {α : Type} {F f : Nat → Option α} {P : α → Prop} (hs : ∀ k, F (k + 1) = f k) (h : Tot f P) : Tot F P := by
  obtain ⟨r, e, hr⟩ := h
  exact ⟨r, Ev.step hs e, hr⟩
theorem Tot.mono {α : Type} {g : Nat → Option α} {P Q : α → Prop} (h : Tot g P) (hpq : ∀ r, P r → Q r) : Tot g Q := by
  obtain ⟨r, e, hr⟩ := h
  exact ⟨r, e, hpq r hr⟩
theorem Tot.of_some {α : Type} {o : Option α} {P : α → Prop} (r : α) (e : o = some r) (h : P r) : Tot (fun _ => o) P := ⟨r, ⟨0, fun _ _ => e⟩, h⟩
theorem tByte {b : List Int} {i : Int} (h : Int) (hb : b.length ≤ 1048576) (hi : Cur b i) : Tot (fun _ => spec_l01Byte.f b i h) (fun r => (0 ≤ r.1 ∧ r.1 ≤ 255) ∧ Cur b r.2.1) := by
  obtain ⟨v, i', h', e, hv, hi'⟩ := byte_ok h hb hi
  exact Tot.of_some _ e ⟨hv, hi'⟩
theorem tBelow {b : List Int} {i : Int} (h n : Int) (hb : b.length ≤ 1048576) (hi : Cur b i) : Tot (fun _ => spec_l01Below.f b i h n) (fun r => (0 ≤ r.1 ∧ (0 < n → r.1 < n) ∧ (n ≤ 0 → r.1 = 0)) ∧ Cur b r.2.1) := by
  obtain ⟨v, i', h', e, hv, hi'⟩ := below_ok h n hb hi
  exact Tot.of_some _ e ⟨hv, hi'⟩
theorem rd_mem {l : List Int} {i : Int} (h0 : 0 ≤ i) (h1 : i < (l.length : Int)) : rd l i ∈ l := by
  unfold rd
  rw [List.getD_eq_getElem?_getD, List.getElem?_eq_getElem (by omega), Option.getD_some]
  exact List.getElem_mem _
theorem tPick {b : List Int} {i : Int} (h : Int) (l : List Int) (hb : b.length ≤ 1048576) (hi : Cur b i) (hl : 0 < l.length) : Tot (fun _ => spec_l01PickInt.f b i h l) (fun r => r.1 ∈ l ∧ Cur b r.2.1) := by
  obtain ⟨v, i', h', e, hv, hi'⟩ := below_ok h (l.length : Int) hb hi
  have h1 := hv.2.1 (by omega)
  refine Tot.of_some (rd l v, i', h') ?_ ⟨rd_mem hv.1 h1, hi'⟩
  unfold spec_l01PickInt.f
  rw [e]
  simp only [Option.bind_some]
  rw [if_pos hv.1, if_pos h1]
theorem tOnce {b : List Int} {i : Int} (h n : Int) (hb : b.length ≤ 1048576) (hi : Cur b i) : Tot (fun _ => spec_l01Once.f b i h n) (fun r => Cur b r.2.1) := by
  obtain ⟨v, i', h', e, _, hi'⟩ := below_ok h n hb hi
  refine Tot.of_some (v == 0, i', h') ?_ hi'
  unfold spec_l01Once.f
  rw [e]
  rfl

/-! ### text -/
theorem text_loop {b : List Int} (hb : b.length ≤ 1048576) (n : Int) (hn : n ≤ 5000) : ∀ (d : Nat) (acc : List Int) (j : Int) (i h : Int), Cur b i → (acc.length : Int) = j → n - j ≤ d → (j ≤ n ∨ j = 0) →
    Tot (fun k => spec_l01Text.l0 k n acc j b i h) (fun r => (r.1.size : Int) = mx 0 n ∧ Cur b r.2.1) := by
  intro d
  induction d with
  | zero =>
    intro acc j i h hi hl hd hj
    refine Tot.step (f := fun _ => some (strOfNums acc, i, h)) (fun k => by simp only [spec_l01Text.l0]; rw [if_neg (by omega)]) (Tot.ret _ ⟨?_, hi⟩)
    rw [strOfNums_size]
    unfold mx
    split <;> omega
  | succ d ih =>
    intro acc j i h hi hl hd hj
    by_cases hjn : j < n
    · refine Tot.step (fun k => rfl) ?_
      simp only [spec_l01Text.l0, if_pos hjn]
      refine Tot.bind (tByte h hb hi) fun r hr => ?_
      have hlen : acc.length < 140737488355328 := by omega
      simp only [if_pos hlen]
      rw [w64 (by omega) (by omega)]
      exact ih (acc ++ [r.1 % 256]) (j + 1) r.2.1 r.2.2 hr.2 (by rw [List.length_append, List.length_singleton]; omega) (by omega) (by omega)
    · refine Tot.step (f := fun _ => some (strOfNums acc, i, h)) (fun k => by simp only [spec_l01Text.l0]; rw [if_neg hjn]) (Tot.ret _ ⟨?_, hi⟩)
      rw [strOfNums_size]
      unfold mx
      split <;> omega
theorem tText {b : List Int} {i : Int} (h n : Int) (hb : b.length ≤ 1048576) (hi : Cur b i) : Tot (fun k => spec_l01Text.f k b i h n) (fun r => r.1.size ≤ 5000 ∧ (0 ≤ n → n ≤ 5000 → (r.1.size : Int) = n) ∧ Cur b r.2.1) := by
  unfold spec_l01Text.f
  by_cases hn : n > 5000
  · simp only [if_pos hn]
    refine Tot.step (f := fun k => spec_l01Text.l0 k 5000 [] 0 b i h) (fun k => rfl) ((text_loop hb 5000 (by omega) 5000 [] 0 i h hi rfl (by omega) (by omega)).mono fun r hr => ⟨?_, fun h0 h1 => absurd h1 (by omega), hr.2⟩)
    have := hr.1
    unfold mx at this
    rw [if_pos (by omega)] at this
    omega
  · simp only [if_neg hn]
    refine Tot.step (f := fun k => spec_l01Text.l0 k n [] 0 b i h) (fun k => rfl) ((text_loop hb n (by omega) 5000 [] 0 i h hi rfl (by omega) (by omega)).mono fun r hr => ?_)
    have h2 := hr.1
    unfold mx at h2
    refine ⟨?_, fun h0 h1 => ?_, hr.2⟩
    · split at h2 <;> omega
    · split at h2 <;> omega
theorem long_loop (n c : Int) (hn : n ≤ 1000000) : ∀ (d : Nat) (j : Int) (l : List Int), (l.length : Int) = n → 0 ≤ j → n - j ≤ d → j ≤ n → Tot (fun k => spec_l01Long.l0 k n c l j) (fun r => (r.size : Int) = n) := by
  intro d
  induction d with
  | zero =>
    intro j l hl h0 hd hj
    refine Tot.step (f := fun _ => some (strOfNums l)) (fun k => by simp only [spec_l01Long.l0]; rw [if_neg (by omega)]) (Tot.ret _ (by rw [strOfNums_size]; exact hl))
  | succ d ih =>
    intro j l hl h0 hd hj
    by_cases hjn : j < n
    · refine Tot.step (fun k => by simp only [spec_l01Long.l0]; rw [if_pos hjn, if_pos h0, if_pos (by omega), w64 (by omega) (by omega)]) ?_
      exact ih (j + 1) (l.set j.toNat c) (by rw [List.length_set]; exact hl) (by omega) (by omega) (by omega)
    · refine Tot.step (f := fun _ => some (strOfNums l)) (fun k => by simp only [spec_l01Long.l0]; rw [if_neg hjn]) (Tot.ret _ (by rw [strOfNums_size]; exact hl))
theorem tLong (n c : Int) (h0 : 0 ≤ n) (hn : n ≤ 1000000) : Tot (fun k => spec_l01Long.f k n c) (fun r => (r.size : Int) = n) := by
  unfold spec_l01Long.f
  simp only [if_pos h0, if_pos (show n.toNat ≤ 281474976710656 by omega)]
  exact long_loop n c hn n.toNat 0 _ (by rw [List.length_replicate]; omega) (by omega) (by omega) (by omega)

/-! ### dgdraw -/
theorem tDgram {b : List Int} {i : Int} (h : Int) (hb : b.length ≤ 1048576) (hi : Cur b i) : Tot (fun k => spec_l11Dgram.f k b i h) (fun r => r.2.2.2.2.2.1.size ≤ 5000 ∧ Cur b r.2.2.2.2.2.2.1) := by
  unfold spec_l11Dgram.f
  refine Tot.bind (tBelow h 3 hb hi) fun r hr => ?_
  refine Tot.bind (tBelow r.2.2 3 hb hr.2) fun r2 hr2 => ?_
  refine Tot.bind (tBelow r2.2.2 4 hb hr2.2) fun r3 hr3 => ?_
  refine Tot.bind (tBelow r3.2.2 30 hb hr3.2) fun r4 hr4 => ?_
  refine Tot.bind (tText r4.2.2 _ hb hr4.2) fun r5 hr5 => ?_
  refine Tot.bind (tOnce r5.2.2 4 hb hr5.2.2) fun r6 hr6 => ?_
  by_cases h6 : r6.1 = true
  · simp only [if_pos h6]
    refine Tot.bind (tPick r6.2.2 [1, 8, 64, 100, 160] hb hr6 (by simp)) fun r7 hr7 => ?_
    have h7 : 0 ≤ r7.1 ∧ r7.1 ≤ 160 := by have := hr7.1; simp at this; omega
    refine Tot.bind (tLong r7.1 66 h7.1 (by omega)) fun r8 hr8 => ?_
    exact Tot.ret _ ⟨by show r8.size ≤ 5000; omega, hr7.2⟩
  · simp only [if_neg h6]
    exact Tot.ret _ ⟨hr5.1, hr6⟩
theorem tAnyDg {b : List Int} {i : Int} (h : Int) (hb : b.length ≤ 1048576) (hi : Cur b i) : Tot (fun k => spec_l11Any.f k b i h) (fun r => r.2.2.2.2.2.1.size ≤ 5000 ∧ Cur b r.2.2.2.2.2.2.1) := by
  unfold spec_l11Any.f
  refine Tot.bind (tDgram h hb hi) fun r hr => ?_
  refine Tot.bind (tBelow _ 16 hb hr.2) fun q hq => ?_
  by_cases h0 : q.1 = 0
  · simp only [if_pos h0]
    refine Tot.bind (tPick q.2.2 _ hb hq.2 (by simp)) fun u hu => ?_
    exact Tot.ret _ ⟨hr.1, hu.2⟩
  · simp only [if_neg h0]
    by_cases h1 : q.1 = 1
    · simp only [if_pos h1]
      refine Tot.bind (tPick q.2.2 _ hb hq.2 (by simp)) fun u hu => ?_
      exact Tot.ret _ ⟨hr.1, hu.2⟩
    · simp only [if_neg h1]
      by_cases h2 : q.1 = 2
      · simp only [if_pos h2]
        refine Tot.bind (tPick q.2.2 _ hb hq.2 (by simp)) fun u hu => ?_
        exact Tot.ret _ ⟨hr.1, hu.2⟩
      · simp only [if_neg h2]
        by_cases h3 : q.1 = 3
        · simp only [if_pos h3]
          exact Tot.ret _ ⟨hr.1, hq.2⟩
        · simp only [if_neg h3]
          by_cases h4 : q.1 = 4
          · simp only [if_pos h4]
            refine Tot.bind (tPick q.2.2 [0, 160, 161] hb hq.2 (by simp)) fun u hu => ?_
            have hu1 : 0 ≤ u.1 ∧ u.1 ≤ 161 := by have := hu.1; simp at this; omega
            refine Tot.bind (tLong u.1 67 hu1.1 (by omega)) fun v hv => ?_
            exact Tot.ret _ ⟨by show v.size ≤ 5000; omega, hu.2⟩
          · simp only [if_neg h4]
            exact Tot.ret _ ⟨hr.1, hq.2⟩

/-! ### spoilt -/
theorem tSpoilt_j0 {b : List Int} {i : Int} (h : Int) (s : ByteArray) (c : Bool) (hb : b.length ≤ 1048576) (hi : Cur b i) (hs : s.size ≤ 1000000) : Tot (fun k => spec_l02Spoilt.j0 k s c b i h) (fun r => r.1.size ≤ s.size + 5000 ∧ Cur b r.2.1) := by
  refine Tot.step (fun k => rfl) ?_
  simp only [spec_l02Spoilt.j0]
  cases c
  · simp only [Bool.false_eq_true, if_false]
    exact Tot.ret _ ⟨by show s.size ≤ s.size + 5000; omega, hi⟩
  · simp only [if_true]
    by_cases h0 : (s.size : Int) > 0
    · simp only [if_pos h0]
      refine Tot.bind (tBelow h (s.size : Int) hb hi) fun r hr => ?_
      have hv := hr.1.2.1 (by omega)
      have hv0 := hr.1.1
      have hw : wrap64 (r.1 + 1) = r.1 + 1 := w64 (by omega) (by omega)
      simp only [if_pos hr.1.1, if_pos (show r.1 ≤ (s.size : Int) by omega), hw, if_pos (show (0 : Int) ≤ r.1 + 1 by omega), if_pos (show r.1 + 1 ≤ (s.size : Int) by omega)]
      refine Tot.bind (tText r.2.2 1 hb hr.2) fun q hq => ?_
      have h1 : (s.extract 0 r.1.toNat).size ≤ s.size := by rw [ByteArray.size_extract]; omega
      have h2 : (s.extract (r.1 + 1).toNat s.size).size ≤ s.size := by rw [ByteArray.size_extract]; omega
      have h4 : (s.extract 0 r.1.toNat).size + (s.extract (r.1 + 1).toNat s.size).size ≤ s.size := by rw [ByteArray.size_extract, ByteArray.size_extract]; omega
      have hq1 := hq.1
      have h3 : (s.extract 0 r.1.toNat ++ q.1).size ≤ s.size + 5000 := by rw [ByteArray.size_append]; omega
      simp only [if_pos (show (s.extract 0 r.1.toNat).size + q.1.size ≤ 9223372036854775807 by omega), if_pos (show (s.extract 0 r.1.toNat ++ q.1).size + (s.extract (r.1 + 1).toNat s.size).size ≤ 9223372036854775807 by omega)]
      exact Tot.ret _ ⟨by rw [ByteArray.size_append, ByteArray.size_append]; omega, hq.2.2⟩
    · simp only [if_neg h0]
      exact Tot.ret _ ⟨by show s.size ≤ s.size + 5000; omega, hi⟩
theorem tSpoilt {b : List Int} {i : Int} (h : Int) (s : ByteArray) (hb : b.length ≤ 1048576) (hi : Cur b i) (hs : s.size ≤ 1000000) : Tot (fun k => spec_l02Spoilt.f k b i h s) (fun r => r.1.size ≤ s.size + 5000 ∧ Cur b r.2.1) := by
  unfold spec_l02Spoilt.f
  refine Tot.bind (tBelow h 12 hb hi) fun r hr => ?_
  by_cases h0 : r.1 = 0
  · simp only [if_pos h0]
    refine Tot.bind (tText r.2.2 1 hb hr.2) fun q hq => ?_
    have hq1 := hq.1
    simp only [if_pos (show s.size + q.1.size ≤ 9223372036854775807 by omega)]
    exact Tot.ret _ ⟨by rw [ByteArray.size_append]; omega, hq.2.2⟩
  · simp only [if_neg h0]
    by_cases h1 : r.1 = 1
    · simp only [if_pos h1, w64 (x := (s.size : Int) + 1) (by omega) (by omega)]
      refine Tot.bind (tBelow r.2.2 ((s.size : Int) + 1) hb hr.2) fun q hq => ?_
      have hv := hq.1.2.1 (by omega)
      simp only [if_pos hq.1.1, if_pos (show q.1 ≤ (s.size : Int) by omega)]
      exact Tot.ret _ ⟨by rw [ByteArray.size_extract]; omega, hq.2⟩
    · simp only [if_neg h1]
      by_cases h2 : r.1 = 2
      · simp only [if_pos h2]
        exact tSpoilt_j0 _ s _ hb hr.2 hs
      · simp only [if_neg h2]
        exact tSpoilt_j0 _ s _ hb hr.2 hs

/-! ### FnDgrams -/
theorem FnDgrams : StFnDgrams.Pure := by
  intro b hb
  by_cases hbig : (b.length : Int) > 1048576
  · exact ⟨0, by unfold laws_FnDgrams.f; rw [big_eq]; simp [hbig]⟩
  · have hbl : b.length ≤ 1048576 := by omega
    obtain ⟨h, hn⟩ := new_ok b
    obtain ⟨q, e1, hq⟩ : Tot (fun k => spec_DrawDgramText.f k b) (fun _ => True) := by
      unfold spec_DrawDgramText.f
      refine Tot.bind (P := fun r => r = (b, 0, h)) ⟨_, hn, rfl⟩ fun r hr => ?_
      subst hr
      refine Tot.bind (tAnyDg h hbl (cur_zero b)) fun r hr => ?_
      exact Tot.ret _ trivial
    obtain ⟨t, e2, ht⟩ : Tot (fun k => spec_DrawReadDgram.f k b) (fun t => t.size ≤ 1000000) := by
      unfold spec_DrawReadDgram.f
      refine Tot.bind (P := fun r => r = (b, 0, h)) ⟨_, hn, rfl⟩ fun r hr => ?_
      subst hr
      refine Tot.bind (tAnyDg h hbl (cur_zero b)) fun r hr => ?_
      refine Tot.bind (P := fun t => t.1.size ≤ 5008) ⟨_, spec_DgramText_ok _ _ _ _ _ _, ?_⟩ fun t ht => ?_
      · split
        · rw [dgT_size]; omega
        · show 0 ≤ 5008; omega
      refine Tot.bind (tOnce _ 2 hbl hr.2) fun u hu => ?_
      by_cases hu1 : u.1 = true
      · simp only [if_pos hu1]
        refine Tot.bind (tSpoilt u.2.2 t.1 hbl hu (by omega)) fun v hv => ?_
        exact Tot.ret _ (by omega)
      · simp only [if_neg hu1]
        exact Tot.ret _ (by omega)
    obtain ⟨w, e3, hw⟩ : Tot (fun k => spec_DrawSumOnes.f k b) (fun t => t.size ≤ 5000) := by
      unfold spec_DrawSumOnes.f
      refine Tot.bind (P := fun r => r = (b, 0, h)) ⟨_, hn, rfl⟩ fun r hr => ?_
      subst hr
      refine Tot.bind (tBelow h 12 hbl (cur_zero b)) fun r hr => ?_
      refine Tot.bind (tText _ _ hbl hr.2) fun u hu => ?_
      exact Tot.ret _ hu.1
    obtain ⟨a1, a2, a3, a4, a5, a6⟩ := q
    -- the second half
    have half : Ev (fun k => laws_FnDgrams.j0 k b false) true := by
      refine Ev.step (fun k => rfl) ?_
      simp only [laws_FnDgrams.j0, Bool.false_eq_true, if_false]
      refine Ev.bind e2 ?_
      refine Ev.bind (impl_ReadDgram_ok t (by omega)) ?_
      refine Ev.bind (spec_ReadDgram_ok t (by omega)) ?_
      refine Ev.bind (impl_DgramText_ok _ _ _ _ _ _) ?_
      refine Ev.bind e3 ?_
      simp only [beq_self_eq_true, if_true]
      have fin : Ev (fun k => (impl_SumOnes.f k w).bind fun t421 => ((spec_SumOnes.f k w).bind fun t422 => (if t421 = t422 then ((impl_SumOnes.f k (⟨#[]⟩ : ByteArray)).bind fun t423 => (some (t423 == 65535))) else (some false)))) true := by
        refine Ev.bind (ones_impl w (by omega)) ?_
        refine Ev.bind (ones_spec w (by omega)) ?_
        simp only [if_true]
        refine Ev.bind (ones_impl _ (by show 0 ≤ _; omega)) ?_
        rw [ones_none]
        exact Ev.now _
      by_cases hr : (readDgB t).2.2.2.2.2.2 = true
      · obtain ⟨h1, h2⟩ := dg_forth t hr
        simp only [if_pos hr, if_pos h1, h2, if_true]
        exact fin
      · simp only [if_neg hr]
        exact fin
    have whole : Ev (fun k => laws_FnDgrams.f k b) true := by
      unfold laws_FnDgrams.f
      rw [big_eq]
      simp only [Option.bind_some, decide_eq_true_eq, if_neg hbig]
      refine Ev.bind e1 ?_
      refine Ev.bind (impl_DgramText_ok a1 a2 a3 a4 a5 a6) ?_
      cases hd : dgB a1 a2 a3 a4 a5 a6 with
      | true =>
        obtain ⟨_, _, _, _, _, hs, _⟩ := dgB_iff hd
        simp only [if_true]
        refine Ev.bind (impl_ReadDgram_ok (dgT a1 a2 a3 a4 a5 a6) (by rw [dgT_size]; omega)) ?_
        simp only [spec_dgB, impl_dgB, hd, Option.bind_some, bne_self_eq_false, Bool.false_eq_true, if_false, if_true, dg_back _ _ _ _ _ _ hd, beq_self_eq_true, Bool.not_true, Bool.or_self]
        have h8 : (8 : Int) ≤ ((dgT a1 a2 a3 a4 a5 a6).size : Int) := by rw [dgT_size]; omega
        simp only [if_pos h8, if_pos (show (0 : Int) ≤ 8 by omega)]
        refine Ev.bind (ones_impl _ (by rw [ByteArray.size_extract]; omega)) ?_
        rw [ones_head]
        exact half
      | false =>
        simp only [Bool.false_eq_true, if_false]
        refine Ev.bind (impl_ReadDgram_ok (⟨#[]⟩ : ByteArray) (by show 0 ≤ _; omega)) ?_
        simp only [spec_dgB, impl_dgB, hd, Option.bind_some, bne_self_eq_false, Bool.false_eq_true, if_false]
        exact half
    exact Ev.ex whole

end Go.Proofs.Ytjijbffecppeiaa.Pure
