/- The pure statement of the law 'FnExactReadDgram', proved: over numbers, lists and texts alone. No condition. -/
import Derived.Test.YtakapoionaaimaaStFnExactReadDgram
import Derived.Laws.BitsLemmas
namespace Go.Proofs.Ytakapoionaaimaa.Pure
open Go.RowKit Go.Proofs.Ytakapoionaaimaa.QFnExactReadDgram Go.Proofs.YtakapoionaaimaaW.PrintWords Go.Proofs.YtakapoionaaimaaW.PrintLast Go.Proofs.YtakapoionaaimaaW.PrintMore Go.Proofs.Ytakapoionaaimaa.StFnExactReadDgram Go.Proofs.Ytakapoionaaimaa.Opens
set_option linter.unusedVariables false
set_option linter.unusedSimpArgs false

/-! ### base -/
theorem w64 {x : Int} (h0 : -9223372036854775808 ≤ x) (h1 : x ≤ 9223372036854775807) : wrap64 x = x := by unfold wrap64; omega
theorem w64_range (x : Int) : -9223372036854775808 ≤ wrap64 x ∧ wrap64 x ≤ 9223372036854775807 := by unfold wrap64; omega
theorem ip {α : Type} {c : Prop} [Decidable c] {a b : α} (h : c) : (if c then a else b) = a := if_pos h
theorem ineg {α : Type} {c : Prop} [Decidable c] {a b : α} (h : ¬ c) : (if c then a else b) = b := if_neg h
theorem wf_range {n : Int} (h : (Lit.int .i64 n).wf = true) : -9223372036854775808 ≤ n ∧ n ≤ 9223372036854775807 := by
  simp only [Lit.wf, IntKind.min, IntKind.max, IntKind.signed, IntKind.bits, Bool.and_eq_true, decide_eq_true_eq, if_true] at h
  omega
theorem wf_u8 {n : Int} (h : (Lit.int .u8 n).wf = true) : 0 ≤ n ∧ n ≤ 255 := by
  simp [Lit.wf, IntKind.min, IntKind.max, IntKind.signed, IntKind.bits] at h
  omega
theorem and_low (x : Int) (i : Nat) (hi : i ≤ 62) : Go.bits .and .i64 x (2 ^ i - 1) = x % 2 ^ i := by
  have hpos : 0 < 2 ^ i := Nat.two_pow_pos i
  have hc : ((2 : Int) ^ i - 1) = ((2 ^ i - 1 : Nat) : Int) := by rw [Int.natCast_sub hpos]; simp
  have h62 : 2 ^ i ≤ 2 ^ 62 := Nat.pow_le_pow_right (by decide) hi
  have hlt : 2 ^ i - 1 < 2 ^ 64 := by omega
  have hd : (2 ^ i : Nat) ∣ 2 ^ 64 := Nat.pow_dvd_pow 2 (by omega)
  rw [hc]
  simp only [Go.bits, BitVec.ofInt_natCast, BitVec.toNat_and, BitVec.toNat_ofNat, BitVec.toNat_ofInt]
  simp only [show IntKind.i64.bits = 64 from rfl]
  rw [Nat.mod_eq_of_lt hlt, Nat.and_two_pow_sub_one_eq_mod]
  have h1 : (((x % ((2 ^ 64 : Nat) : Int)).toNat % 2 ^ i : Nat) : Int) = x % 2 ^ i := by
    rw [Int.natCast_emod, Int.toNat_of_nonneg (Int.emod_nonneg _ (by decide))]
    rw [Int.natCast_pow]
    exact Int.emod_emod_of_dvd _ (by
      have : (((2 ^ i : Nat) : Int)) ∣ ((2 ^ 64 : Nat) : Int) := Int.natCast_dvd_natCast.2 hd
      simpa using this)
  rw [h1]
  have h2 : 0 ≤ x % 2 ^ i := Int.emod_nonneg _ (by
    have : (0 : Int) < 2 ^ i := by exact_mod_cast hpos
    omega)
  have h3 : x % 2 ^ i < 2 ^ i := Int.emod_lt_of_pos _ (by exact_mod_cast hpos)
  have h4 : (2 : Int) ^ i ≤ 2 ^ 62 := by exact_mod_cast h62
  rw [IntKind.wrap_i64]
  omega
theorem and255 (x : Int) : Go.bits .and .i64 x 255 = x % 256 := and_low x 8 (by omega)
theorem and65535 (x : Int) : Go.bits .and .i64 x 65535 = x % 65536 := and_low x 16 (by omega)
theorem and30 (x : Int) : Go.bits .and .i64 x 1073741823 = x % 1073741824 := and_low x 30 (by omega)
theorem and1 (x : Int) : Go.bits .and .i64 x 1 = x % 2 := and_low x 1 (by omega)
/-- A law's last step: both are one. -/
theorem same_end {v : Bool} : (if (v != v) = true then some false else some true : Option Bool) = some true := by simp
theorem Ev.ex {α : Type} {g : Nat → Option α} {r : α} (h : Ev g r) : ∃ k, g k = some r := h.rounds
theorem Ev.from_ {α : Type} {g : Nat → Option α} {r : α} (K : Nat) (h : ∀ k, K ≤ k → g k = some r) : Ev g r := ⟨K, h⟩
theorem Ev.both {α β : Type} {g : Nat → Option α} {f : Nat → Option β} {r : α} {q : β} (h : Ev g r) (h' : Ev f q) : ∃ K, ∀ k, K ≤ k → g k = some r ∧ f k = some q := by
  obtain ⟨K, h⟩ := h
  obtain ⟨K', h'⟩ := h'
  exact ⟨K + K', fun k hk => ⟨h k (by omega), h' k (by omega)⟩⟩

/-! ### in -/
def rng (a b c : Int) : Bool := decide (b ≤ a) && decide (a ≤ c)
theorem rng_iff {a b c : Int} : rng a b c = true ↔ b ≤ a ∧ a ≤ c := by simp [rng]
theorem rng_false {a b c : Int} : rng a b c = false ↔ ¬ (b ≤ a ∧ a ≤ c) := by rw [← rng_iff]; simp
theorem in_eq (a b c : Int) : spec_l01In.f a b c = some (rng a b c) := by
  unfold spec_l01In.f rng
  by_cases h : b ≤ a
  · rw [if_pos h]; simp [h]
  · rw [if_neg h]; simp [h]
theorem within_eq (a b c : Int) : impl_within.f a b c = some (rng a b c) := by
  unfold impl_within.f rng
  by_cases h : b ≤ a
  · rw [if_pos h]; simp [h]
  · rw [if_neg h]; simp [h]

/-! ### sumones -/
set_option maxHeartbeats 4000000 in
theorem sum_loop (s : ByteArray) (hs : s.size ≤ 1048576) : ∀ (d : Nat) (i x : Int), 0 ≤ i → i % 2 = 0 → i ≤ s.size + 1 → (s.size : Int) - i ≤ 2 * d → 0 ≤ x → x ≤ 65535 →
    ∃ r, 0 ≤ r ∧ r ≤ 65535 ∧ (∀ k, d < k → spec_SumOnes.l0 k s x i = some r) ∧ (∀ k, 2 * d < k → impl_SumOnes.l0 k s x i = some r) := by
  intro d
  induction d with
  | zero =>
    intro i x hi0 _ hi hd hx0 hx1
    refine ⟨65535 - x, by omega, by omega, fun k hk => ?_, fun k hk => ?_⟩
    · obtain ⟨k, rfl⟩ : ∃ m, k = m + 1 := ⟨k - 1, by omega⟩
      simp (disch := omega) only [spec_SumOnes.l0, ineg, w64]
    · obtain ⟨k, rfl⟩ : ∃ m, k = m + 1 := ⟨k - 1, by omega⟩
      simp (disch := omega) only [impl_SumOnes.l0, ineg, w64]
  | succ d ih =>
    intro i x hi0 he hi hd hx0 hx1
    by_cases hlt : i < (s.size : Int)
    · have hb := bt_range s i
      have hm : Int.tmod i 2 = 0 := by rw [Int.tmod_eq_emod_of_nonneg hi0]; exact he
      have hm1 : ¬ Int.tmod (i + 1) 2 = 0 := by rw [Int.tmod_eq_emod_of_nonneg (by omega)]; omega
      by_cases hl1 : i + 1 < (s.size : Int)
      · have hc := bt_range s (i + 1)
        obtain ⟨r, r0, r1, ih1, ih2⟩ := ih (i + 2) (if x + (256 * bt s i + bt s (i + 1)) > 65535 then x + (256 * bt s i + bt s (i + 1)) - 65535 else x + (256 * bt s i + bt s (i + 1))) (by omega) (by omega) (by omega) (by omega) (by split <;> omega) (by split <;> omega)
        refine ⟨r, r0, r1, fun k hk => ?_, fun k hk => ?_⟩
        · obtain ⟨k, rfl⟩ : ∃ m, k = m + 1 := ⟨k - 1, by omega⟩
          have ih1 := ih1 k (by omega)
          by_cases hg : x + (256 * bt s i + bt s (i + 1)) > 65535
          · rw [if_pos hg] at ih1
            simp (disch := omega) only [spec_SumOnes.l0, ip, ineg, w64]
            exact ih1
          · rw [if_neg hg] at ih1
            simp (disch := omega) only [spec_SumOnes.l0, ip, ineg, w64]
            exact ih1
        · obtain ⟨k, rfl⟩ : ∃ m, k = m + 1 + 1 := ⟨k - 2, by omega⟩
          have ih2 := ih2 k (by omega)
          by_cases hg1 : x + bt s i * 256 > 65535
          · rw [if_pos (by omega)] at ih2
            rw [show i + 2 = i + 1 + 1 by omega, show x + (256 * bt s i + bt s (i + 1)) - 65535 = x + bt s i * 256 - 65535 + bt s (i + 1) by omega] at ih2
            simp (disch := omega) only [impl_SumOnes.l0, ip, ineg, w64]
            exact ih2
          · by_cases hg2 : x + bt s i * 256 + bt s (i + 1) > 65535
            · rw [if_pos (by omega)] at ih2
              rw [show i + 2 = i + 1 + 1 by omega, show x + (256 * bt s i + bt s (i + 1)) - 65535 = x + bt s i * 256 + bt s (i + 1) - 65535 by omega] at ih2
              simp (disch := omega) only [impl_SumOnes.l0, ip, ineg, w64]
              exact ih2
            · rw [if_neg (by omega)] at ih2
              rw [show i + 2 = i + 1 + 1 by omega, show x + (256 * bt s i + bt s (i + 1)) = x + bt s i * 256 + bt s (i + 1) by omega] at ih2
              simp (disch := omega) only [impl_SumOnes.l0, ip, ineg, w64]
              exact ih2
      · by_cases hg : x + 256 * bt s i > 65535
        · refine ⟨65535 - (x + 256 * bt s i - 65535), by omega, by omega, fun k hk => ?_, fun k hk => ?_⟩
          · obtain ⟨k, rfl⟩ : ∃ m, k = m + 1 + 1 := ⟨k - 2, by omega⟩
            simp (disch := omega) only [spec_SumOnes.l0, ip, ineg, w64]
          · obtain ⟨k, rfl⟩ : ∃ m, k = m + 1 + 1 := ⟨k - 2, by omega⟩
            simp (disch := omega) only [impl_SumOnes.l0, ip, ineg, w64, Int.mul_comm (bt s i) 256]
        · refine ⟨65535 - (x + 256 * bt s i), by omega, by omega, fun k hk => ?_, fun k hk => ?_⟩
          · obtain ⟨k, rfl⟩ : ∃ m, k = m + 1 + 1 := ⟨k - 2, by omega⟩
            simp (disch := omega) only [spec_SumOnes.l0, ip, ineg, w64]
          · obtain ⟨k, rfl⟩ : ∃ m, k = m + 1 + 1 := ⟨k - 2, by omega⟩
            simp (disch := omega) only [impl_SumOnes.l0, ip, ineg, w64, Int.mul_comm (bt s i) 256]
    · refine ⟨65535 - x, by omega, by omega, fun k hk => ?_, fun k hk => ?_⟩
      · obtain ⟨k, rfl⟩ : ∃ m, k = m + 1 := ⟨k - 1, by omega⟩
        simp (disch := omega) only [spec_SumOnes.l0, ineg, w64]
      · obtain ⟨k, rfl⟩ : ∃ m, k = m + 1 := ⟨k - 1, by omega⟩
        simp (disch := omega) only [impl_SumOnes.l0, ineg, w64]
theorem sum_both (s : ByteArray) (hs : s.size ≤ 1048576) : ∃ r, Ev (fun k => spec_SumOnes.f k s) r ∧ Ev (fun k => impl_SumOnes.f k s) r := by
  obtain ⟨r, _, _, h1, h2⟩ := sum_loop s hs (s.size + 1) 0 0 (by omega) (by omega) (by omega) (by omega) (by omega) (by omega)
  exact ⟨r, ⟨s.size + 2, fun k hk => h1 k (by omega)⟩, ⟨2 * (s.size + 1) + 1, fun k hk => h2 k (by omega)⟩⟩

/-! ### bytes -/
theorem bytes_loop (l : List Int) (hl : l.length ≤ 2000000) : ∀ (d j : Nat) (acc : List Int), l.length - j = d → j ≤ l.length → acc.length = j → ∀ k, d < k → impl_byteTexts.l0 k acc l (l.length : Int) (j : Int) = some (strOfNums (acc ++ (l.drop j).map (· % 256))) := by
  intro d
  induction d with
  | zero =>
    intro j acc hd hj ha k hk
    obtain ⟨k, rfl⟩ : ∃ m, k = m + 1 := ⟨k - 1, by omega⟩
    simp only [impl_byteTexts.l0]
    rw [if_neg (by omega), List.drop_of_length_le (by omega)]
    simp
  | succ d ih =>
    intro j acc hd hj ha k hk
    obtain ⟨k, rfl⟩ : ∃ m, k = m + 1 := ⟨k - 1, by omega⟩
    have hjl : j < l.length := by omega
    have hget : rd l (j : Int) = l[j] := by unfold rd; simp [List.getD_eq_getElem?_getD, List.getElem?_eq_getElem hjl]
    have hdrop : l.drop j = l[j] :: l.drop (j + 1) := List.drop_eq_getElem_cons hjl
    simp only [impl_byteTexts.l0]
    rw [if_pos (by omega), if_pos (by omega), if_pos (by omega), if_pos (by omega), hget, w64 (x := (j : Int) + 1) (by omega) (by omega), hdrop]
    have := ih (j + 1) (acc ++ [l[j] % 256]) (by omega) (by omega) (by rw [List.length_append, List.length_singleton]; omega) k (by omega)
    rw [List.append_assoc] at this
    exact this
theorem bytes_ok (l : List Int) (hl : l.length ≤ 2000000) : ∀ k, l.length < k → impl_byteTexts.f k l = some (strOfNums (l.map (· % 256))) := fun k hk =>
  bytes_loop l hl l.length 0 [] (by omega) (by omega) rfl k hk
theorem two_eq (n : Int) (h : 0 ≤ n ∧ n ≤ 65535) : spec_l11Two.f n = some (strOfNums [n / 256 % 256, n % 256]) := by
  unfold spec_l11Two.f
  rw [Int.tdiv_eq_ediv_of_nonneg h.1, Int.tmod_eq_emod_of_nonneg h.1, w64 (by omega) (by omega)]
  rw [show n % 256 % 256 = n % 256 by omega]
theorem word_ok (n : Int) : ∀ k, 2 < k → impl_wordText.f k n = some (strOfNums [n / 256 % 256, n % 256]) := by
  intro k hk
  unfold impl_wordText.f
  rw [bytes_ok _ (by simp) k (by simpa using hk)]
  simp only [Option.bind_some, List.map_cons, List.map_nil, and255]
  rw [show n / 256 % 256 % 256 = n / 256 % 256 by omega, show n % 256 % 256 = n % 256 by omega]

/-! ### dgram -/
def dgB (a b c d : Int) (e : Bool) (s : ByteArray) : Bool :=
  rng a 1 99 && (rng b 1 99 && (rng c 0 65535 && (rng d 0 160 && (decide (Int.tmod d 8 = 0) && (rng (s.size : Int) 1 (wrap64 (160 - d)) && (!e || ((s.size : Int) % 8 == 0)))))))
theorem spec_dgB (a b c d : Int) (e : Bool) (s : ByteArray) : spec_DgramOk.f a b c d e s = some (dgB a b c d e s) := by
  unfold spec_DgramOk.f dgB
  simp only [in_eq, Option.bind_some]
  by_cases h8 : Int.tmod d 8 = 0
  · simp only [if_pos h8]
    cases rng a 1 99 <;> cases rng b 1 99 <;> cases rng c 0 65535 <;> cases rng d 0 160 <;> cases rng (s.size : Int) 1 (wrap64 (160 - d)) <;> cases e <;> simp [h8]
  · simp only [if_neg h8]
    cases rng a 1 99 <;> cases rng b 1 99 <;> cases rng c 0 65535 <;> cases rng d 0 160 <;> simp [h8]
theorem impl_dgB (a b c d : Int) (e : Bool) (s : ByteArray) : impl_DgramOk.f a b c d e s = some (dgB a b c d e s) := by
  unfold impl_DgramOk.f impl_isAddr.f impl_isWord.f dgB
  simp only [within_eq, Option.bind_some]
  by_cases h8 : Int.tmod d 8 = 0
  · simp only [if_pos h8]
    cases rng a 1 99 <;> cases rng b 1 99 <;> cases rng c 0 65535 <;> cases rng d 0 160 <;> cases rng (s.size : Int) 1 (wrap64 (160 - d)) <;> cases e <;> simp [h8]
  · simp only [if_neg h8]
    cases rng a 1 99 <;> cases rng b 1 99 <;> cases rng c 0 65535 <;> cases rng d 0 160 <;> simp [h8]
theorem ones_ex (s : ByteArray) : ∃ r, 0 ≤ r ∧ r ≤ 65535 ∧ (s.size ≤ 1048576 → Ev (fun k => spec_SumOnes.f k s) r ∧ Ev (fun k => impl_SumOnes.f k s) r) := by
  by_cases hs : s.size ≤ 1048576
  · obtain ⟨r, h0, h3, h1, h2⟩ := sum_loop s hs (s.size + 1) 0 0 (by omega) (by omega) (by omega) (by omega) (by omega) (by omega)
    exact ⟨r, h0, h3, fun _ => ⟨⟨s.size + 2, fun k hk => h1 k (by omega)⟩, ⟨2 * (s.size + 1) + 1, fun k hk => h2 k (by omega)⟩⟩⟩
  · exact ⟨0, by omega, by omega, fun h => absurd h hs⟩
noncomputable def ones (s : ByteArray) : Int := (ones_ex s).choose
theorem ones_range (s : ByteArray) : 0 ≤ ones s ∧ ones s ≤ 65535 := ⟨(ones_ex s).choose_spec.1, (ones_ex s).choose_spec.2.1⟩
theorem ones_spec (s : ByteArray) (h : s.size ≤ 1048576) : Ev (fun k => spec_SumOnes.f k s) (ones s) := ((ones_ex s).choose_spec.2.2 h).1
theorem ones_impl (s : ByteArray) (h : s.size ≤ 1048576) : Ev (fun k => impl_SumOnes.f k s) (ones s) := ((ones_ex s).choose_spec.2.2 h).2
def dgH (a b c d : Int) (e : Bool) : ByteArray := strOfNums [a % 256, b % 256] ++ strOfNums [c / 256 % 256, c % 256] ++ strOfNums [wrap64 (Int.tdiv d 8) % 256, if e = true then 1 else 0]
theorem dgH_size (a b c d : Int) (e : Bool) : (dgH a b c d e).size = 6 := by
  unfold dgH
  simp only [ByteArray.size_append, strOfNums_size, List.length_cons, List.length_nil]
noncomputable def dgT (a b c d : Int) (e : Bool) (s : ByteArray) : ByteArray := dgH a b c d e ++ strOfNums [ones (dgH a b c d e) / 256 % 256, ones (dgH a b c d e) % 256] ++ s
theorem dgB_iff {a b c d : Int} {e : Bool} {s : ByteArray} (h : dgB a b c d e s = true) : (1 ≤ a ∧ a ≤ 99) ∧ (1 ≤ b ∧ b ≤ 99) ∧ (0 ≤ c ∧ c ≤ 65535) ∧ (0 ≤ d ∧ d ≤ 160) ∧ d % 8 = 0 ∧ (1 ≤ (s.size : Int) ∧ (s.size : Int) ≤ 160 - d) ∧ (e = true → (s.size : Int) % 8 = 0) := by
  unfold dgB at h
  simp only [Bool.and_eq_true, decide_eq_true_eq, rng_iff, Bool.or_eq_true, Bool.not_eq_true', beq_iff_eq] at h
  obtain ⟨ha, hb, hc, hd, h8, hs, he⟩ := h
  rw [w64 (by omega) (by omega)] at hs
  rw [Int.tmod_eq_emod_of_nonneg hd.1] at h8
  refine ⟨ha, hb, hc, hd, h8, hs, fun h => ?_⟩
  rcases he with he | he
  · rw [h] at he; cases he
  · exact he
theorem spec_head (a b c d : Int) (e : Bool) (s : ByteArray) (hc : 0 ≤ c ∧ c ≤ 65535) : spec_l11Head.f a b c d e s = some (dgH a b c d e) := by
  unfold spec_l11Head.f dgH
  cases e
  · simp only [Bool.false_eq_true, if_false, Option.bind_some, two_eq c hc]
    rw [if_pos (by simp only [strOfNums_size, List.length_cons, List.length_nil]; omega), if_pos (by simp only [ByteArray.size_append, strOfNums_size, List.length_cons, List.length_nil]; omega)]
  · simp only [if_true, Option.bind_some, two_eq c hc]
    rw [if_pos (by simp only [strOfNums_size, List.length_cons, List.length_nil]; omega), if_pos (by simp only [ByteArray.size_append, strOfNums_size, List.length_cons, List.length_nil]; omega)]
theorem spec_DgramText_ok (a b c d : Int) (e : Bool) (s : ByteArray) : Ev (fun k => spec_DgramText.f k a b c d e s) (if dgB a b c d e s = true then (dgT a b c d e s, true) else ((⟨#[]⟩ : ByteArray), false)) := by
  unfold spec_DgramText.f
  simp only [spec_dgB, Option.bind_some]
  by_cases h : dgB a b c d e s = true
  · obtain ⟨_, _, hc, hd, _, hs, _⟩ := dgB_iff h
    have h6 := dgH_size a b c d e
    simp only [if_pos h, spec_head a b c d e s hc, Option.bind_some]
    refine Ev.bind (ones_spec _ (by omega)) ?_
    simp only [two_eq _ (ones_range _), Option.bind_some]
    have h1 : (dgH a b c d e).size + (strOfNums [ones (dgH a b c d e) / 256 % 256, ones (dgH a b c d e) % 256]).size ≤ 9223372036854775807 := by rw [h6, strOfNums_size]; simp only [List.length_cons, List.length_nil]; omega
    have h2 : (dgH a b c d e ++ strOfNums [ones (dgH a b c d e) / 256 % 256, ones (dgH a b c d e) % 256]).size + s.size ≤ 9223372036854775807 := by rw [ByteArray.size_append, h6, strOfNums_size]; simp only [List.length_cons, List.length_nil]; omega
    simp only [if_pos h1, if_pos h2]
    exact Ev.now _
  · simp only [if_neg h]
    exact Ev.now _
theorem impl_DgramText_ok (a b c d : Int) (e : Bool) (s : ByteArray) : Ev (fun k => impl_DgramText.f k a b c d e s) (if dgB a b c d e s = true then (dgT a b c d e s, true) else ((⟨#[]⟩ : ByteArray), false)) := by
  unfold impl_DgramText.f
  simp only [impl_dgB, Option.bind_some]
  by_cases h : dgB a b c d e s = true
  · obtain ⟨_, _, hc, hd, _, hs, _⟩ := dgB_iff h
    have h6 := dgH_size a b c d e
    simp only [if_pos h]
    refine Ev.bind ⟨3, fun k hk => bytes_ok [a, b] (by simp) k (by simp only [List.length_cons, List.length_nil]; omega)⟩ ?_
    refine Ev.bind ⟨3, fun k hk => word_ok c k (by omega)⟩ ?_
    have h0 : (strOfNums ([a, b].map (· % 256))).size + (strOfNums [c / 256 % 256, c % 256]).size ≤ 9223372036854775807 := by rw [strOfNums_size, strOfNums_size]; simp
    simp only [if_pos h0]
    have hf : impl_flag.f e = some (if e = true then 1 else 0) := by unfold impl_flag.f; cases e <;> rfl
    simp only [hf, Option.bind_some]
    refine Ev.bind ⟨3, fun k hk => bytes_ok [wrap64 (Int.tdiv d 8), if e = true then 1 else 0] (by simp) k (by simp only [List.length_cons, List.length_nil]; omega)⟩ ?_
    have e1 : strOfNums ([a, b].map (· % 256)) ++ strOfNums [c / 256 % 256, c % 256] ++ strOfNums ([wrap64 (Int.tdiv d 8), if e = true then (1 : Int) else 0].map (· % 256)) = dgH a b c d e := by
      unfold dgH
      cases e <;> rfl
    have h3 : (strOfNums ([a, b].map (· % 256)) ++ strOfNums [c / 256 % 256, c % 256]).size + (strOfNums ([wrap64 (Int.tdiv d 8), if e = true then (1 : Int) else 0].map (· % 256))).size ≤ 9223372036854775807 := by
      rw [ByteArray.size_append, strOfNums_size, strOfNums_size, strOfNums_size]; simp
    simp only [if_pos h3, e1]
    refine Ev.bind (ones_impl _ (by omega)) ?_
    refine Ev.bind ⟨3, fun k hk => word_ok _ k (by omega)⟩ ?_
    have h1 : (dgH a b c d e).size + (strOfNums [ones (dgH a b c d e) / 256 % 256, ones (dgH a b c d e) % 256]).size ≤ 9223372036854775807 := by rw [h6, strOfNums_size]; simp only [List.length_cons, List.length_nil]; omega
    have h2 : (dgH a b c d e ++ strOfNums [ones (dgH a b c d e) / 256 % 256, ones (dgH a b c d e) % 256]).size + s.size ≤ 9223372036854775807 := by rw [ByteArray.size_append, h6, strOfNums_size]; simp only [List.length_cons, List.length_nil]; omega
    simp only [if_pos h1, if_pos h2]
    exact Ev.now _
  · simp only [if_neg h]
    exact Ev.now _

/-! ### bl -/
theorem bl_inj {s t : ByteArray} (h : bytesOf s = bytesOf t) : s = t := by
  unfold bytesOf at h
  have h2 : s.data.toList = t.data.toList := by
    apply List.ext_getElem?
    intro i
    have h3 := congrArg (fun l => l[i]?) h
    simp only [List.getElem?_map] at h3
    cases h4 : s.data.toList[i]? <;> cases h5 : t.data.toList[i]? <;> rw [h4, h5] at h3 <;> simp at h3 ⊢
    exact UInt8.toNat_inj.1 (by omega)
  exact ByteArray.ext (by rw [← Array.toArray_toList (xs := s.data), h2])
theorem bl_app (s t : ByteArray) : bytesOf (s ++ t) = bytesOf s ++ bytesOf t := by
  unfold bytesOf
  rw [ByteArray.toList_data_append, List.map_append]
theorem bl_ext (s : ByteArray) (a b : Nat) : bytesOf (s.extract a b) = ((bytesOf s).drop a).take (b - a) := by
  unfold bytesOf
  rw [ByteArray.data_extract, Array.toList_extract, ← List.map_drop, ← List.map_take] <;> simp [List.extract_eq_drop_take]
theorem bl_range {s : ByteArray} : ∀ x ∈ bytesOf s, 0 ≤ x ∧ x ≤ 255 := by
  intro x hx
  obtain ⟨b, _, rfl⟩ := List.mem_map.1 hx
  have := b.toNat_lt
  omega
theorem bl_str {l : List Int} (h : ∀ x ∈ l, 0 ≤ x ∧ x ≤ 255) : bytesOf (strOfNums l) = l := by
  unfold bytesOf
  rw [strOfNums_data, List.map_map]
  have : ∀ x ∈ l, ((fun b : UInt8 => (b.toNat : Int)) ∘ fun n : Int => UInt8.ofNat n.toNat) x = x := by
    intro x hx
    have := h x hx
    simp only [Function.comp, UInt8.toNat_ofNat']
    omega
  rw [List.map_congr_left this, List.map_id']
theorem str_bl (s : ByteArray) : strOfNums (bytesOf s) = s := bl_inj (bl_str bl_range)
theorem bl_empty : bytesOf (⟨#[]⟩ : ByteArray) = [] := rfl
theorem bt_bl (s : ByteArray) (i : Int) : bt s i = rd (bytesOf s) i := (rd_bytesOf s i).symm
theorem toList_iff {s t : ByteArray} : s.toList = t.toList ↔ s = t := by
  rw [ByteArray.toList_eq, ByteArray.toList_eq]
  constructor
  · intro h; exact ByteArray.ext (by rw [← Array.toArray_toList (xs := s.data), h])
  · intro h; rw [h]
theorem toList_nil {s : ByteArray} : s.toList = ([] : List UInt8) ↔ bytesOf s = [] := by
  rw [ByteArray.toList_eq]
  unfold bytesOf
  simp

/-! ### scan -/
theorem one_bad (s : ByteArray) (a : Int) : impl_scan_one.f s a true = some (0, s, a, true) := by unfold impl_scan_one.f; rw [if_pos rfl]
theorem one_end (s : ByteArray) (a : Int) (h : a ≥ (s.size : Int)) (b : Bool) : impl_scan_one.f s a b = some (0, s, a, true) := by
  unfold impl_scan_one.f
  by_cases hb : b = true
  · rw [if_pos hb]
  · rw [if_neg hb, if_pos h]
theorem one_ok (s : ByteArray) (a : Int) (h0 : 0 ≤ a) (h : a < (s.size : Int)) (hs : s.size ≤ 9000000000000000000) : impl_scan_one.f s a false = some (bt s a, s, a + 1, false) := by
  unfold impl_scan_one.f
  have hb := bt_range s a
  rw [if_neg (by simp), if_neg (by omega), w64 (x := a + 1) (by omega) (by omega), show a + 1 - 1 = a by omega, w64 (x := a) (by omega) (by omega), if_pos h0, if_pos h, w64 (by omega) (by omega)]
theorem rest_bad (s : ByteArray) (a : Int) : impl_scan_rest.f s a true = some ((⟨#[]⟩ : ByteArray), s, a, true) := by unfold impl_scan_rest.f; rw [if_pos rfl]
theorem rest_ok (s : ByteArray) (a : Int) (h0 : 0 ≤ a) (h : a ≤ (s.size : Int)) : impl_scan_rest.f s a false = some (s.extract a.toNat s.size, s, (s.size : Int), false) := by
  unfold impl_scan_rest.f
  rw [if_neg (by simp), if_pos h0, if_pos h]
theorem done_bad (s : ByteArray) (a : Int) : impl_scan_done.f s a true = some (false, s, a, true) := by unfold impl_scan_done.f; rw [if_pos rfl]
theorem done_ok (s : ByteArray) (a : Int) : impl_scan_done.f s a false = some ((a == (s.size : Int)), s, a, false) := by unfold impl_scan_done.f; rw [if_neg (by simp)]

/-! ### scanany -/
-- What a scan has done by the place n: it has come to an end ahead of it, or it stands there.
def At (s : ByteArray) (n : Nat) (a : Int) (c : Bool) : Prop := (c = true ∧ s.size < n) ∨ (c = false ∧ a = (n : Int) ∧ n ≤ s.size)
theorem one_at (s : ByteArray) (n : Nat) (a : Int) (c : Bool) (h : At s n a c) (hs : s.size ≤ 9000000000000000000) : ∃ v i c', impl_scan_one.f s a c = some (v, s, i, c') ∧ At s (n + 1) i c' ∧ (n + 1 ≤ s.size → v = bt s n) := by
  rcases h with ⟨rfl, h⟩ | ⟨rfl, rfl, h⟩
  · exact ⟨_, _, _, one_bad s a, .inl ⟨rfl, by omega⟩, fun h2 => by omega⟩
  · by_cases h2 : n < s.size
    · exact ⟨_, _, _, one_ok s n (by omega) (by omega) hs, .inr ⟨rfl, by omega, by omega⟩, fun _ => rfl⟩
    · exact ⟨_, _, _, one_end s n (by omega) false, .inl ⟨rfl, by omega⟩, fun h3 => by omega⟩
theorem or256 (x y : Int) (hx : 0 ≤ x ∧ x ≤ 255) (hy : 0 ≤ y ∧ y ≤ 255) : Go.bits .or .i64 (x * 256) y = x * 256 + y := by
  obtain ⟨a, rfl⟩ : ∃ a : Nat, x = a := ⟨x.toNat, by omega⟩
  obtain ⟨c, rfl⟩ : ∃ c : Nat, y = c := ⟨y.toNat, by omega⟩
  have ha : a ≤ 255 := by omega
  have hc : c < 2 ^ 8 := by omega
  have e : ((a : Int) * 256) = ((2 ^ 8 * a : Nat) : Int) := by omega
  rw [e]
  simp only [Go.bits, BitVec.ofInt_natCast, BitVec.toNat_or, BitVec.toNat_ofNat, show IntKind.i64.bits = 64 from rfl]
  rw [Nat.mod_eq_of_lt (by omega), Nat.mod_eq_of_lt (by omega), ← Nat.two_pow_add_eq_or_of_lt hc, IntKind.wrap_i64]
  omega
theorem word_at (s : ByteArray) (n : Nat) (a : Int) (c : Bool) (h : At s n a c) (hs : s.size ≤ 9000000000000000000) : ∃ v i c', impl_scan_word.f s a c = some (v, s, i, c') ∧ At s (n + 2) i c' ∧ (n + 2 ≤ s.size → v = bt s n * 256 + bt s (n + 1 : Nat)) := by
  obtain ⟨v, i, c1, e, h1, q1⟩ := one_at s n a c h hs
  obtain ⟨v2, i2, c2, e2, h2, q2⟩ := one_at s (n + 1) i c1 h1 hs
  unfold impl_scan_word.f
  rw [e]
  simp only [Option.bind_some]
  rw [e2]
  simp only [Option.bind_some]
  refine ⟨_, _, _, rfl, h2, fun h3 => ?_⟩
  have b0 := bt_range s n
  have b1 := bt_range s ((n + 1 : Nat) : Int)
  rw [q1 (by omega), q2 (by omega), w64 (by omega) (by omega), or256 _ _ b0 b1]

/-! ### readdgram -/
theorem bl_dgT (a b c d : Int) (e : Bool) (s : ByteArray) : bytesOf (dgT a b c d e s) = [a % 256, b % 256, c / 256 % 256, c % 256, wrap64 (Int.tdiv d 8) % 256, if e = true then 1 else 0, ones (dgH a b c d e) / 256 % 256, ones (dgH a b c d e) % 256] ++ bytesOf s := by
  have ho := ones_range (dgH a b c d e)
  have hH : bytesOf (dgH a b c d e) = [a % 256, b % 256, c / 256 % 256, c % 256, wrap64 (Int.tdiv d 8) % 256, if e = true then 1 else 0] := by
    unfold dgH
    rw [bl_app, bl_app, bl_str (by intro x hx; simp at hx; omega), bl_str (by intro x hx; simp at hx; omega), bl_str (by intro x hx; simp at hx; rcases hx with rfl | rfl; (omega); (cases e <;> simp))]
    rfl
  unfold dgT
  rw [bl_app, bl_app, hH, bl_str (by intro x hx; simp at hx; omega)]
  rfl
def noDg : Int × Int × Int × Int × Bool × ByteArray × Bool := (0, 0, 0, 0, false, (⟨#[]⟩ : ByteArray), false)
open Classical in
noncomputable def readDgB (s : ByteArray) : Int × Int × Int × Int × Bool × ByteArray × Bool :=
  if 8 ≤ s.size ∧ dgB (bt s 0) (bt s 1) (bt s 2 * 256 + bt s 3) (8 * bt s 4) (bt s 5 == 1) (s.extract 8 s.size) = true ∧ dgT (bt s 0) (bt s 1) (bt s 2 * 256 + bt s 3) (8 * bt s 4) (bt s 5 == 1) (s.extract 8 s.size) = s then
    (bt s 0, bt s 1, bt s 2 * 256 + bt s 3, 8 * bt s 4, bt s 5 == 1, s.extract 8 s.size, true) else noDg
/-- What both do with what they have written once more. -/
theorem dg_end {k0 : Int × Int × Int × Int × Bool × ByteArray × Bool} (c : Bool) (t s : ByteArray) :
    (if (if c = true then (t, true) else ((⟨#[]⟩ : ByteArray), false)).2 = true then (if (if c = true then (t, true) else ((⟨#[]⟩ : ByteArray), false)).1.toList = s.toList then some k0 else some noDg) else some noDg) = if c = true ∧ t = s then some k0 else some noDg := by
  cases c
  · simp
  · simp [toList_iff]
theorem impl_ReadDgram_ok (s : ByteArray) (hs : s.size ≤ 1048576) : Ev (fun k => impl_ReadDgram.f k s) (readDgB s) := by
  obtain ⟨v0, i0, c0, e0, p0, q0⟩ := one_at s 0 0 false (.inr ⟨rfl, rfl, by omega⟩) (by omega)
  obtain ⟨v1, i1, c1, e1, p1, q1⟩ := one_at s 1 i0 c0 p0 (by omega)
  obtain ⟨v2, i2, c2, e2, p2, q2⟩ := word_at s 2 i1 c1 p1 (by omega)
  obtain ⟨v3, i3, c3, e3, p3, q3⟩ := one_at s 4 i2 c2 p2 (by omega)
  obtain ⟨v4, i4, c4, e4, p4, q4⟩ := one_at s 5 i3 c3 p3 (by omega)
  obtain ⟨v5, i5, c5, e5, p5, q5⟩ := word_at s 6 i4 c4 p4 (by omega)
  unfold impl_ReadDgram.f
  rw [e0]
  simp only [Option.bind_some]
  rw [e1]
  simp only [Option.bind_some]
  rw [e2]
  simp only [Option.bind_some]
  rw [e3]
  simp only [Option.bind_some]
  rw [e4]
  simp only [Option.bind_some]
  rw [e5]
  simp only [Option.bind_some]
  rcases p5 with ⟨rfl, h8⟩ | ⟨rfl, rfl, h8⟩
  · rw [rest_bad]
    simp only [Option.bind_some]
    refine Ev.bind (impl_DgramText_ok _ _ _ _ _ _) ?_
    rw [done_bad]
    simp only [Option.bind_some, Bool.false_eq_true, if_false]
    have : readDgB s = noDg := by
      unfold readDgB
      exact if_neg (fun h => by have := h.1; omega)
    rw [this]
    exact Ev.now _
  · rw [rest_ok s ((6 + 2 : Nat) : Int) (by omega) (by omega)]
    simp only [Option.bind_some]
    refine Ev.bind (impl_DgramText_ok _ _ _ _ _ _) ?_
    rw [done_ok]
    simp only [Option.bind_some, beq_self_eq_true, if_true]
    have b4 := bt_range s 4
    have f0 : v0 = bt s 0 := q0 (by omega)
    have f1 : v1 = bt s 1 := q1 (by omega)
    have f2 : v2 = bt s 2 * 256 + bt s 3 := q2 (by omega)
    have f3 : v3 = bt s 4 := q3 (by omega)
    have f4 : v4 = bt s 5 := q4 (by omega)
    subst f0 f1 f2 f3 f4
    rw [w64 (x := 8 * bt s 4) (by omega) (by omega)]
    have e8 : (((6 + 2 : Nat) : Int)).toNat = 8 := rfl
    rw [e8]
    have key := dg_end (k0 := (bt s 0, bt s 1, bt s 2 * 256 + bt s 3, 8 * bt s 4, bt s 5 == 1, s.extract 8 s.size, true)) (dgB (bt s 0) (bt s 1) (bt s 2 * 256 + bt s 3) (8 * bt s 4) (bt s 5 == 1) (s.extract 8 s.size)) (dgT (bt s 0) (bt s 1) (bt s 2 * 256 + bt s 3) (8 * bt s 4) (bt s 5 == 1) (s.extract 8 s.size)) s
    refine ⟨0, fun k _ => ?_⟩
    refine key.trans ?_
    unfold readDgB
    by_cases hc : dgB (bt s 0) (bt s 1) (bt s 2 * 256 + bt s 3) (8 * bt s 4) (bt s 5 == 1) (s.extract 8 s.size) = true ∧ dgT (bt s 0) (bt s 1) (bt s 2 * 256 + bt s 3) (8 * bt s 4) (bt s 5 == 1) (s.extract 8 s.size) = s
    · rw [if_pos hc, if_pos ⟨by omega, hc⟩]
    · rw [if_neg hc, if_neg (fun h => hc h.2)]
theorem spec_ReadDgram_ok (s : ByteArray) (hs : s.size ≤ 1048576) : Ev (fun k => spec_ReadDgram.f k s) (readDgB s) := by
  unfold spec_ReadDgram.f
  by_cases h9 : (s.size : Int) < 9
  · simp only [if_pos h9]
    have : readDgB s = noDg := by
      unfold readDgB
      refine if_neg (fun h => ?_)
      have h2 := (dgB_iff h.2.1).2.2.2.2.2.1
      rw [ByteArray.size_extract] at h2
      omega
    rw [this]
    exact Ev.step (f := fun _ => some noDg) (fun k => by simp only [spec_ReadDgram.j0, if_true]; rfl) (Ev.now _)
  · simp only [if_neg h9, if_pos (show (5 : Int) < (s.size : Int) by omega)]
    by_cases h5 : bt s 5 > 1
    · have : readDgB s = noDg := by
        unfold readDgB
        refine if_neg (fun h => ?_)
        have hb := bl_dgT (bt s 0) (bt s 1) (bt s 2 * 256 + bt s 3) (8 * bt s 4) (bt s 5 == 1) (s.extract 8 s.size)
        rw [h.2.2] at hb
        have h1 : bt s 5 = if (bt s 5 == 1) = true then 1 else 0 := by
          conv => lhs; rw [bt_bl, hb]
          rfl
        split at h1 <;> omega
      rw [this]
      exact Ev.step (f := fun _ => some noDg) (fun k => by simp only [spec_ReadDgram.j0, decide_eq_true h5, if_true]; rfl) (Ev.now _)
    · have b0 := bt_range s 0
      have b1 := bt_range s 1
      have b2 := bt_range s 2
      have b3 := bt_range s 3
      have b4 := bt_range s 4
      refine Ev.step (f := fun k => (spec_DgramText.f k (bt s 0) (bt s 1) (bt s 2 * 256 + bt s 3) (8 * bt s 4) (bt s 5 == 1) (s.extract 8 s.size)).bind fun bt132 => (if bt132.2 = true then (if bt132.1.toList = s.toList then some (bt s 0, bt s 1, bt s 2 * 256 + bt s 3, 8 * bt s 4, bt s 5 == 1, s.extract 8 s.size, true) else some noDg) else some noDg)) (fun k => ?_) ?_
      · simp only [spec_ReadDgram.j0, decide_eq_false h5, Bool.false_eq_true, if_false]
        rw [if_pos (by omega), if_pos (by omega), if_pos (by omega), if_pos (by omega), if_pos (by omega), if_pos (by omega), if_pos (by omega)]
        simp only [Int.mul_comm 256]
        simp only [w64 (x := bt s 0) (by omega) (by omega), w64 (x := bt s 1) (by omega) (by omega), w64 (x := bt s 2) (by omega) (by omega), w64 (x := bt s 3) (by omega) (by omega), w64 (x := bt s 4) (by omega) (by omega), w64 (x := bt s 2 * 256) (by omega) (by omega), w64 (x := bt s 2 * 256 + bt s 3) (by omega) (by omega), w64 (x := 8 * bt s 4) (by omega) (by omega)]
        rfl
      · refine Ev.bind (spec_DgramText_ok _ _ _ _ _ _) ?_
        have key := dg_end (k0 := (bt s 0, bt s 1, bt s 2 * 256 + bt s 3, 8 * bt s 4, bt s 5 == 1, s.extract 8 s.size, true)) (dgB (bt s 0) (bt s 1) (bt s 2 * 256 + bt s 3) (8 * bt s 4) (bt s 5 == 1) (s.extract 8 s.size)) (dgT (bt s 0) (bt s 1) (bt s 2 * 256 + bt s 3) (8 * bt s 4) (bt s 5 == 1) (s.extract 8 s.size)) s
        refine ⟨0, fun k _ => key.trans ?_⟩
        unfold readDgB
        by_cases hc : dgB (bt s 0) (bt s 1) (bt s 2 * 256 + bt s 3) (8 * bt s 4) (bt s 5 == 1) (s.extract 8 s.size) = true ∧ dgT (bt s 0) (bt s 1) (bt s 2 * 256 + bt s 3) (8 * bt s 4) (bt s 5 == 1) (s.extract 8 s.size) = s
        · rw [if_pos hc, if_pos ⟨by omega, hc⟩]
        · rw [if_neg hc, if_neg (fun h => hc h.2)]

/-! ### FnExactReadDgram -/
theorem FnExactReadDgram : StFnExactReadDgram.Pure := by
  intro s hs
  by_cases hb : (s.size : Int) > 1048576
  · exact ⟨0, by unfold laws_FnExactReadDgram.f; rw [if_pos hb]⟩
  · obtain ⟨K, hK⟩ := Ev.both (spec_ReadDgram_ok s (by omega)) (impl_ReadDgram_ok s (by omega))
    refine ⟨K, ?_⟩
    obtain ⟨h1, h2⟩ := hK K (Nat.le_refl _)
    unfold laws_FnExactReadDgram.f
    rw [if_neg hb]
    simp only [h1, h2, Option.bind_some]
    simp [laws_eqDgram.f]

end Go.Proofs.Ytakapoionaaimaa.Pure
