/- The pure statement of the law 'FnExactDgramText', proved: over numbers, lists and texts alone. No condition. -/
import Derived.Test.YtakapoionaaimaaStFnExactDgramText
import Derived.Laws.BitsLemmas
namespace Go.Proofs.Ytakapoionaaimaa.Pure
open Go.RowKit Go.Proofs.Ytakapoionaaimaa.QFnExactDgramText Go.Proofs.YtakapoionaaimaaW.PrintWords Go.Proofs.YtakapoionaaimaaW.PrintLast Go.Proofs.YtakapoionaaimaaW.PrintMore Go.Proofs.Ytakapoionaaimaa.StFnExactDgramText Go.Proofs.Ytakapoionaaimaa.Opens
set_option linter.unusedVariables false
set_option linter.unusedSimpArgs false

/-! ### base -/
theorem w64 {x : Int} (h0 : -9223372036854775808 ≤ x) (h1 : x ≤ 9223372036854775807) : wrap64 x = x := by unfold wrap64; omega
theorem w64_range (x : Int) : -9223372036854775808 ≤ wrap64 x ∧ wrap64 x ≤ 9223372036854775807 := by unfold wrap64; omega
theorem ip {α : Type} {c : Prop} [Decidable c] {a b : α} (h : c) : (if c then a else b) = a := if_pos h
theorem ineg {α : Type} {c : Prop} [Decidable c] {a b : α} (h : ¬ c) : (if c then a else b) = b := if_neg h
theorem wf_range {n : Int} (h : (Lit.int .i64 n).wf = true) : -9223372036854775808 ≤ n ∧ n ≤ 9223372036854775807 := by
  simp only [Lit.wf, IntKind.min, IntKind.max, IntKind.signed, IntKind.bits, Bool.and_eq_true, decide_eq_true_eq, if_true] at h
  omega
theorem wf_u8 {n : Int} (h : (Lit.int .u8 n).wf = true) : 0 ≤ n ∧ n ≤ 255 := by
  simp [Lit.wf, IntKind.min, IntKind.max, IntKind.signed, IntKind.bits] at h
  omega
theorem and_low (x : Int) (i : Nat) (hi : i ≤ 62) : Go.bits .and .i64 x (2 ^ i - 1) = x % 2 ^ i := by
  have hpos : 0 < 2 ^ i := Nat.two_pow_pos i
  have hc : ((2 : Int) ^ i - 1) = ((2 ^ i - 1 : Nat) : Int) := by rw [Int.natCast_sub hpos]; simp
  have h62 : 2 ^ i ≤ 2 ^ 62 := Nat.pow_le_pow_right (by decide) hi
  have hlt : 2 ^ i - 1 < 2 ^ 64 := by omega
  have hd : (2 ^ i : Nat) ∣ 2 ^ 64 := Nat.pow_dvd_pow 2 (by omega)
  rw [hc]
  simp only [Go.bits, BitVec.ofInt_natCast, BitVec.toNat_and, BitVec.toNat_ofNat, BitVec.toNat_ofInt]
  simp only [show IntKind.i64.bits = 64 from rfl]
  rw [Nat.mod_eq_of_lt hlt, Nat.and_two_pow_sub_one_eq_mod]
  have h1 : (((x % ((2 ^ 64 : Nat) : Int)).toNat % 2 ^ i : Nat) : Int) = x % 2 ^ i := by
    rw [Int.natCast_emod, Int.toNat_of_nonneg (Int.emod_nonneg _ (by decide))]
    rw [Int.natCast_pow]
    exact Int.emod_emod_of_dvd _ (by
      have : (((2 ^ i : Nat) : Int)) ∣ ((2 ^ 64 : Nat) : Int) := Int.natCast_dvd_natCast.2 hd
      simpa using this)
  rw [h1]
  have h2 : 0 ≤ x % 2 ^ i := Int.emod_nonneg _ (by
    have : (0 : Int) < 2 ^ i := by exact_mod_cast hpos
    omega)
  have h3 : x % 2 ^ i < 2 ^ i := Int.emod_lt_of_pos _ (by exact_mod_cast hpos)
  have h4 : (2 : Int) ^ i ≤ 2 ^ 62 := by exact_mod_cast h62
  rw [IntKind.wrap_i64]
  omega
theorem and255 (x : Int) : Go.bits .and .i64 x 255 = x % 256 := and_low x 8 (by omega)
theorem and65535 (x : Int) : Go.bits .and .i64 x 65535 = x % 65536 := and_low x 16 (by omega)
theorem and30 (x : Int) : Go.bits .and .i64 x 1073741823 = x % 1073741824 := and_low x 30 (by omega)
theorem and1 (x : Int) : Go.bits .and .i64 x 1 = x % 2 := and_low x 1 (by omega)
/-- A law's last step: both are one. -/
theorem same_end {v : Bool} : (if (v != v) = true then some false else some true : Option Bool) = some true := by simp
theorem Ev.ex {α : Type} {g : Nat → Option α} {r : α} (h : Ev g r) : ∃ k, g k = some r := h.rounds
theorem Ev.from_ {α : Type} {g : Nat → Option α} {r : α} (K : Nat) (h : ∀ k, K ≤ k → g k = some r) : Ev g r := ⟨K, h⟩
theorem Ev.both {α β : Type} {g : Nat → Option α} {f : Nat → Option β} {r : α} {q : β} (h : Ev g r) (h' : Ev f q) : ∃ K, ∀ k, K ≤ k → g k = some r ∧ f k = some q := by
  obtain ⟨K, h⟩ := h
  obtain ⟨K', h'⟩ := h'
  exact ⟨K + K', fun k hk => ⟨h k (by omega), h' k (by omega)⟩⟩

/-! ### in -/
def rng (a b c : Int) : Bool := decide (b ≤ a) && decide (a ≤ c)
theorem rng_iff {a b c : Int} : rng a b c = true ↔ b ≤ a ∧ a ≤ c := by simp [rng]
theorem rng_false {a b c : Int} : rng a b c = false ↔ ¬ (b ≤ a ∧ a ≤ c) := by rw [← rng_iff]; simp
theorem in_eq (a b c : Int) : spec_l01In.f a b c = some (rng a b c) := by
  unfold spec_l01In.f rng
  by_cases h : b ≤ a
  · rw [if_pos h]; simp [h]
  · rw [if_neg h]; simp [h]
theorem within_eq (a b c : Int) : impl_within.f a b c = some (rng a b c) := by
  unfold impl_within.f rng
  by_cases h : b ≤ a
  · rw [if_pos h]; simp [h]
  · rw [if_neg h]; simp [h]

/-! ### sumones -/
set_option maxHeartbeats 4000000 in
theorem sum_loop (s : ByteArray) (hs : s.size ≤ 1048576) : ∀ (d : Nat) (i x : Int), 0 ≤ i → i % 2 = 0 → i ≤ s.size + 1 → (s.size : Int) - i ≤ 2 * d → 0 ≤ x → x ≤ 65535 →
    ∃ r, 0 ≤ r ∧ r ≤ 65535 ∧ (∀ k, d < k → spec_SumOnes.l0 k s x i = some r) ∧ (∀ k, 2 * d < k → impl_SumOnes.l0 k s x i = some r) := by
  intro d
  induction d with
  | zero =>
    intro i x hi0 _ hi hd hx0 hx1
    refine ⟨65535 - x, by omega, by omega, fun k hk => ?_, fun k hk => ?_⟩
    · obtain ⟨k, rfl⟩ : ∃ m, k = m + 1 := ⟨k - 1, by omega⟩
      simp (disch := omega) only [spec_SumOnes.l0, ineg, w64]
    · obtain ⟨k, rfl⟩ : ∃ m, k = m + 1 := ⟨k - 1, by omega⟩
      simp (disch := omega) only [impl_SumOnes.l0, ineg, w64]
  | succ d ih =>
    intro i x hi0 he hi hd hx0 hx1
    by_cases hlt : i < (s.size : Int)
    · have hb := bt_range s i
      have hm : Int.tmod i 2 = 0 := by rw [Int.tmod_eq_emod_of_nonneg hi0]; exact he
      have hm1 : ¬ Int.tmod (i + 1) 2 = 0 := by rw [Int.tmod_eq_emod_of_nonneg (by omega)]; omega
      by_cases hl1 : i + 1 < (s.size : Int)
      · have hc := bt_range s (i + 1)
        obtain ⟨r, r0, r1, ih1, ih2⟩ := ih (i + 2) (if x + (256 * bt s i + bt s (i + 1)) > 65535 then x + (256 * bt s i + bt s (i + 1)) - 65535 else x + (256 * bt s i + bt s (i + 1))) (by omega) (by omega) (by omega) (by omega) (by split <;> omega) (by split <;> omega)
        refine ⟨r, r0, r1, fun k hk => ?_, fun k hk => ?_⟩
        · obtain ⟨k, rfl⟩ : ∃ m, k = m + 1 := ⟨k - 1, by omega⟩
          have ih1 := ih1 k (by omega)
          by_cases hg : x + (256 * bt s i + bt s (i + 1)) > 65535
          · rw [if_pos hg] at ih1
            simp (disch := omega) only [spec_SumOnes.l0, ip, ineg, w64]
            exact ih1
          · rw [if_neg hg] at ih1
            simp (disch := omega) only [spec_SumOnes.l0, ip, ineg, w64]
            exact ih1
        · obtain ⟨k, rfl⟩ : ∃ m, k = m + 1 + 1 := ⟨k - 2, by omega⟩
          have ih2 := ih2 k (by omega)
          by_cases hg1 : x + bt s i * 256 > 65535
          · rw [if_pos (by omega)] at ih2
            rw [show i + 2 = i + 1 + 1 by omega, show x + (256 * bt s i + bt s (i + 1)) - 65535 = x + bt s i * 256 - 65535 + bt s (i + 1) by omega] at ih2
            simp (disch := omega) only [impl_SumOnes.l0, ip, ineg, w64]
            exact ih2
          · by_cases hg2 : x + bt s i * 256 + bt s (i + 1) > 65535
            · rw [if_pos (by omega)] at ih2
              rw [show i + 2 = i + 1 + 1 by omega, show x + (256 * bt s i + bt s (i + 1)) - 65535 = x + bt s i * 256 + bt s (i + 1) - 65535 by omega] at ih2
              simp (disch := omega) only [impl_SumOnes.l0, ip, ineg, w64]
              exact ih2
            · rw [if_neg (by omega)] at ih2
              rw [show i + 2 = i + 1 + 1 by omega, show x + (256 * bt s i + bt s (i + 1)) = x + bt s i * 256 + bt s (i + 1) by omega] at ih2
              simp (disch := omega) only [impl_SumOnes.l0, ip, ineg, w64]
              exact ih2
      · by_cases hg : x + 256 * bt s i > 65535
        · refine ⟨65535 - (x + 256 * bt s i - 65535), by omega, by omega, fun k hk => ?_, fun k hk => ?_⟩
          · obtain ⟨k, rfl⟩ : ∃ m, k = m + 1 + 1 := ⟨k - 2, by omega⟩
            simp (disch := omega) only [spec_SumOnes.l0, ip, ineg, w64]
          · obtain ⟨k, rfl⟩ : ∃ m, k = m + 1 + 1 := ⟨k - 2, by omega⟩
            simp (disch := omega) only [impl_SumOnes.l0, ip, ineg, w64, Int.mul_comm (bt s i) 256]
        · refine ⟨65535 - (x + 256 * bt s i), by omega, by omega, fun k hk => ?_, fun k hk => ?_⟩
          · obtain ⟨k, rfl⟩ : ∃ m, k = m + 1 + 1 := ⟨k - 2, by omega⟩
            simp (disch := omega) only [spec_SumOnes.l0, ip, ineg, w64]
          · obtain ⟨k, rfl⟩ : ∃ m, k = m + 1 + 1 := ⟨k - 2, by omega⟩
            simp (disch := omega) only [impl_SumOnes.l0, ip, ineg, w64, Int.mul_comm (bt s i) 256]
    · refine ⟨65535 - x, by omega, by omega, fun k hk => ?_, fun k hk => ?_⟩
      · obtain ⟨k, rfl⟩ : ∃ m, k = m + 1 := ⟨k - 1, by omega⟩
        simp (disch := omega) only [spec_SumOnes.l0, ineg, w64]
      · obtain ⟨k, rfl⟩ : ∃ m, k = m + 1 := ⟨k - 1, by omega⟩
        simp (disch := omega) only [impl_SumOnes.l0, ineg, w64]
theorem sum_both (s : ByteArray) (hs : s.size ≤ 1048576) : ∃ r, Ev (fun k => spec_SumOnes.f k s) r ∧ Ev (fun k => impl_SumOnes.f k s) r := by
  obtain ⟨r, _, _, h1, h2⟩ := sum_loop s hs (s.size + 1) 0 0 (by omega) (by omega) (by omega) (by omega) (by omega) (by omega)
  exact ⟨r, ⟨s.size + 2, fun k hk => h1 k (by omega)⟩, ⟨2 * (s.size + 1) + 1, fun k hk => h2 k (by omega)⟩⟩

/-! ### bytes -/
theorem bytes_loop (l : List Int) (hl : l.length ≤ 2000000) : ∀ (d j : Nat) (acc : List Int), l.length - j = d → j ≤ l.length → acc.length = j → ∀ k, d < k → impl_byteTexts.l0 k acc l (l.length : Int) (j : Int) = some (strOfNums (acc ++ (l.drop j).map (· % 256))) := by
  intro d
  induction d with
  | zero =>
    intro j acc hd hj ha k hk
    obtain ⟨k, rfl⟩ : ∃ m, k = m + 1 := ⟨k - 1, by omega⟩
    simp only [impl_byteTexts.l0]
    rw [if_neg (by omega), List.drop_of_length_le (by omega)]
    simp
  | succ d ih =>
    intro j acc hd hj ha k hk
    obtain ⟨k, rfl⟩ : ∃ m, k = m + 1 := ⟨k - 1, by omega⟩
    have hjl : j < l.length := by omega
    have hget : rd l (j : Int) = l[j] := by unfold rd; simp [List.getD_eq_getElem?_getD, List.getElem?_eq_getElem hjl]
    have hdrop : l.drop j = l[j] :: l.drop (j + 1) := List.drop_eq_getElem_cons hjl
    simp only [impl_byteTexts.l0]
    rw [if_pos (by omega), if_pos (by omega), if_pos (by omega), if_pos (by omega), hget, w64 (x := (j : Int) + 1) (by omega) (by omega), hdrop]
    have := ih (j + 1) (acc ++ [l[j] % 256]) (by omega) (by omega) (by rw [List.length_append, List.length_singleton]; omega) k (by omega)
    rw [List.append_assoc] at this
    exact this
theorem bytes_ok (l : List Int) (hl : l.length ≤ 2000000) : ∀ k, l.length < k → impl_byteTexts.f k l = some (strOfNums (l.map (· % 256))) := fun k hk =>
  bytes_loop l hl l.length 0 [] (by omega) (by omega) rfl k hk
theorem two_eq (n : Int) (h : 0 ≤ n ∧ n ≤ 65535) : spec_l11Two.f n = some (strOfNums [n / 256 % 256, n % 256]) := by
  unfold spec_l11Two.f
  rw [Int.tdiv_eq_ediv_of_nonneg h.1, Int.tmod_eq_emod_of_nonneg h.1, w64 (by omega) (by omega)]
  rw [show n % 256 % 256 = n % 256 by omega]
theorem word_ok (n : Int) : ∀ k, 2 < k → impl_wordText.f k n = some (strOfNums [n / 256 % 256, n % 256]) := by
  intro k hk
  unfold impl_wordText.f
  rw [bytes_ok _ (by simp) k (by simpa using hk)]
  simp only [Option.bind_some, List.map_cons, List.map_nil, and255]
  rw [show n / 256 % 256 % 256 = n / 256 % 256 by omega, show n % 256 % 256 = n % 256 by omega]

/-! ### dgram -/
def dgB (a b c d : Int) (e : Bool) (s : ByteArray) : Bool :=
  rng a 1 99 && (rng b 1 99 && (rng c 0 65535 && (rng d 0 160 && (decide (Int.tmod d 8 = 0) && (rng (s.size : Int) 1 (wrap64 (160 - d)) && (!e || ((s.size : Int) % 8 == 0)))))))
theorem spec_dgB (a b c d : Int) (e : Bool) (s : ByteArray) : spec_DgramOk.f a b c d e s = some (dgB a b c d e s) := by
  unfold spec_DgramOk.f dgB
  simp only [in_eq, Option.bind_some]
  by_cases h8 : Int.tmod d 8 = 0
  · simp only [if_pos h8]
    cases rng a 1 99 <;> cases rng b 1 99 <;> cases rng c 0 65535 <;> cases rng d 0 160 <;> cases rng (s.size : Int) 1 (wrap64 (160 - d)) <;> cases e <;> simp [h8]
  · simp only [if_neg h8]
    cases rng a 1 99 <;> cases rng b 1 99 <;> cases rng c 0 65535 <;> cases rng d 0 160 <;> simp [h8]
theorem impl_dgB (a b c d : Int) (e : Bool) (s : ByteArray) : impl_DgramOk.f a b c d e s = some (dgB a b c d e s) := by
  unfold impl_DgramOk.f impl_isAddr.f impl_isWord.f dgB
  simp only [within_eq, Option.bind_some]
  by_cases h8 : Int.tmod d 8 = 0
  · simp only [if_pos h8]
    cases rng a 1 99 <;> cases rng b 1 99 <;> cases rng c 0 65535 <;> cases rng d 0 160 <;> cases rng (s.size : Int) 1 (wrap64 (160 - d)) <;> cases e <;> simp [h8]
  · simp only [if_neg h8]
    cases rng a 1 99 <;> cases rng b 1 99 <;> cases rng c 0 65535 <;> cases rng d 0 160 <;> simp [h8]
theorem ones_ex (s : ByteArray) : ∃ r, 0 ≤ r ∧ r ≤ 65535 ∧ (s.size ≤ 1048576 → Ev (fun k => spec_SumOnes.f k s) r ∧ Ev (fun k => impl_SumOnes.f k s) r) := by
  by_cases hs : s.size ≤ 1048576
  · obtain ⟨r, h0, h3, h1, h2⟩ := sum_loop s hs (s.size + 1) 0 0 (by omega) (by omega) (by omega) (by omega) (by omega) (by omega)
    exact ⟨r, h0, h3, fun _ => ⟨⟨s.size + 2, fun k hk => h1 k (by omega)⟩, ⟨2 * (s.size + 1) + 1, fun k hk => h2 k (by omega)⟩⟩⟩
  · exact ⟨0, by omega, by omega, fun h => absurd h hs⟩
noncomputable def ones (s : ByteArray) : Int := (ones_ex s).choose
theorem ones_range (s : ByteArray) : 0 ≤ ones s ∧ ones s ≤ 65535 := ⟨(ones_ex s).choose_spec.1, (ones_ex s).choose_spec.2.1⟩
theorem ones_spec (s : ByteArray) (h : s.size ≤ 1048576) : Ev (fun k => spec_SumOnes.f k s) (ones s) := ((ones_ex s).choose_spec.2.2 h).1
theorem ones_impl (s : ByteArray) (h : s.size ≤ 1048576) : Ev (fun k => impl_SumOnes.f k s) (ones s) := ((ones_ex s).choose_spec.2.2 h).2
def dgH (a b c d : Int) (e : Bool) : ByteArray := strOfNums [a % 256, b % 256] ++ strOfNums [c / 256 % 256, c % 256] ++ strOfNums [wrap64 (Int.tdiv d 8) % 256, if e = true then 1 else 0]
theorem dgH_size (a b c d : Int) (e : Bool) : (dgH a b c d e).size = 6 := by
  unfold dgH
  simp only [ByteArray.size_append, strOfNums_size, List.length_cons, List.length_nil]
noncomputable def dgT (a b c d : Int) (e : Bool) (s : ByteArray) : ByteArray := dgH a b c d e ++ strOfNums [ones (dgH a b c d e) / 256 % 256, ones (dgH a b c d e) % 256] ++ s
theorem dgB_iff {a b c d : Int} {e : Bool} {s : ByteArray} (h : dgB a b c d e s = true) : (1 ≤ a ∧ a ≤ 99) ∧ (1 ≤ b ∧ b ≤ 99) ∧ (0 ≤ c ∧ c ≤ 65535) ∧ (0 ≤ d ∧ d ≤ 160) ∧ d % 8 = 0 ∧ (1 ≤ (s.size : Int) ∧ (s.size : Int) ≤ 160 - d) ∧ (e = true → (s.size : Int) % 8 = 0) := by
  unfold dgB at h
  simp only [Bool.and_eq_true, decide_eq_true_eq, rng_iff, Bool.or_eq_true, Bool.not_eq_true', beq_iff_eq] at h
  obtain ⟨ha, hb, hc, hd, h8, hs, he⟩ := h
  rw [w64 (by omega) (by omega)] at hs
  rw [Int.tmod_eq_emod_of_nonneg hd.1] at h8
  refine ⟨ha, hb, hc, hd, h8, hs, fun h => ?_⟩
  rcases he with he | he
  · rw [h] at he; cases he
  · exact he
theorem spec_head (a b c d : Int) (e : Bool) (s : ByteArray) (hc : 0 ≤ c ∧ c ≤ 65535) : spec_l11Head.f a b c d e s = some (dgH a b c d e) := by
  unfold spec_l11Head.f dgH
  cases e
  · simp only [Bool.false_eq_true, if_false, Option.bind_some, two_eq c hc]
    rw [if_pos (by simp only [strOfNums_size, List.length_cons, List.length_nil]; omega), if_pos (by simp only [ByteArray.size_append, strOfNums_size, List.length_cons, List.length_nil]; omega)]
  · simp only [if_true, Option.bind_some, two_eq c hc]
    rw [if_pos (by simp only [strOfNums_size, List.length_cons, List.length_nil]; omega), if_pos (by simp only [ByteArray.size_append, strOfNums_size, List.length_cons, List.length_nil]; omega)]
theorem spec_DgramText_ok (a b c d : Int) (e : Bool) (s : ByteArray) : Ev (fun k => spec_DgramText.f k a b c d e s) (if dgB a b c d e s = true then (dgT a b c d e s, true) else ((⟨#[]⟩ : ByteArray), false)) := by
  unfold spec_DgramText.f
  simp only [spec_dgB, Option.bind_some]
  by_cases h : dgB a b c d e s = true
  · obtain ⟨_, _, hc, hd, _, hs, _⟩ := dgB_iff h
    have h6 := dgH_size a b c d e
    simp only [if_pos h, spec_head a b c d e s hc, Option.bind_some]
    refine Ev.bind (ones_spec _ (by omega)) ?_
    simp only [two_eq _ (ones_range _), Option.bind_some]
    have h1 : (dgH a b c d e).size + (strOfNums [ones (dgH a b c d e) / 256 % 256, ones (dgH a b c d e) % 256]).size ≤ 9223372036854775807 := by rw [h6, strOfNums_size]; simp only [List.length_cons, List.length_nil]; omega
    have h2 : (dgH a b c d e ++ strOfNums [ones (dgH a b c d e) / 256 % 256, ones (dgH a b c d e) % 256]).size + s.size ≤ 9223372036854775807 := by rw [ByteArray.size_append, h6, strOfNums_size]; simp only [List.length_cons, List.length_nil]; omega
    simp only [if_pos h1, if_pos h2]
    exact Ev.now _
  · simp only [if_neg h]
    exact Ev.now _
theorem impl_DgramText_ok (a b c d : Int) (e : Bool) (s : ByteArray) : Ev (fun k => impl_DgramText.f k a b c d e s) (if dgB a b c d e s = true then (dgT a b c d e s, true) else ((⟨#[]⟩ : ByteArray), false)) := by
  unfold impl_DgramText.f
  simp only [impl_dgB, Option.bind_some]
  by_cases h : dgB a b c d e s = true
  · obtain ⟨_, _, hc, hd, _, hs, _⟩ := dgB_iff h
    have h6 := dgH_size a b c d e
    simp only [if_pos h]
    refine Ev.bind ⟨3, fun k hk => bytes_ok [a, b] (by simp) k (by simp only [List.length_cons, List.length_nil]; omega)⟩ ?_
    refine Ev.bind ⟨3, fun k hk => word_ok c k (by omega)⟩ ?_
    have h0 : (strOfNums ([a, b].map (· % 256))).size + (strOfNums [c / 256 % 256, c % 256]).size ≤ 9223372036854775807 := by rw [strOfNums_size, strOfNums_size]; simp
    simp only [if_pos h0]
    have hf : impl_flag.f e = some (if e = true then 1 else 0) := by unfold impl_flag.f; cases e <;> rfl
    simp only [hf, Option.bind_some]
    refine Ev.bind ⟨3, fun k hk => bytes_ok [wrap64 (Int.tdiv d 8), if e = true then 1 else 0] (by simp) k (by simp only [List.length_cons, List.length_nil]; omega)⟩ ?_
    have e1 : strOfNums ([a, b].map (· % 256)) ++ strOfNums [c / 256 % 256, c % 256] ++ strOfNums ([wrap64 (Int.tdiv d 8), if e = true then (1 : Int) else 0].map (· % 256)) = dgH a b c d e := by
      unfold dgH
      cases e <;> rfl
    have h3 : (strOfNums ([a, b].map (· % 256)) ++ strOfNums [c / 256 % 256, c % 256]).size + (strOfNums ([wrap64 (Int.tdiv d 8), if e = true then (1 : Int) else 0].map (· % 256))).size ≤ 9223372036854775807 := by
      rw [ByteArray.size_append, strOfNums_size, strOfNums_size, strOfNums_size]; simp
    simp only [if_pos h3, e1]
    refine Ev.bind (ones_impl _ (by omega)) ?_
    refine Ev.bind ⟨3, fun k hk => word_ok _ k (by omega)⟩ ?_
    have h1 : (dgH a b c d e).size + (strOfNums [ones (dgH a b c d e) / 256 % 256, ones (dgH a b c d e) % 256]).size ≤ 9223372036854775807 := by rw [h6, strOfNums_size]; simp only [List.length_cons, List.length_nil]; omega
    have h2 : (dgH a b c d e ++ strOfNums [ones (dgH a b c d e) / 256 % 256, ones (dgH a b c d e) % 256]).size + s.size ≤ 9223372036854775807 := by rw [ByteArray.size_append, h6, strOfNums_size]; simp only [List.length_cons, List.length_nil]; omega
    simp only [if_pos h1, if_pos h2]
    exact Ev.now _
  · simp only [if_neg h]
    exact Ev.now _

/-! ### FnExactDgramText -/
theorem FnExactDgramText : StFnExactDgramText.Pure := by
  intro a b c d e s _ _ _ _ _ hs
  obtain ⟨K, hK⟩ := Ev.both (spec_DgramText_ok a b c d e s) (impl_DgramText_ok a b c d e s)
  refine ⟨K, ?_⟩
  obtain ⟨h1, h2⟩ := hK K (Nat.le_refl _)
  unfold laws_FnExactDgramText.f laws_toDgram.f
  obtain ⟨t, ht⟩ : ∃ t, laws_szDgram.f a b c d e s 1048576 = some t := by unfold laws_szDgram.f; split <;> exact ⟨_, rfl⟩
  rw [ht]
  simp only [Option.bind_some]
  by_cases h : t < 0
  · rw [if_pos h]
  · rw [if_neg h]
    simp only [h1, h2, Option.bind_some]
    simp

end Go.Proofs.Ytakapoionaaimaa.Pure
