/- The pure statement of the law 'FnParts', proved: over numbers, lists and texts alone. No condition. -/
import Derived.Test.YtmknnoeggkgkgaaStFnParts
import Derived.Laws.BitsLemmas
namespace Go.Proofs.Ytmknnoeggkgkgaa.Pure
open Go.RowKit Go.Proofs.Ytmknnoeggkgkgaa.QFnParts Go.Proofs.YtmknnoeggkgkgaaW.PrintWords Go.Proofs.YtmknnoeggkgkgaaW.PrintLast Go.Proofs.YtmknnoeggkgkgaaW.PrintMore Go.Proofs.Ytmknnoeggkgkgaa.StFnParts Go.Proofs.Ytmknnoeggkgkgaa.Opens
set_option linter.unusedVariables false
set_option linter.unusedSimpArgs false

/-! ### base -/
theorem w64 {x : Int} (h0 : -9223372036854775808 ≤ x) (h1 : x ≤ 9223372036854775807) : wrap64 x = x := by unfold wrap64; omega
theorem and_low (x : Int) (i : Nat) (hi : i ≤ 62) : Go.bits .and .i64 x (2 ^ i - 1) = x % 2 ^ i := by
  have hpos : 0 < 2 ^ i := Nat.two_pow_pos i
  have hc : ((2 : Int) ^ i - 1) = ((2 ^ i - 1 : Nat) : Int) := by rw [Int.natCast_sub hpos]; simp
  have h62 : 2 ^ i ≤ 2 ^ 62 := Nat.pow_le_pow_right (by decide) hi
  have hlt : 2 ^ i - 1 < 2 ^ 64 := by omega
  have hd : (2 ^ i : Nat) ∣ 2 ^ 64 := Nat.pow_dvd_pow 2 (by omega)
  rw [hc]
  simp only [Go.bits, BitVec.ofInt_natCast, BitVec.toNat_and, BitVec.toNat_ofNat, BitVec.toNat_ofInt]
  simp only [show IntKind.i64.bits = 64 from rfl]
  rw [Nat.mod_eq_of_lt hlt, Nat.and_two_pow_sub_one_eq_mod]
  have h1 : (((x % ((2 ^ 64 : Nat) : Int)).toNat % 2 ^ i : Nat) : Int) = x % 2 ^ i := by
    rw [Int.natCast_emod, Int.toNat_of_nonneg (Int.emod_nonneg _ (by decide))]
    rw [Int.natCast_pow]
    exact Int.emod_emod_of_dvd _ (by
      have : (((2 ^ i : Nat) : Int)) ∣ ((2 ^ 64 : Nat) : Int) := Int.natCast_dvd_natCast.2 hd
      simpa using this)
  rw [h1]
  have h2 : 0 ≤ x % 2 ^ i := Int.emod_nonneg _ (by
    have : (0 : Int) < 2 ^ i := by exact_mod_cast hpos
    omega)
  have h3 : x % 2 ^ i < 2 ^ i := Int.emod_lt_of_pos _ (by exact_mod_cast hpos)
  have h4 : (2 : Int) ^ i ≤ 2 ^ 62 := by exact_mod_cast h62
  rw [IntKind.wrap_i64]
  omega
theorem and255 (x : Int) : Go.bits .and .i64 x 255 = x % 256 := and_low x 8 (by omega)
theorem Ev.ex {α : Type} {g : Nat → Option α} {r : α} (h : Ev g r) : ∃ k, g k = some r := h.rounds
theorem Ev.from_ {α : Type} {g : Nat → Option α} {r : α} (K : Nat) (h : ∀ k, K ≤ k → g k = some r) : Ev g r := ⟨K, h⟩
def rng (a b c : Int) : Bool := decide (b ≤ a) && decide (a ≤ c)
theorem rng_iff {a b c : Int} : rng a b c = true ↔ b ≤ a ∧ a ≤ c := by simp [rng]
theorem in_eq (a b c : Int) : spec_l01In.f a b c = some (rng a b c) := by
  unfold spec_l01In.f rng
  by_cases h : b ≤ a
  · rw [if_pos h]; simp [h]
  · rw [if_neg h]; simp [h]
theorem within_eq (a b c : Int) : impl_within.f a b c = some (rng a b c) := by
  unfold impl_within.f rng
  by_cases h : b ≤ a
  · rw [if_pos h]; simp [h]
  · rw [if_neg h]; simp [h]

/-! ### dgok -/
def dgB (a b c d : Int) (e : Bool) (s : ByteArray) : Bool :=
  rng a 1 99 && (rng b 1 99 && (rng c 0 65535 && (rng d 0 160 && (decide (Int.tmod d 8 = 0) && (rng (s.size : Int) 1 (wrap64 (160 - d)) && (!e || ((s.size : Int) % 8 == 0)))))))
theorem spec_dgB (a b c d : Int) (e : Bool) (s : ByteArray) : spec_DgramOk.f a b c d e s = some (dgB a b c d e s) := by
  unfold spec_DgramOk.f dgB
  simp only [in_eq, Option.bind_some]
  by_cases h8 : Int.tmod d 8 = 0
  · simp only [if_pos h8]
    cases rng a 1 99 <;> cases rng b 1 99 <;> cases rng c 0 65535 <;> cases rng d 0 160 <;> cases rng (s.size : Int) 1 (wrap64 (160 - d)) <;> cases e <;> simp [h8]
  · simp only [if_neg h8]
    cases rng a 1 99 <;> cases rng b 1 99 <;> cases rng c 0 65535 <;> cases rng d 0 160 <;> simp [h8]
theorem impl_dgB (a b c d : Int) (e : Bool) (s : ByteArray) : impl_DgramOk.f a b c d e s = some (dgB a b c d e s) := by
  unfold impl_DgramOk.f impl_isAddr.f impl_isWord.f dgB
  simp only [within_eq, Option.bind_some]
  by_cases h8 : Int.tmod d 8 = 0
  · simp only [if_pos h8]
    cases rng a 1 99 <;> cases rng b 1 99 <;> cases rng c 0 65535 <;> cases rng d 0 160 <;> cases rng (s.size : Int) 1 (wrap64 (160 - d)) <;> cases e <;> simp [h8]
  · simp only [if_neg h8]
    cases rng a 1 99 <;> cases rng b 1 99 <;> cases rng c 0 65535 <;> cases rng d 0 160 <;> simp [h8]
theorem getD_at {α : Type} {l : List α} {j : Nat} (z : α) (h : j < l.length) : l.getD (j : Int).toNat z = l[j] := by
  simp [List.getD_eq_getElem?_getD, List.getElem?_eq_getElem h]

/-! ### bl -/
theorem bl_inj {s t : ByteArray} (h : bytesOf s = bytesOf t) : s = t := by
  unfold bytesOf at h
  have h2 : s.data.toList = t.data.toList := by
    apply List.ext_getElem?
    intro i
    have h3 := congrArg (fun l => l[i]?) h
    simp only [List.getElem?_map] at h3
    cases h4 : s.data.toList[i]? <;> cases h5 : t.data.toList[i]? <;> rw [h4, h5] at h3 <;> simp at h3 ⊢
    exact UInt8.toNat_inj.1 (by omega)
  exact ByteArray.ext (by rw [← Array.toArray_toList (xs := s.data), h2])
theorem bl_app (s t : ByteArray) : bytesOf (s ++ t) = bytesOf s ++ bytesOf t := by
  unfold bytesOf
  rw [ByteArray.toList_data_append, List.map_append]
theorem bl_ext (s : ByteArray) (a b : Nat) : bytesOf (s.extract a b) = ((bytesOf s).drop a).take (b - a) := by
  unfold bytesOf
  rw [ByteArray.data_extract, Array.toList_extract, ← List.map_drop, ← List.map_take] <;> simp [List.extract_eq_drop_take]
theorem bl_empty : bytesOf (⟨#[]⟩ : ByteArray) = [] := rfl
theorem toList_nil {s : ByteArray} : s.toList = ([] : List UInt8) ↔ bytesOf s = [] := by
  rw [ByteArray.toList_eq]
  unfold bytesOf
  simp

/-! ### bytes -/

/-! ### parts -/
def bd (B : ByteArray) (st m : Nat) : ByteArray := B.extract (st * m) (min (st * (m + 1)) B.size)
def pt (a b c : Int) (B : ByteArray) (st m : Nat) : S62 := ⟨a, b, c, ((st * m : Nat) : Int), decide (st * (m + 1) < B.size), bd B st m⟩
def Cut (B : ByteArray) (st N : Nat) : Prop := 1 ≤ N ∧ 8 ≤ st ∧ st ≤ 24 ∧ st % 8 = 0 ∧ B.size ≤ 160 ∧ st * (N - 1) < B.size ∧ B.size ≤ st * N
theorem cut_ex {B : ByteArray} {st : Nat} (hst : st = 8 ∨ st = 16 ∨ st = 24) (h1 : 1 ≤ B.size) (h2 : B.size ≤ 160) : ∃ N, Cut B st N := by
  rcases hst with rfl | rfl | rfl
  · exact ⟨(B.size - 1) / 8 + 1, by omega, by omega, by omega, by omega, h2, by omega, by omega⟩
  · exact ⟨(B.size - 1) / 16 + 1, by omega, by omega, by omega, by omega, h2, by omega, by omega⟩
  · exact ⟨(B.size - 1) / 24 + 1, by omega, by omega, by omega, by omega, h2, by omega, by omega⟩
theorem cut_lt {B : ByteArray} {st N m : Nat} (h : Cut B st N) (hm : m < N) : st * m < B.size := by
  obtain ⟨h1, h2, h3, h4, h5, h6, h7⟩ := h
  have := Nat.mul_le_mul_left st (show m ≤ N - 1 by omega)
  omega
theorem cut_mid {B : ByteArray} {st N m : Nat} (h : Cut B st N) (hm : m + 1 < N) : st * (m + 1) < B.size := cut_lt h hm
theorem cut_last {B : ByteArray} {st N m : Nat} (h : Cut B st N) (hm : m + 1 = N) : B.size ≤ st * (m + 1) := by
  obtain ⟨h1, h2, h3, h4, h5, h6, h7⟩ := h
  rw [hm]; exact h7
theorem cut_N {B : ByteArray} {st N : Nat} (h : Cut B st N) : N ≤ 20 := by
  obtain ⟨h1, h2, h3, h4, h5, h6, h7⟩ := h
  have := Nat.mul_le_mul_right (N - 1) h2
  omega
theorem bd_size {B : ByteArray} {st N m : Nat} (h : Cut B st N) (hm : m < N) : (bd B st m).size = min (st * (m + 1)) B.size - st * m ∧ 1 ≤ (bd B st m).size ∧ st * m + (bd B st m).size ≤ B.size := by
  have h1 := cut_lt h hm
  have h2 : st * (m + 1) = st * m + st := Nat.mul_succ st m
  obtain ⟨_, h8, _⟩ := h
  unfold bd
  rw [ByteArray.size_extract]
  omega
theorem part_ok {a b c : Int} {B : ByteArray} {st N m : Nat} (h : Cut B st N) (ha : 1 ≤ a ∧ a ≤ 3) (hb : 1 ≤ b ∧ b ≤ 3) (hc : 0 ≤ c ∧ c ≤ 3) (hm : m < N) : dgB a b c ((st * m : Nat) : Int) (decide (st * (m + 1) < B.size)) (bd B st m) = true := by
  have h1 := cut_lt h hm
  have h2 : st * (m + 1) = st * m + st := Nat.mul_succ st m
  obtain ⟨s1, s2, s3⟩ := bd_size h hm
  obtain ⟨_, g1, g2, g3, g4, _, _⟩ := h
  have h3 : st * m % 8 = 0 := by
    obtain ⟨q, hq⟩ : ∃ q, st = 8 * q := ⟨st / 8, by omega⟩
    rw [hq, Nat.mul_assoc]
    omega
  unfold dgB
  rw [rng_iff.2 (show 1 ≤ a ∧ a ≤ 99 by omega), rng_iff.2 (show 1 ≤ b ∧ b ≤ 99 by omega), rng_iff.2 (show 0 ≤ c ∧ c ≤ 65535 by omega), rng_iff.2 (show (0 : Int) ≤ ((st * m : Nat) : Int) ∧ ((st * m : Nat) : Int) ≤ 160 by omega), w64 (by omega) (by omega),
    rng_iff.2 (show 1 ≤ ((bd B st m).size : Int) ∧ ((bd B st m).size : Int) ≤ 160 - ((st * m : Nat) : Int) by omega), Int.tmod_eq_emod_of_nonneg (by omega), decide_eq_true (show ((st * m : Nat) : Int) % 8 = 0 by omega)]
  by_cases hl : st * (m + 1) < B.size
  · have h4 : (bd B st m).size = st := by omega
    rw [h4]
    simp only [Bool.true_and, Bool.or_eq_true, beq_iff_eq]
    exact .inr (by omega)
  · simp [hl]
theorem cut_round (a b c : Int) (B : ByteArray) (st j : Nat) (acc : List S62) (h8 : 8 ≤ st) (h9 : st ≤ 160) (hs : B.size ≤ 160) (hj : j < B.size) (ha : acc.length ≤ 1000) (k : Nat) :
    spec_CutDgram.l0 (k + 1) (st : Int) acc (j : Int) a b c 0 false B = spec_CutDgram.l0 k (st : Int) (acc ++ [(⟨a, b, c, (j : Int), decide (j + st < B.size), B.extract j (min (j + st) B.size)⟩ : S62)]) ((j + st : Nat) : Int) a b c 0 false B ∧
    impl_CutDgram.l0 (k + 1) (st : Int) acc (j : Int) a b c 0 false B = impl_CutDgram.l0 k (st : Int) (acc ++ [(⟨a, b, c, (j : Int), decide (j + st < B.size), B.extract j (min (j + st) B.size)⟩ : S62)]) ((j + st : Nat) : Int) a b c 0 false B := by
  have f1 : (j : Int) < (B.size : Int) := by omega
  have f2 : (0 : Int) ≤ (j : Int) := by omega
  have f3 : acc.length < 2513169434916 := by omega
  have f4 : (j : Int) ≤ (B.size : Int) := by omega
  have f5 : (B.size : Int) ≤ (B.size : Int) := Int.le_refl _
  have f6 : (j : Int) ≤ ((j + st : Nat) : Int) := by omega
  have n1 : ((j : Nat) : Int).toNat = j := by omega
  have n2 : ((B.size : Nat) : Int).toNat = B.size := by omega
  have n3 : ((j + st : Nat) : Int).toNat = j + st := by omega
  by_cases hg : j + st ≥ B.size
  · have g1 : ((j + st : Nat) : Int) ≥ (B.size : Int) := by omega
    have hm : mn ((j + st : Nat) : Int) (B.size : Int) = (B.size : Int) := by unfold mn; split <;> omega
    have hd : decide (j + st < B.size) = false := decide_eq_false (by omega)
    have hd2 : decide ((B.size : Int) < (B.size : Int)) = false := decide_eq_false (by omega)
    have hmi : min (j + st) B.size = B.size := by omega
    have hw : wrap64 ((j : Int) + (st : Int)) = ((j + st : Nat) : Int) := by rw [w64 (by omega) (by omega)]; omega
    have hz : wrap64 (0 + (j : Int)) = (j : Int) := by rw [w64 (by omega) (by omega)]; omega
    simp only [spec_CutDgram.l0, impl_CutDgram.l0, hw, hz, hm, hd, hd2, hmi, if_pos f1, if_pos f2, if_pos f3, if_pos f4, if_pos f5, if_pos g1, Bool.false_eq_true, if_false, n1, n2, and_self]
  · have g1 : ¬ ((j + st : Nat) : Int) ≥ (B.size : Int) := by omega
    have g2 : ((j + st : Nat) : Int) ≤ (B.size : Int) := by omega
    have hm : mn ((j + st : Nat) : Int) (B.size : Int) = ((j + st : Nat) : Int) := by unfold mn; split <;> omega
    have hd : decide (j + st < B.size) = true := decide_eq_true (by omega)
    have hd2 : decide (((j + st : Nat) : Int) < (B.size : Int)) = true := decide_eq_true (by omega)
    have hmi : min (j + st) B.size = j + st := by omega
    have hw : wrap64 ((j : Int) + (st : Int)) = ((j + st : Nat) : Int) := by rw [w64 (by omega) (by omega)]; omega
    have hz : wrap64 (0 + (j : Int)) = (j : Int) := by rw [w64 (by omega) (by omega)]; omega
    simp only [spec_CutDgram.l0, impl_CutDgram.l0, hw, hz, hm, hd, hd2, hmi, if_pos f1, if_pos f2, if_pos f3, if_pos f4, if_pos f6, if_pos g2, if_neg g1, Bool.false_eq_true, if_false, n1, n3, and_self]
theorem cutlist {a b c : Int} {B : ByteArray} {st N : Nat} (h : Cut B st N) : ∀ (d m : Nat), N - m = d → m ≤ N → ∀ k, d < k →
    spec_CutDgram.l0 k (st : Int) ((List.range m).map (pt a b c B st)) ((st * m : Nat) : Int) a b c 0 false B = some ((List.range N).map (pt a b c B st), true) ∧
    impl_CutDgram.l0 k (st : Int) ((List.range m).map (pt a b c B st)) ((st * m : Nat) : Int) a b c 0 false B = some ((List.range N).map (pt a b c B st), true) := by
  have hN := cut_N h
  have g := h
  obtain ⟨g0, g1, g2, g3, g4, g5, g6⟩ := g
  intro d
  induction d with
  | zero =>
    intro m hd hm k hk
    obtain rfl : m = N := by omega
    obtain ⟨k, rfl⟩ : ∃ n, k = n + 1 := ⟨k - 1, by omega⟩
    have f1 : ¬ ((st * m : Nat) : Int) < (B.size : Int) := by omega
    simp only [spec_CutDgram.l0, impl_CutDgram.l0, if_neg f1, and_self]
  | succ d ih =>
    intro m hd hm k hk
    obtain ⟨k, rfl⟩ : ∃ n, k = n + 1 := ⟨k - 1, by omega⟩
    have h1 := cut_lt h (show m < N by omega)
    have ih := ih (m + 1) (by omega) (by omega) k (by omega)
    have hr := cut_round a b c B st (st * m) ((List.range m).map (pt a b c B st)) (by omega) (by omega) g4 h1 (by rw [List.length_map, List.length_range]; omega) k
    rw [hr.1, hr.2]
    have e : List.map (pt a b c B st) (List.range m) ++ [(⟨a, b, c, ((st * m : Nat) : Int), decide (st * m + st < B.size), B.extract (st * m) (min (st * m + st) B.size)⟩ : S62)] = (List.range (m + 1)).map (pt a b c B st) := by
      rw [List.range_succ, List.map_append, List.map_singleton]
      rfl
    rw [e]
    exact ih
theorem cut_both' {a b c : Int} {B : ByteArray} {st N : Nat} (h : Cut B st N) (hd : dgB a b c 0 false B = true) (n : Int) (hn : n / 8 * 8 = (st : Int)) (hn2 : 8 ≤ n ∧ n ≤ 160) : ∀ k, 30 < k →
    spec_CutDgram.f k a b c 0 false B n = some ((List.range N).map (pt a b c B st), true) ∧ impl_CutDgram.f k a b c 0 false B n = some ((List.range N).map (pt a b c B st), true) := by
  intro k hk
  have hN := cut_N h
  obtain ⟨k, rfl⟩ : ∃ m, k = m + 1 := ⟨k - 1, by omega⟩
  have hr : rng n 8 160 = true := rng_iff.2 hn2
  have hst : wrap64 ((wrap64 (Int.tdiv n 8)) * 8) = (st : Int) := by
    rw [Int.tdiv_eq_ediv_of_nonneg (by omega), w64 (x := n / 8) (by omega) (by omega), w64 (by omega) (by omega)]
    exact hn
  unfold spec_CutDgram.f impl_CutDgram.f
  simp only [spec_dgB, impl_dgB, hd, in_eq, within_eq, hr, Option.bind_some, if_true, Bool.not_true, spec_CutDgram.j0, impl_CutDgram.j0, Bool.false_eq_true, if_false, hst]
  have := cutlist (a := a) (b := b) (c := c) h N 0 (by omega) (by omega) k (by omega)
  rw [Nat.mul_zero] at this
  exact this
theorem rdn_at {l : List Int} {j : Nat} (h : j < l.length) : rd l (j : Int) = l[j] := by unfold rd; exact getD_at _ h
theorem idx_loop (l : List Int) (x : Int) (hl : l.length ≤ 1000) : ∀ (d j : Nat), l.length - j = d → j ≤ l.length → (∀ q (h : q < l.length), q < j → l[q] ≠ x) →
    ∃ r, Ev (fun k => slices_Index_int_int.l0 k l x (l.length : Int) (j : Int)) r ∧ ((r = -1 ∧ x ∉ l) ∨ ∃ q : Nat, r = (q : Int) ∧ ∃ h : q < l.length, l[q] = x) := by
  intro d
  induction d with
  | zero =>
    intro j hd hj hn
    refine ⟨-1, Ev.step (f := fun _ => some (-1)) (fun k => by simp only [slices_Index_int_int.l0]; rw [if_neg (by omega)]) (Ev.now _), .inl ⟨rfl, fun hx => ?_⟩⟩
    obtain ⟨q, hq, e⟩ := List.getElem_of_mem hx
    exact hn q hq (by omega) e
  | succ d ih =>
    intro j hd hj hn
    have hjl : j < l.length := by omega
    by_cases h : x = l[j]
    · refine ⟨(j : Int), Ev.step (f := fun _ => some (j : Int)) (fun k => by simp only [slices_Index_int_int.l0]; rw [if_pos (by omega), if_pos (by omega), if_pos (by omega), rdn_at hjl, if_pos h]) (Ev.now _), .inr ⟨j, rfl, hjl, h.symm⟩⟩
    · obtain ⟨r, hr, hq⟩ := ih (j + 1) (by omega) (by omega) (fun q hq hq2 => by
        by_cases e : q = j
        · subst e; exact fun e2 => h e2.symm
        · exact hn q hq (by omega))
      refine ⟨r, Ev.step (fun k => ?_) hr, hq⟩
      simp only [slices_Index_int_int.l0]
      rw [if_pos (by omega), if_pos (by omega), if_pos (by omega), rdn_at hjl, if_neg h, w64 (by omega) (by omega)]
      rfl
theorem idx_ok (l : List Int) (x : Int) (hl : l.length ≤ 1000) : ∃ r, Ev (fun k => slices_Index_int_int.f k l x) r ∧ ((r = -1 ∧ x ∉ l) ∨ ∃ q : Nat, r = (q : Int) ∧ ∃ h : q < l.length, l[q] = x) :=
  idx_loop l x hl l.length 0 (by omega) (by omega) (fun q _ h => by omega)
theorem has_ok (l : List Int) (x : Int) (hl : l.length ≤ 1000) : Ev (fun k => slices_Contains_int_int.f k l x) (decide (x ∈ l)) := by
  obtain ⟨r, hr, hq⟩ := idx_ok l x hl
  refine Ev.bind hr ?_
  rcases hq with ⟨rfl, hx⟩ | ⟨q, rfl, hq, e⟩
  · rw [decide_eq_false hx]
    exact Ev.now _
  · have hx : x ∈ l := by rw [← e]; exact List.getElem_mem _
    rw [decide_eq_true hx, decide_eq_true (show (q : Int) ≥ 0 by omega)]
    exact Ev.now _
def pre (B : ByteArray) (st m : Nat) : ByteArray := B.extract 0 (min (st * m) B.size)
theorem pre_size (B : ByteArray) (st m : Nat) : (pre B st m).size = min (st * m) B.size := by unfold pre; rw [ByteArray.size_extract]; omega
theorem pre_succ {B : ByteArray} {st N m : Nat} (h : Cut B st N) (hm : m < N) : pre B st m ++ bd B st m = pre B st (m + 1) := by
  have h1 := cut_lt h hm
  have h2 : st * (m + 1) = st * m + st := Nat.mul_succ st m
  unfold pre bd
  refine bl_inj ?_
  rw [bl_app, bl_ext, bl_ext, bl_ext]
  rw [show min (st * m) B.size = st * m from by omega, List.drop_zero, Nat.sub_zero, Nat.sub_zero]
  rw [show min (st * (m + 1)) B.size = st * m + (min (st * (m + 1)) B.size - st * m) from by omega, List.take_add]
  rw [show st * m + (min (st * (m + 1)) B.size - st * m) - st * m = min (st * (m + 1)) B.size - st * m from by omega]
theorem pre_zero (B : ByteArray) (st : Nat) : pre B st 0 = (⟨#[]⟩ : ByteArray) := by
  refine bl_inj ?_
  unfold pre
  rw [bl_ext, Nat.mul_zero, Nat.zero_min]
  rfl
theorem pre_all {B : ByteArray} {st N : Nat} (h : Cut B st N) : pre B st N = B := by
  obtain ⟨_, _, _, _, _, _, h7⟩ := h
  refine bl_inj ?_
  unfold pre
  rw [bl_ext, show min (st * N) B.size = B.size from by omega, List.drop_zero, Nat.sub_zero]
  exact List.take_of_length_le (by rw [bytesOf_length]; omega)
def atJ (st : Nat) (m : Nat) : Int := ((st * m : Nat) : Int)
theorem at_inj {st x y : Nat} (hs : 8 ≤ st) (h : atJ st x = atJ st y) : x = y := by
  unfold atJ at h
  exact Nat.eq_of_mul_eq_mul_left (show 0 < st by omega) (by omega)
theorem at_mem {st m : Nat} {J : List Nat} (hs : 8 ≤ st) : atJ st m ∈ J.map (atJ st) ↔ m ∈ J := by
  rw [List.mem_map]
  constructor
  · rintro ⟨x, hx, e⟩
    rw [← at_inj hs e]; exact hx
  · exact fun h => ⟨m, h, rfl⟩
def allJ (N : Nat) (J : List Nat) : Bool := (List.range N).all fun m => decide (m ∈ J)
theorem allJ_iff {N : Nat} {J : List Nat} : allJ N J = true ↔ ∀ m, m < N → m ∈ J := by
  unfold allJ
  simp [List.all_eq_true]
theorem rdt_at {l : List ByteArray} {j : Nat} (h : j < l.length) : rdOf ByteArray.empty l (j : Int) = l[j] := by unfold rdOf; exact getD_at _ h
theorem whole_loop {B : ByteArray} {st N : Nat} (h : Cut B st N) (a c u : Int) (J : List Nat) (hJ : J.length ≤ 100) : ∀ (d m : Nat), N - m = d → m ≤ N → (∀ j, j < m → j ∈ J) →
    Ev (fun k => impl_whole.l0 k (pre B st m) a c (J.map (bd B st)) (J.map (atJ st)) (B.size : Int) u) (if allJ N J = true then (B, true) else ((⟨#[]⟩ : ByteArray), false)) := by
  have g := h
  obtain ⟨g0, g1, g2, g3, g4, g5, g6⟩ := g
  intro d
  induction d with
  | zero =>
    intro m hd hm ha
    obtain rfl : m = N := by omega
    rw [if_pos (allJ_iff.2 ha)]
    refine Ev.step (fun k => rfl) ?_
    simp only [impl_whole.l0, if_pos (show (B.size : Int) > 0 by omega), pre_all h]
    refine Ev.step (fun k => rfl) ?_
    simp only [impl_whole.j1, decide_eq_false (show ¬ (B.size : Int) < (B.size : Int) by omega), Bool.false_eq_true, if_false, if_pos (show (B.size : Int) > 0 by omega), beq_self_eq_true]
    exact Ev.now _
  | succ d ih =>
    intro m hd hm ha
    have h1 := cut_lt h (show m < N by omega)
    obtain ⟨s1, s2, s3⟩ := bd_size h (show m < N by omega)
    have hp : (pre B st m).size = st * m := by rw [pre_size]; omega
    refine Ev.step (fun k => rfl) ?_
    simp only [impl_whole.l0, if_pos (show (B.size : Int) > 0 by omega), hp]
    refine Ev.step (fun k => rfl) ?_
    simp only [impl_whole.j1, decide_eq_true (show ((st * m : Nat) : Int) < (B.size : Int) by omega), if_true, hp]
    obtain ⟨r, hr, hq⟩ := idx_ok (J.map (atJ st)) (atJ st m) (by rw [List.length_map]; omega)
    refine Ev.bind (show Ev (fun k => slices_Index_int_int.f k (J.map (atJ st)) ((st * m : Nat) : Int)) r from hr) ?_
    rcases hq with ⟨rfl, hx⟩ | ⟨q, rfl, hq, e⟩
    · have hx' : m ∉ J := fun hh => hx ((at_mem g1).2 hh)
      rw [if_neg (fun hh => hx' (allJ_iff.1 hh m (by omega)))]
      simp only [if_pos (show (-1 : Int) < 0 by omega)]
      exact Ev.now _
    · have hql : q < J.length := by rw [List.length_map] at hq; exact hq
      have hjq : J[q] = m := by
        rw [List.getElem_map] at e
        exact at_inj g1 e
      have hmJ : m ∈ J := by rw [← hjq]; exact List.getElem_mem _
      have hrd : rdOf ByteArray.empty (J.map (bd B st)) (q : Int) = bd B st m := by
        rw [rdt_at (by rw [List.length_map]; exact hql), List.getElem_map, hjq]
      have hne : ¬ (bd B st m).toList = ([] : List UInt8) := by
        rw [toList_nil]
        intro hh
        have := bytesOf_length (bd B st m)
        rw [hh] at this
        simp at this
        omega
      simp only [if_neg (show ¬ (q : Int) < 0 by omega), List.length_map, if_neg (show ¬ (q : Int) ≥ (J.length : Int) by omega), if_pos (show (0 : Int) ≤ (q : Int) by omega), if_pos (show (q : Int) < (J.length : Int) by omega), hrd, if_neg hne, if_pos (show st * m + (bd B st m).size ≤ 9223372036854775807 by omega), pre_succ h (show m < N by omega)]
      exact ih (m + 1) (by omega) (by omega) (fun j hj => by
        by_cases e2 : j = m
        · rw [e2]; exact hmJ
        · exact ha j (by omega))
theorem whole_ok {B : ByteArray} {st N : Nat} (h : Cut B st N) (a c u : Int) (J : List Nat) (hJ : J.length ≤ 100) (t : Int) (ht : t = if N - 1 ∈ J then (B.size : Int) else 0) :
    Ev (fun k => impl_whole.f k a c (J.map (bd B st)) (J.map (atJ st)) t u) (if allJ N J = true then (B, true) else ((⟨#[]⟩ : ByteArray), false)) := by
  have g0 := h.1
  by_cases hn : N - 1 ∈ J
  · rw [if_pos hn] at ht
    subst ht
    have := whole_loop h a c u J hJ N 0 (by omega) (by omega) (fun j hj => by omega)
    rw [pre_zero] at this
    exact this
  · rw [if_neg hn] at ht
    subst ht
    rw [if_neg (fun hh => hn (allJ_iff.1 hh _ (by omega)))]
    unfold impl_whole.f
    refine Ev.step (fun k => rfl) ?_
    simp only [impl_whole.l0, if_neg (show ¬ (0 : Int) > 0 by omega)]
    refine Ev.step (fun k => rfl) ?_
    simp only [impl_whole.j1, Bool.false_eq_true, if_false, if_neg (show ¬ (0 : Int) > 0 by omega)]
    exact Ev.now _

/-! ### joinbits -/
theorem copyInts_ok (l : List Int) (hl : l.length ≤ 1000) : impl_copyInts.f l = some l := by
  unfold impl_copyInts.f
  simp only [Option.bind_some, List.length_nil, List.nil_append]
  rw [if_pos (by omega)]
theorem copyBits_loop (l : List S82) (hl : l.length ≤ 1000) (hx : ∀ x ∈ l, x.f2.length ≤ 1000 ∧ x.f3.length ≤ 1000) : ∀ (d j : Nat), l.length - j = d → j ≤ l.length → Ev (fun k => impl_copyBits.l0 k (l.take j) l (l.length : Int) (j : Int)) l := by
  intro d
  induction d with
  | zero =>
    intro j hd hj
    rw [List.take_of_length_le (by omega)]
    exact Ev.step (f := fun _ => some l) (fun k => by simp only [impl_copyBits.l0]; rw [if_neg (by omega)]) (Ev.now _)
  | succ d ih =>
    intro j hd hj
    have hjl : j < l.length := by omega
    have hget : rd_T82 l (j : Int) = l[j] := by unfold rd_T82; exact getD_at _ hjl
    obtain ⟨h1, h2⟩ := hx _ (List.getElem_mem hjl)
    refine Ev.step (fun k => rfl) ?_
    have hlen : (l.take j).length < 1759218604441 := by rw [List.length_take]; omega
    simp only [impl_copyBits.l0, if_pos (show (j : Int) < (l.length : Int) by omega), if_pos (show (0 : Int) ≤ (j : Int) by omega), hget, Option.bind_some, List.length_nil, List.nil_append, if_pos (show 0 + l[j].f2.length < 8796093022208 by omega), copyInts_ok l[j].f3 h2, if_pos hlen, w64 (x := (j : Int) + 1) (by omega) (by omega)]
    have := ih (j + 1) (by omega) (by omega)
    rw [List.take_succ_eq_append_getElem hjl] at this
    exact this
theorem copyBits_ok (l : List S82) (hl : l.length ≤ 1000) (hx : ∀ x ∈ l, x.f2.length ≤ 1000 ∧ x.f3.length ≤ 1000) : Ev (fun k => impl_copyBits.f k l) l := by
  have := copyBits_loop l hl hx l.length 0 (by omega) (by omega)
  rw [List.take_zero] at this
  exact this
def bitsOf (a c : Int) (B : ByteArray) (st N : Nat) (J : List Nat) : S82 := ⟨a, c, J.map (bd B st), J.map (atJ st), if N - 1 ∈ J then (B.size : Int) else 0, 15⟩
def bitsL (a c : Int) (B : ByteArray) (st N : Nat) (J : List Nat) : List S82 := if J = [] then [] else [bitsOf a c B st N J]
theorem rd_one (x : S82) : rd_T82 [x] 0 = x := rfl
theorem join_end {a b c : Int} {B : ByteArray} {st N : Nat} (h : Cut B st N) (J : List Nat) (hJ : J.length ≤ 100) (m : Nat) (mo : Bool) (w : Bool) (y : S82) (s : ByteArray) (t : Int) (hy : if w = true then y = ⟨a, c, J.map (bd B st), J.map (atJ st), t, 15⟩ ∧ wrap64 (((st * m : Nat) : Int) + (s.size : Int)) = (if N - 1 ∈ J then (B.size : Int) else 0) else y = bitsOf a c B st N J) :
    Ev (fun k => impl_JoinBits.j3 k [y] 0 w a b c ((st * m : Nat) : Int) mo s) (if allJ N J = true then (([] : List S82), a, b, c, 0, false, B, true) else ([bitsOf a c B st N J], 0, 0, 0, 0, false, (⟨#[]⟩ : ByteArray), false)) := by
  refine Ev.step (fun k => rfl) ?_
  cases w with
  | true =>
    simp only [if_true] at hy
    obtain ⟨rfl, hy⟩ := hy
    simp only [impl_JoinBits.j3, if_true, if_pos (show (0 : Int) ≤ 0 by omega), List.length_singleton, if_pos (show (0 : Int) < ((1 : Nat) : Int) by omega), Option.bind_some, rd_one, hy]
    refine Ev.bind (show Ev _ (if allJ N J = true then (B, true) else ((⟨#[]⟩ : ByteArray), false)) from whole_ok h a c 15 J hJ _ rfl) ?_
    by_cases hall : allJ N J = true
    · simp only [if_pos hall, if_true, if_pos (show (0 : Int) ≤ ((1 : Nat) : Int) by omega), w64 (x := 0 + 1) (by omega) (by omega), if_pos (show (0 : Int) ≤ 0 + 1 by omega), if_pos (show (0 : Int) + 1 ≤ ((1 : Nat) : Int) by omega)]
      exact Ev.now _
    · simp only [if_neg hall, Bool.false_eq_true, if_false]
      exact Ev.now _
  | false =>
    simp only [Bool.false_eq_true, if_false] at hy
    subst hy
    simp only [impl_JoinBits.j3, Bool.false_eq_true, if_false, if_pos (show (0 : Int) ≤ 0 by omega), List.length_singleton, if_pos (show (0 : Int) < ((1 : Nat) : Int) by omega), rd_one]
    refine Ev.bind (show Ev _ (if allJ N J = true then (B, true) else ((⟨#[]⟩ : ByteArray), false)) from whole_ok h a c 15 J hJ _ rfl) ?_
    by_cases hall : allJ N J = true
    · simp only [if_pos hall, if_true, if_pos (show (0 : Int) ≤ ((1 : Nat) : Int) by omega), w64 (x := 0 + 1) (by omega) (by omega), if_pos (show (0 : Int) ≤ 0 + 1 by omega), if_pos (show (0 : Int) + 1 ≤ ((1 : Nat) : Int) by omega)]
      exact Ev.now _
    · simp only [if_neg hall, Bool.false_eq_true, if_false]
      exact Ev.now _
theorem join_two {a b c : Int} {B : ByteArray} {st N : Nat} (h : Cut B st N) (J : List Nat) (hJ : J.length ≤ 50) (m : Nat) (hm : m < N) :
    Ev (fun k => impl_JoinBits.j2 k [bitsOf a c B st N J] 0 a b c ((st * m : Nat) : Int) (decide (st * (m + 1) < B.size)) (bd B st m))
      (if allJ N (if m ∈ J then J else J ++ [m]) = true then (([] : List S82), a, b, c, 0, false, B, true) else ([bitsOf a c B st N (if m ∈ J then J else J ++ [m])], 0, 0, 0, 0, false, (⟨#[]⟩ : ByteArray), false)) := by
  have g := h
  obtain ⟨g0, g1, g2, g3, g4, g5, g6⟩ := g
  have h1 := cut_lt h hm
  have h2 : st * (m + 1) = st * m + st := Nat.mul_succ st m
  obtain ⟨s1, s2, s3⟩ := bd_size h hm
  refine Ev.step (fun k => rfl) ?_
  simp only [impl_JoinBits.j2, if_pos (show (0 : Int) ≤ 0 by omega), List.length_singleton, if_pos (show (0 : Int) < ((1 : Nat) : Int) by omega), rd_one]
  refine Ev.bind (show Ev (fun k => slices_Contains_int_int.f k (bitsOf a c B st N J).f3 ((st * m : Nat) : Int)) (decide (m ∈ J)) from ?_) ?_
  · have := has_ok (J.map (atJ st)) (atJ st m) (by rw [List.length_map]; omega)
    rw [show decide (atJ st m ∈ J.map (atJ st)) = decide (m ∈ J) from by rw [decide_eq_decide]; exact at_mem g1] at this
    exact this
  · by_cases hmJ : m ∈ J
    · simp only [if_pos hmJ, decide_eq_true hmJ, if_true]
      refine Ev.bind (show Ev _ (if allJ N J = true then (B, true) else ((⟨#[]⟩ : ByteArray), false)) from whole_ok h a c 15 J (by omega) _ rfl) ?_
      by_cases hall : allJ N J = true
      · simp only [if_pos hall, if_true, if_pos (show (0 : Int) ≤ ((1 : Nat) : Int) by omega), w64 (x := 0 + 1) (by omega) (by omega), if_pos (show (0 : Int) ≤ 0 + 1 by omega), if_pos (show (0 : Int) + 1 ≤ ((1 : Nat) : Int) by omega)]
        exact Ev.now _
      · simp only [if_neg hall, Bool.false_eq_true, if_false]
        exact Ev.now _
    · have l1 : (bitsOf a c B st N J).f3.length < 17592186044416 := by show (J.map (atJ st)).length < _; rw [List.length_map]; omega
      have l2 : (bitsOf a c B st N J).f2.length < 8796093022208 := by show (J.map (bd B st)).length < _; rw [List.length_map]; omega
      simp only [if_neg hmJ, decide_eq_false hmJ, Bool.false_eq_true, if_false, if_pos l1, Option.bind_some]
      rw [show ([bitsOf a c B st N J].set (0 : Int).toNat (⟨(bitsOf a c B st N J).f0, (bitsOf a c B st N J).f1, (bitsOf a c B st N J).f2, (bitsOf a c B st N J).f3 ++ [((st * m : Nat) : Int)], (bitsOf a c B st N J).f4, (bitsOf a c B st N J).f5⟩ : S82)) = [(⟨a, c, J.map (bd B st), (J ++ [m]).map (atJ st), if N - 1 ∈ J then (B.size : Int) else 0, 15⟩ : S82)] from by rw [List.map_append]; rfl]
      simp only [rd_one, if_pos l2, show (J.map (bd B st)).length < 8796093022208 from l2, if_true]
      rw [show ([(⟨a, c, J.map (bd B st), (J ++ [m]).map (atJ st), if N - 1 ∈ J then (B.size : Int) else 0, 15⟩ : S82)].set (0 : Int).toNat (⟨a, c, J.map (bd B st) ++ [bd B st m], (J ++ [m]).map (atJ st), if N - 1 ∈ J then (B.size : Int) else 0, 15⟩ : S82)) = [(⟨a, c, (J ++ [m]).map (bd B st), (J ++ [m]).map (atJ st), if N - 1 ∈ J then (B.size : Int) else 0, 15⟩ : S82)] from by rw [List.map_append (f := bd B st)]; rfl]
      simp only [rd_one]
      have hl2 : (J ++ [m]).length ≤ 100 := by rw [List.length_append, List.length_singleton]; omega
      by_cases hlast : m + 1 = N
      · have e1 := cut_last h hlast
        have e2 : N - 1 = m := by omega
        simp only [if_neg (show ¬ N - 1 ∈ J by rw [e2]; exact hmJ), decide_eq_false (show ¬ st * (m + 1) < B.size by omega), Bool.false_eq_true, if_false, beq_self_eq_true]
        refine join_end h (J ++ [m]) hl2 m _ true _ _ 0 ?_
        rw [if_pos rfl]
        refine ⟨rfl, ?_⟩
        rw [if_pos (show N - 1 ∈ J ++ [m] by rw [e2]; simp), w64 (by omega) (by omega)]
        omega
      · have e1 := cut_mid h (show m + 1 < N by omega)
        simp only [decide_eq_true e1, if_true]
        refine join_end h (J ++ [m]) hl2 m _ false _ _ 0 ?_
        rw [if_neg (by simp)]
        unfold bitsOf
        have : N - 1 ∈ J ++ [m] ↔ N - 1 ∈ J := by
          rw [List.mem_append, List.mem_singleton]
          constructor
          · rintro (h | h)
            · exact h
            · omega
          · exact .inl
        simp only [this]
theorem join_ok {a b c : Int} {B : ByteArray} {st N : Nat} (h : Cut B st N) (h2N : 2 ≤ N) (ha : 1 ≤ a ∧ a ≤ 3) (hb : 1 ≤ b ∧ b ≤ 3) (hc : 0 ≤ c ∧ c ≤ 3) (J : List Nat) (hJ : J.length ≤ 50) (m : Nat) (hm : m < N) :
    Ev (fun k => impl_JoinBits.f k (bitsL a c B st N J) a b c ((st * m : Nat) : Int) (decide (st * (m + 1) < B.size)) (bd B st m) 5)
      (if allJ N (if m ∈ J then J else J ++ [m]) = true then (([] : List S82), a, b, c, 0, false, B, true) else ([bitsOf a c B st N (if m ∈ J then J else J ++ [m])], 0, 0, 0, 0, false, (⟨#[]⟩ : ByteArray), false)) := by
  have g1 := h.2.1
  unfold impl_JoinBits.f
  refine Ev.bind (copyBits_ok (bitsL a c B st N J) ?_ ?_) ?_
  · unfold bitsL; split <;> simp
  · intro x hx
    unfold bitsL at hx
    split at hx
    · cases hx
    · rw [List.mem_singleton] at hx
      subst hx
      exact ⟨by show (J.map (bd B st)).length ≤ 1000; rw [List.length_map]; omega, by show (J.map (atJ st)).length ≤ 1000; rw [List.length_map]; omega⟩
  simp only [impl_dgB, part_ok h ha hb hc hm, Option.bind_some, if_true, within_eq, show rng 5 0 999999990 = true from rfl, Bool.not_true]
  refine Ev.step (fun k => rfl) ?_
  have hj1 : Ev (fun k => impl_JoinBits.j1 k 5 (bitsL a c B st N J) false a b c ((st * m : Nat) : Int) (decide (st * (m + 1) < B.size)) (bd B st m))
      (if allJ N (if m ∈ J then J else J ++ [m]) = true then (([] : List S82), a, b, c, 0, false, B, true) else ([bitsOf a c B st N (if m ∈ J then J else J ++ [m])], 0, 0, 0, 0, false, (⟨#[]⟩ : ByteArray), false)) := by
    refine Ev.step (fun k => rfl) ?_
    simp only [impl_JoinBits.j1, Bool.false_eq_true, if_false]
    by_cases hn : J = []
    · subst hn
      have e : bitsL a c B st N [] = [] := rfl
      rw [e]
      have hB : Ev (fun k => impl_Bits.f k [] a b c ((st * m : Nat) : Int) (decide (st * (m + 1) < B.size)) (bd B st m)) (-1) := Ev.step (f := fun _ => some (-1)) (fun k => by simp only [impl_Bits.f, impl_Bits.l0]; rw [if_neg (by simp)]) (Ev.now _)
      refine Ev.bind hB ?_
      simp only [if_pos (show (-1 : Int) < 0 by omega), List.length_nil, if_pos (show 0 < 1759218604441 by omega), Option.bind_some, List.nil_append, List.length_singleton, w64 (x := 5 + 10) (by omega) (by omega)]
      have hmx : mx 0 (wrap64 (((1 : Nat) : Int) - 3)) = 0 := by rw [w64 (by omega) (by omega)]; unfold mx; rw [if_neg (by omega)]
      have hw1 : wrap64 (((1 : Nat) : Int) - 1) = 0 := by rw [w64 (by omega) (by omega)]; rfl
      simp only [if_pos hmx, hw1]
      exact join_two h [] hJ m hm
    · have e : bitsL a c B st N J = [bitsOf a c B st N J] := by unfold bitsL; rw [if_neg hn]
      rw [e]
      have hB : Ev (fun k => impl_Bits.f k [bitsOf a c B st N J] a b c ((st * m : Nat) : Int) (decide (st * (m + 1) < B.size)) (bd B st m)) 0 := by
        refine Ev.step (f := fun _ => some 0) (fun k => ?_) (Ev.now _)
        simp only [impl_Bits.f, impl_Bits.l0, List.length_singleton, rd_one]
        rw [if_pos (by omega), if_pos (by omega)]
        exact if_pos (by simp [bitsOf])
      refine Ev.bind hB ?_
      simp only [if_neg (show ¬ (0 : Int) < 0 by omega)]
      exact join_two h J hJ m hm
  by_cases h0 : ((st * m : Nat) : Int) = 0
  · have hm0 : m = 0 := by
      rcases Nat.eq_zero_or_pos m with h | h
      · exact h
      · have := Nat.mul_le_mul g1 h
        omega
    subst hm0
    have := cut_mid h (show 0 + 1 < N by omega)
    simp only [impl_JoinBits.j0, Bool.false_eq_true, if_false, if_pos h0]
    rw [show (!decide (st * (0 + 1) < B.size)) = false from by rw [decide_eq_true this]; rfl]
    exact hj1
  · simp only [impl_JoinBits.j0, Bool.false_eq_true, if_false, if_neg h0]
    exact hj1

/-! ### draw -/
def Cur (b : List Int) (i : Int) : Prop := 0 ≤ i ∧ i ≤ (b.length : Int)
theorem new_loop (b : List Int) : ∀ (d : Nat) (i x : Int), 0 ≤ i → i ≤ 4000 → 4000 - i ≤ d → ∃ h, ∀ k, d < k → spec_l01New.l0 k b x i = some (b, 0, h) := by
  intro d
  induction d with
  | zero =>
    intro i x h0 h1 hd
    refine ⟨x, fun k hk => ?_⟩
    obtain ⟨k, rfl⟩ : ∃ m, k = m + 1 := ⟨k - 1, by omega⟩
    simp only [spec_l01New.l0]
    by_cases hl : i < (b.length : Int)
    · rw [if_pos hl, if_neg (by omega)]
    · rw [if_neg hl]
  | succ d ih =>
    intro i x h0 h1 hd
    by_cases hl : i < (b.length : Int) ∧ i < 4000
    · obtain ⟨h, ih⟩ := ih (i + 1) (Go.bits .and .i64 (wrap64 ((wrap64 ((wrap64 (x * 131)) + (wrap64 (rd b i)))) + 7)) 1073741823) (by omega) (by omega) (by omega)
      refine ⟨h, fun k hk => ?_⟩
      obtain ⟨k, rfl⟩ : ∃ m, k = m + 1 := ⟨k - 1, by omega⟩
      simp only [spec_l01New.l0]
      rw [if_pos hl.1, if_pos hl.2, if_pos h0, w64 (x := i + 1) (by omega) (by omega)]
      exact ih k (by omega)
    · refine ⟨x, fun k hk => ?_⟩
      obtain ⟨k, rfl⟩ : ∃ m, k = m + 1 := ⟨k - 1, by omega⟩
      simp only [spec_l01New.l0]
      by_cases hl2 : i < (b.length : Int)
      · rw [if_pos hl2, if_neg (by omega)]
      · rw [if_neg hl2]
theorem new_ok (b : List Int) : ∃ h, Ev (fun k => spec_l01New.f k b) (b, 0, h) := by
  obtain ⟨h, hk⟩ := new_loop b 4000 0 (wrap64 (37401 + (b.length : Int))) (by omega) (by omega) (by omega)
  exact ⟨h, 4001, fun k h1 => hk k (by omega)⟩
theorem cur_zero (b : List Int) : Cur b 0 := ⟨by omega, by omega⟩
theorem byte_ok {b : List Int} {i : Int} (h : Int) (hb : b.length ≤ 1048576) (hi : Cur b i) : ∃ v i' h', spec_l01Byte.f b i h = some (v, i', h') ∧ (0 ≤ v ∧ v ≤ 255) ∧ Cur b i' := by
  obtain ⟨h0, h1⟩ := hi
  unfold spec_l01Byte.f
  by_cases hl : i < (b.length : Int)
  · rw [if_pos hl, if_pos h0]
    refine ⟨_, _, _, rfl, ?_, ?_⟩
    · rw [and255]; omega
    · rw [w64 (by omega) (by omega)]; exact ⟨by omega, by omega⟩
  · rw [if_neg hl]
    refine ⟨_, _, _, rfl, ?_, h0, h1⟩
    rw [and255]; omega
theorem tmod_below {x n : Int} (hx : 0 ≤ x) (hn : 0 < n) : 0 ≤ Int.tmod x n ∧ Int.tmod x n < n := by
  rw [Int.tmod_eq_emod_of_nonneg hx]
  exact ⟨Int.emod_nonneg _ (by omega), Int.emod_lt_of_pos _ hn⟩
theorem below_ok {b : List Int} {i : Int} (h n : Int) (hb : b.length ≤ 1048576) (hi : Cur b i) : ∃ v i' h', spec_l01Below.f b i h n = some (v, i', h') ∧ (0 ≤ v ∧ (0 < n → v < n) ∧ (n ≤ 0 → v = 0)) ∧ Cur b i' := by
  unfold spec_l01Below.f
  by_cases hn : n ≤ 0
  · rw [if_pos hn]
    exact ⟨0, i, h, rfl, ⟨by omega, fun h => by omega, fun _ => rfl⟩, hi⟩
  · rw [if_neg hn]
    by_cases hs : n ≤ 256
    · rw [if_pos hs]
      obtain ⟨v, i', h', e, hv, hi'⟩ := byte_ok h hb hi
      rw [e]
      simp only [Option.bind_some]
      rw [if_neg (by omega)]
      have := tmod_below hv.1 (show 0 < n by omega)
      exact ⟨_, _, _, rfl, ⟨this.1, fun _ => this.2, fun h => absurd h hn⟩, hi'⟩
    · rw [if_neg hs]
      obtain ⟨v1, i1, h1, e1, hv1, hi1⟩ := byte_ok h hb hi
      rw [e1]
      simp only [Option.bind_some]
      obtain ⟨v2, i2, h2, e2, hv2, hi2⟩ := byte_ok h1 hb hi1
      rw [e2]
      simp only [Option.bind_some]
      obtain ⟨v3, i3, h3, e3, hv3, hi3⟩ := byte_ok h2 hb hi2
      rw [e3]
      simp only [Option.bind_some]
      obtain ⟨v4, i4, h4, e4, hv4, hi4⟩ := byte_ok h3 hb hi3
      rw [e4]
      simp only [Option.bind_some]
      rw [if_neg (by omega)]
      rw [w64 (x := v1 * 16777216) (by omega) (by omega), w64 (x := v2 * 65536) (by omega) (by omega), w64 (x := v3 * 256) (by omega) (by omega), w64 (x := v1 * 16777216 + v2 * 65536) (by omega) (by omega),
        w64 (x := v1 * 16777216 + v2 * 65536 + v3 * 256) (by omega) (by omega), w64 (x := v1 * 16777216 + v2 * 65536 + v3 * 256 + v4) (by omega) (by omega)]
      have := tmod_below (show 0 ≤ v1 * 16777216 + v2 * 65536 + v3 * 256 + v4 by omega) (show 0 < n by omega)
      exact ⟨_, _, _, rfl, ⟨this.1, fun _ => this.2, fun h => absurd h hn⟩, hi4⟩
theorem big_eq (b : List Int) : laws_big.f b = some (decide ((b.length : Int) > 1048576)) := rfl

/-! ### tot -/
def Tot {α : Type} (g : Nat → Option α) (P : α → Prop) : Prop := ∃ r, Ev g r ∧ P r
theorem Tot.bind {α β : Type} {g : Nat → Option α} {f : Nat → α → Option β} {P : α → Prop} {Q : β → Prop} (h : Tot g P) (h2 : ∀ r, P r → Tot (fun k => f k r) Q) : Tot (fun k => (g k).bind (f k)) Q := by
  obtain ⟨r, e, hr⟩ := h
  obtain ⟨q, e2, hq⟩ := h2 r hr
  exact ⟨q, Ev.bind e e2, hq⟩
theorem Tot.ret {α : Type} {P : α → Prop} (r : α) (h : P r) : Tot (fun _ => some r) P := ⟨r, Ev.now _, h⟩
theorem Tot.step {α : Type} {F f : Nat → Option α} {P : α → Prop} (hs : ∀ k, F (k + 1) = f k) (h : Tot f P) : Tot F P := by
  obtain ⟨r, e, hr⟩ := h
  exact ⟨r, Ev.step hs e, hr⟩
theorem Tot.mono {α : Type} {g : Nat → Option α} {P Q : α → Prop} (h : Tot g P) (hpq : ∀ r, P r → Q r) : Tot g Q := by
  obtain ⟨r, e, hr⟩ := h
  exact ⟨r, e, hpq r hr⟩
theorem Tot.of_some {α : Type} {o : Option α} {P : α → Prop} (r : α) (e : o = some r) (h : P r) : Tot (fun _ => o) P := ⟨r, ⟨0, fun _ _ => e⟩, h⟩
theorem tByte {b : List Int} {i : Int} (h : Int) (hb : b.length ≤ 1048576) (hi : Cur b i) : Tot (fun _ => spec_l01Byte.f b i h) (fun r => (0 ≤ r.1 ∧ r.1 ≤ 255) ∧ Cur b r.2.1) := by
  obtain ⟨v, i', h', e, hv, hi'⟩ := byte_ok h hb hi
  exact Tot.of_some _ e ⟨hv, hi'⟩
theorem tBelow {b : List Int} {i : Int} (h n : Int) (hb : b.length ≤ 1048576) (hi : Cur b i) : Tot (fun _ => spec_l01Below.f b i h n) (fun r => (0 ≤ r.1 ∧ (0 < n → r.1 < n) ∧ (n ≤ 0 → r.1 = 0)) ∧ Cur b r.2.1) := by
  obtain ⟨v, i', h', e, hv, hi'⟩ := below_ok h n hb hi
  exact Tot.of_some _ e ⟨hv, hi'⟩
theorem rd_mem {l : List Int} {i : Int} (h0 : 0 ≤ i) (h1 : i < (l.length : Int)) : rd l i ∈ l := by
  unfold rd
  rw [List.getD_eq_getElem?_getD, List.getElem?_eq_getElem (by omega), Option.getD_some]
  exact List.getElem_mem _
theorem tPick {b : List Int} {i : Int} (h : Int) (l : List Int) (hb : b.length ≤ 1048576) (hi : Cur b i) (hl : 0 < l.length) : Tot (fun _ => spec_l01PickInt.f b i h l) (fun r => r.1 ∈ l ∧ Cur b r.2.1) := by
  obtain ⟨v, i', h', e, hv, hi'⟩ := below_ok h (l.length : Int) hb hi
  have h1 := hv.2.1 (by omega)
  refine Tot.of_some (rd l v, i', h') ?_ ⟨rd_mem hv.1 h1, hi'⟩
  unfold spec_l01PickInt.f
  rw [e]
  simp only [Option.bind_some]
  rw [if_pos hv.1, if_pos h1]
theorem tOnce {b : List Int} {i : Int} (h n : Int) (hb : b.length ≤ 1048576) (hi : Cur b i) : Tot (fun _ => spec_l01Once.f b i h n) (fun r => Cur b r.2.1) := by
  obtain ⟨v, i', h', e, _, hi'⟩ := below_ok h n hb hi
  refine Tot.of_some (v == 0, i', h') ?_ hi'
  unfold spec_l01Once.f
  rw [e]
  rfl

/-! ### text -/
theorem text_loop {b : List Int} (hb : b.length ≤ 1048576) (n : Int) (hn : n ≤ 5000) : ∀ (d : Nat) (acc : List Int) (j : Int) (i h : Int), Cur b i → (acc.length : Int) = j → n - j ≤ d → (j ≤ n ∨ j = 0) →
    Tot (fun k => spec_l01Text.l0 k n acc j b i h) (fun r => (r.1.size : Int) = mx 0 n ∧ Cur b r.2.1) := by
  intro d
  induction d with
  | zero =>
    intro acc j i h hi hl hd hj
    refine Tot.step (f := fun _ => some (strOfNums acc, i, h)) (fun k => by simp only [spec_l01Text.l0]; rw [if_neg (by omega)]) (Tot.ret _ ⟨?_, hi⟩)
    rw [strOfNums_size]
    unfold mx
    split <;> omega
  | succ d ih =>
    intro acc j i h hi hl hd hj
    by_cases hjn : j < n
    · refine Tot.step (fun k => rfl) ?_
      simp only [spec_l01Text.l0, if_pos hjn]
      refine Tot.bind (tByte h hb hi) fun r hr => ?_
      have hlen : acc.length < 140737488355328 := by omega
      simp only [if_pos hlen]
      rw [w64 (by omega) (by omega)]
      exact ih (acc ++ [r.1 % 256]) (j + 1) r.2.1 r.2.2 hr.2 (by rw [List.length_append, List.length_singleton]; omega) (by omega) (by omega)
    · refine Tot.step (f := fun _ => some (strOfNums acc, i, h)) (fun k => by simp only [spec_l01Text.l0]; rw [if_neg hjn]) (Tot.ret _ ⟨?_, hi⟩)
      rw [strOfNums_size]
      unfold mx
      split <;> omega
theorem tText {b : List Int} {i : Int} (h n : Int) (hb : b.length ≤ 1048576) (hi : Cur b i) : Tot (fun k => spec_l01Text.f k b i h n) (fun r => r.1.size ≤ 5000 ∧ (0 ≤ n → n ≤ 5000 → (r.1.size : Int) = n) ∧ Cur b r.2.1) := by
  unfold spec_l01Text.f
  by_cases hn : n > 5000
  · simp only [if_pos hn]
    refine Tot.step (f := fun k => spec_l01Text.l0 k 5000 [] 0 b i h) (fun k => rfl) ((text_loop hb 5000 (by omega) 5000 [] 0 i h hi rfl (by omega) (by omega)).mono fun r hr => ⟨?_, fun h0 h1 => absurd h1 (by omega), hr.2⟩)
    have := hr.1
    unfold mx at this
    rw [if_pos (by omega)] at this
    omega
  · simp only [if_neg hn]
    refine Tot.step (f := fun k => spec_l01Text.l0 k n [] 0 b i h) (fun k => rfl) ((text_loop hb n (by omega) 5000 [] 0 i h hi rfl (by omega) (by omega)).mono fun r hr => ?_)
    have h2 := hr.1
    unfold mx at h2
    refine ⟨?_, fun h0 h1 => ?_, hr.2⟩
    · split at h2 <;> omega
    · split at h2 <;> omega
theorem long_loop (n c : Int) (hn : n ≤ 1000000) : ∀ (d : Nat) (j : Int) (l : List Int), (l.length : Int) = n → 0 ≤ j → n - j ≤ d → j ≤ n → Tot (fun k => spec_l01Long.l0 k n c l j) (fun r => (r.size : Int) = n) := by
  intro d
  induction d with
  | zero =>
    intro j l hl h0 hd hj
    refine Tot.step (f := fun _ => some (strOfNums l)) (fun k => by simp only [spec_l01Long.l0]; rw [if_neg (by omega)]) (Tot.ret _ (by rw [strOfNums_size]; exact hl))
  | succ d ih =>
    intro j l hl h0 hd hj
    by_cases hjn : j < n
    · refine Tot.step (fun k => by simp only [spec_l01Long.l0]; rw [if_pos hjn, if_pos h0, if_pos (by omega), w64 (by omega) (by omega)]) ?_
      exact ih (j + 1) (l.set j.toNat c) (by rw [List.length_set]; exact hl) (by omega) (by omega) (by omega)
    · refine Tot.step (f := fun _ => some (strOfNums l)) (fun k => by simp only [spec_l01Long.l0]; rw [if_neg hjn]) (Tot.ret _ (by rw [strOfNums_size]; exact hl))
theorem tLong (n c : Int) (h0 : 0 ≤ n) (hn : n ≤ 1000000) : Tot (fun k => spec_l01Long.f k n c) (fun r => (r.size : Int) = n) := by
  unfold spec_l01Long.f
  simp only [if_pos h0, if_pos (show n.toNat ≤ 281474976710656 by omega)]
  exact long_loop n c hn n.toNat 0 _ (by rw [List.length_replicate]; omega) (by omega) (by omega) (by omega)

/-! ### dgdraw -/
theorem places_loop {b : List Int} (hb : b.length ≤ 1048576) : ∀ (d : Nat) (acc : List Int) (j : Int) (i h : Int), Cur b i → (acc.length : Int) = j → 12 - j = d → (∀ x ∈ acc, 0 ≤ x ∧ x < 10000) →
    ∃ p, p.length = 12 ∧ (∀ x ∈ p, 0 ≤ x ∧ x < 10000) ∧ ∀ k, d < k → spec_DrawPlaces.l0 k acc j b i h = some p := by
  intro d
  induction d with
  | zero =>
    intro acc j i h hi hl hd ha
    refine ⟨acc, by omega, ha, fun k hk => ?_⟩
    obtain ⟨k, rfl⟩ : ∃ m, k = m + 1 := ⟨k - 1, by omega⟩
    simp only [spec_DrawPlaces.l0]
    rw [if_neg (by omega)]
  | succ d ih =>
    intro acc j i h hi hl hd ha
    obtain ⟨v, i', h', e, hv, hi'⟩ := below_ok h 10000 hb hi
    obtain ⟨p, hp, hp2, hk2⟩ := ih (acc ++ [v]) (j + 1) i' h' hi' (by rw [List.length_append, List.length_singleton]; omega) (by omega) (by
      intro x hx
      rcases List.mem_append.1 hx with hx | hx
      · exact ha x hx
      · rw [List.mem_singleton.1 hx]; exact ⟨hv.1, hv.2.1 (by omega)⟩)
    refine ⟨p, hp, hp2, fun k hk => ?_⟩
    obtain ⟨k, rfl⟩ : ∃ m, k = m + 1 := ⟨k - 1, by omega⟩
    simp only [spec_DrawPlaces.l0]
    rw [if_pos (by omega), e]
    simp only [Option.bind_some]
    rw [if_pos (by omega), w64 (x := j + 1) (by omega) (by omega)]
    exact hk2 k (by omega)
theorem places_ok {b : List Int} (hb : b.length ≤ 1048576) : ∃ p, p.length = 12 ∧ (∀ x ∈ p, 0 ≤ x ∧ x < 10000) ∧ Ev (fun k => spec_DrawPlaces.f k b) p := by
  obtain ⟨h, hn⟩ := new_ok b
  obtain ⟨v, i', h', e, _, hi'⟩ := byte_ok h hb (cur_zero b)
  obtain ⟨p, hp, hp2, hk⟩ := places_loop hb 12 [] 0 i' h' hi' rfl rfl (fun x hx => by cases hx)
  refine ⟨p, hp, hp2, Ev.bind hn ?_⟩
  refine ⟨13, fun k h1 => ?_⟩
  show (spec_l01Byte.f b 0 h).bind _ = _
  rw [e]
  exact hk k (by omega)
theorem rd_range {p : List Int} {a c : Int} (hp : ∀ x ∈ p, a ≤ x ∧ x < c) {j : Int} (h0 : 0 ≤ j) (h1 : j < (p.length : Int)) : a ≤ rd p j ∧ rd p j < c := by
  refine hp _ ?_
  unfold rd
  rw [List.getD_eq_getElem?_getD, List.getElem?_eq_getElem (by omega), Option.getD_some]
  exact List.getElem_mem _

/-! ### FnParts -/
theorem tDgR {b : List Int} {i : Int} (h : Int) (hb : b.length ≤ 1048576) (hi : Cur b i) : Tot (fun k => spec_l11Dgram.f k b i h) (fun r => (1 ≤ r.1 ∧ r.1 ≤ 3) ∧ (1 ≤ r.2.1 ∧ r.2.1 ≤ 3) ∧ (0 ≤ r.2.2.1 ∧ r.2.2.1 ≤ 3) ∧ r.2.2.2.1 = 0 ∧ r.2.2.2.2.1 = false ∧ (1 ≤ r.2.2.2.2.2.1.size ∧ r.2.2.2.2.2.1.size ≤ 160)) := by
  unfold spec_l11Dgram.f
  refine Tot.bind (tBelow h 3 hb hi) fun r hr => ?_
  refine Tot.bind (tBelow r.2.2 3 hb hr.2) fun r2 hr2 => ?_
  refine Tot.bind (tBelow r2.2.2 4 hb hr2.2) fun r3 hr3 => ?_
  refine Tot.bind (tBelow r3.2.2 30 hb hr3.2) fun r4 hr4 => ?_
  have g1 := hr.1.2.1 (by omega)
  have g2 := hr2.1.2.1 (by omega)
  have g3 := hr3.1.2.1 (by omega)
  have g4 := hr4.1.2.1 (by omega)
  have f1 := hr.1.1
  have f2 := hr2.1.1
  have f3 := hr3.1.1
  have f4 := hr4.1.1
  simp only [w64 (x := 1 + r.1) (by omega) (by omega), w64 (x := 1 + r2.1) (by omega) (by omega), w64 (x := 1 + r4.1) (by omega) (by omega)]
  refine Tot.bind (tText r4.2.2 _ hb hr4.2) fun r5 hr5 => ?_
  have g5 := hr5.2.1 (by omega) (by omega)
  refine Tot.bind (tOnce r5.2.2 4 hb hr5.2.2) fun r6 hr6 => ?_
  by_cases h6 : r6.1 = true
  · simp only [if_pos h6]
    refine Tot.bind (tPick r6.2.2 [1, 8, 64, 100, 160] hb hr6 (by simp)) fun r7 hr7 => ?_
    have h7 : 1 ≤ r7.1 ∧ r7.1 ≤ 160 := by have := hr7.1; simp at this; omega
    refine Tot.bind (tLong r7.1 66 (by omega) (by omega)) fun r8 hr8 => ?_
    exact Tot.ret _ ⟨⟨by show 1 ≤ 1 + r.1; omega, by show 1 + r.1 ≤ 3; omega⟩, ⟨by show 1 ≤ 1 + r2.1; omega, by show 1 + r2.1 ≤ 3; omega⟩, ⟨f3, by show r3.1 ≤ 3; omega⟩, rfl, rfl, by show 1 ≤ r8.size; omega, by show r8.size ≤ 160; omega⟩
  · simp only [if_neg h6]
    exact Tot.ret _ ⟨⟨by show 1 ≤ 1 + r.1; omega, by show 1 + r.1 ≤ 3; omega⟩, ⟨by show 1 ≤ 1 + r2.1; omega, by show 1 + r2.1 ≤ 3; omega⟩, ⟨f3, by show r3.1 ≤ 3; omega⟩, rfl, rfl, by show 1 ≤ r5.1.size; omega, by show r5.1.size ≤ 160; omega⟩
def mAt (N : Nat) (q i : Nat) : Nat := (i + q) % N
def Jn (N q i : Nat) : List Nat := (List.range i).map (mAt N q)
theorem Jn_len (N q i : Nat) : (Jn N q i).length = i := by unfold Jn; rw [List.length_map, List.length_range]
theorem Jn_succ (N q i : Nat) : Jn N q (i + 1) = Jn N q i ++ [mAt N q i] := by unfold Jn; rw [List.range_succ, List.map_append, List.map_singleton]
theorem mAt_lt {N : Nat} (q i : Nat) (h : 0 < N) : mAt N q i < N := Nat.mod_lt _ h
theorem mod_diff {N x y : Nat} (h : x % N = y % N) (hxy : x ≤ y) (hd : y - x < N) : x = y := by
  have h1 : (y - x) % N = 0 := Nat.sub_mod_eq_zero_of_mod_eq h.symm
  rw [Nat.mod_eq_of_lt hd] at h1
  omega
theorem Jn_new {N q i : Nat} (h : i < N) : mAt N q i ∉ Jn N q i := by
  intro hm
  unfold Jn at hm
  obtain ⟨j, hj, e⟩ := List.mem_map.1 hm
  rw [List.mem_range] at hj
  unfold mAt at e
  have := mod_diff e (by omega) (by omega)
  omega
theorem Jn_all {N q : Nat} (hN : 0 < N) : ∀ m, m < N → m ∈ Jn N q N := by
  intro m hm
  unfold Jn
  rw [List.mem_map]
  -- j with (j + q) % N = m
  refine ⟨(m + (N - q % N)) % N, ?_, ?_⟩
  · rw [List.mem_range]; exact Nat.mod_lt _ hN
  · unfold mAt
    have hq := Nat.mod_lt q hN
    have e : (m + (N - q % N)) % N = if q % N ≤ m then m - q % N else m + (N - q % N) := by
      by_cases h : q % N ≤ m
      · rw [if_pos h, show m + (N - q % N) = (m - q % N) + N by omega, Nat.add_mod_right, Nat.mod_eq_of_lt (by omega)]
      · rw [if_neg h, Nat.mod_eq_of_lt (by omega)]
    rw [e, ← Nat.add_mod_mod]
    by_cases h : q % N ≤ m
    · rw [if_pos h, Nat.sub_add_cancel h, Nat.mod_eq_of_lt hm]
    · rw [if_neg h, show m + (N - q % N) + q % N = m + N by omega, Nat.add_mod_right, Nat.mod_eq_of_lt hm]
theorem allJ_part {N q i : Nat} (h : i + 1 < N) : allJ N (Jn N q (i + 1)) = false := by
  rw [Bool.eq_false_iff]
  intro hh
  have := allJ_iff.1 hh (mAt N q (i + 1)) (mAt_lt q (i + 1) (by omega))
  exact Jn_new h this
theorem allJ_full {N q : Nat} (hN : 0 < N) : allJ N (Jn N q N) = true := allJ_iff.2 (Jn_all hN)
def bitsS (a c : Int) (B : ByteArray) (st N q i : Nat) : List S82 := if i = N then [] else bitsL a c B st N (Jn N q i)
theorem one_body {B : ByteArray} {st : Nat} (h : Cut B st 1) : bd B st 0 = B := by
  have h1 := pre_succ h (show 0 < 1 by omega)
  have h2 := pre_all h
  rw [h2, pre_zero] at h1
  refine bl_inj ?_
  have := congrArg bytesOf h1
  rw [bl_app, bl_empty, List.nil_append] at this
  exact this
theorem join_step {a b c : Int} {B : ByteArray} {st N : Nat} (h : Cut B st N) (ha : 1 ≤ a ∧ a ≤ 3) (hb : 1 ≤ b ∧ b ≤ 3) (hc : 0 ≤ c ∧ c ≤ 3) (q i : Nat) (hi : i < N) :
    Ev (fun k => impl_JoinBits.f k (bitsS a c B st N q i) (pt a b c B st (mAt N q i)).f0 (pt a b c B st (mAt N q i)).f1 (pt a b c B st (mAt N q i)).f2 (pt a b c B st (mAt N q i)).f3 (pt a b c B st (mAt N q i)).f4 (pt a b c B st (mAt N q i)).f5 5)
      (if i + 1 = N then (([] : List S82), a, b, c, 0, false, B, true) else (bitsS a c B st N q (i + 1), 0, 0, 0, 0, false, (⟨#[]⟩ : ByteArray), false)) := by
  have hN := cut_N h
  have e0 : bitsS a c B st N q i = bitsL a c B st N (Jn N q i) := by unfold bitsS; rw [if_neg (by omega)]
  rw [e0]
  rcases Nat.lt_or_ge N 2 with h1 | h2
  · obtain rfl : N = 1 := by have := h.1; omega
    obtain rfl : i = 0 := by omega
    rw [if_pos rfl]
    have e1 : bitsL a c B st 1 (Jn 1 q 0) = [] := rfl
    have e2 : mAt 1 q 0 = 0 := by unfold mAt; omega
    rw [e1, e2]
    have hl := cut_last h (show 0 + 1 = 1 from rfl)
    have e3 : pt a b c B st 0 = ⟨a, b, c, 0, false, B⟩ := by
      unfold pt
      rw [one_body h, decide_eq_false (by omega), Nat.mul_zero]
      rfl
    have hd := part_ok h ha hb hc (show 0 < 1 by omega)
    rw [one_body h, decide_eq_false (by omega), Nat.mul_zero] at hd
    rw [e3]
    unfold impl_JoinBits.f
    refine Ev.bind (copyBits_ok [] (by simp) (by simp)) ?_
    simp only [impl_dgB]
    rw [show dgB a b c 0 false B = true from hd]
    simp only [Option.bind_some, if_true, within_eq, show rng 5 0 999999990 = true from rfl, Bool.not_true]
    refine Ev.step (fun k => rfl) ?_
    simp only [impl_JoinBits.j0, Bool.false_eq_true, if_false, if_true, Bool.not_false]
    refine Ev.step (fun k => rfl) ?_
    simp only [impl_JoinBits.j1, if_true]
    exact Ev.now _
  · have hj := join_ok h h2 ha hb hc (Jn N q i) (by rw [Jn_len]; omega) (mAt N q i) (mAt_lt q i (by omega))
    rw [if_neg (Jn_new hi), ← Jn_succ] at hj
    by_cases hl : i + 1 = N
    · rw [if_pos hl]
      rw [hl, if_pos (allJ_full (by omega))] at hj
      exact hj
    · rw [if_neg hl]
      rw [allJ_part (by omega), if_neg (by simp)] at hj
      have e1 : bitsS a c B st N q (i + 1) = [bitsOf a c B st N (Jn N q (i + 1))] := by
        unfold bitsS bitsL
        rw [if_neg hl, if_neg (by intro hh; have := congrArg List.length hh; rw [Jn_len] at this; simp at this)]
      rw [e1]
      exact hj
theorem join_twice {a b c : Int} {B : ByteArray} {st N : Nat} (h : Cut B st N) (ha : 1 ≤ a ∧ a ≤ 3) (hb : 1 ≤ b ∧ b ≤ 3) (hc : 0 ≤ c ∧ c ≤ 3) (q i : Nat) (hi : i + 1 < N) :
    Ev (fun k => impl_JoinBits.f k (bitsS a c B st N q (i + 1)) (pt a b c B st (mAt N q i)).f0 (pt a b c B st (mAt N q i)).f1 (pt a b c B st (mAt N q i)).f2 (pt a b c B st (mAt N q i)).f3 (pt a b c B st (mAt N q i)).f4 (pt a b c B st (mAt N q i)).f5 5)
      (bitsS a c B st N q (i + 1), 0, 0, 0, 0, false, (⟨#[]⟩ : ByteArray), false) := by
  have hN := cut_N h
  have e0 : bitsS a c B st N q (i + 1) = bitsL a c B st N (Jn N q (i + 1)) := by unfold bitsS; rw [if_neg (by omega)]
  have e1 : bitsL a c B st N (Jn N q (i + 1)) = [bitsOf a c B st N (Jn N q (i + 1))] := by
    unfold bitsL
    rw [if_neg (by intro hh; have := congrArg List.length hh; rw [Jn_len] at this; simp at this)]
  rw [e0]
  have hj := join_ok h (by omega) ha hb hc (Jn N q (i + 1)) (by rw [Jn_len]; omega) (mAt N q i) (mAt_lt q i (by omega))
  rw [if_pos (show mAt N q i ∈ Jn N q (i + 1) by rw [Jn_succ]; simp), allJ_part (by omega), if_neg (by simp)] at hj
  rw [← e1] at hj
  exact hj
theorem rdD_at {l : List S62} {j : Nat} (h : j < l.length) : rd_T62 l (j : Int) = l[j] := by unfold rd_T62; exact getD_at _ h
theorem iq_mod (i q N : Nat) (hi : i < 100) (hq : q < 10000) (hN : 0 < N) : Int.tmod (wrap64 ((i : Int) + (q : Int))) (N : Int) = ((mAt N q i : Nat) : Int) := by
  rw [w64 (by omega) (by omega), Int.tmod_eq_emod_of_nonneg (by omega)]
  unfold mAt
  rw [Int.natCast_emod, Int.natCast_add]
theorem i_next (i : Nat) (hi : i < 100) : wrap64 ((i : Int) + 1) = ((i + 1 : Nat) : Int) := by rw [w64 (by omega) (by omega)]; omega
theorem parts_loop {a b c : Int} {B : ByteArray} {st N : Nat} (h : Cut B st N) (ha : 1 ≤ a ∧ a ≤ 3) (hb : 1 ≤ b ∧ b ≤ 3) (hc : 0 ≤ c ∧ c ≤ 3) (p : List Int) (hp : p.length = 12) (q : Nat) (hq : rd p 2 = (q : Int)) (hq2 : q < 10000) (dAll : dgB a b c 0 false B = true) :
    ∀ (d i : Nat), N - i = d → i ≤ N → Ev (fun k => laws_FnParts.l0 k p ((List.range N).map (pt a b c B st)) ((List.range N).map (pt a b c B st)) (bitsS a c B st N q i) (i : Int) a b c 0 false B) true := by
  have hN := cut_N h
  have hL : ((List.range N).map (pt a b c B st)).length = N := by rw [List.length_map, List.length_range]
  have hrd : ∀ m : Nat, m < N → rd_T62 ((List.range N).map (pt a b c B st)) (m : Int) = pt a b c B st m := by
    intro m hm
    rw [rdD_at (by rw [hL]; exact hm), List.getElem_map, List.getElem_range]
  intro d
  induction d with
  | zero =>
    intro i hd hi
    obtain rfl : i = N := by omega
    refine Ev.step (fun k => rfl) ?_
    simp only [laws_FnParts.l0, hL, if_neg (show ¬ (i : Int) < (i : Int) by omega)]
    have e : bitsS a c B st i q i = [] := by unfold bitsS; rw [if_pos rfl]
    rw [e]
    exact Ev.now _
  | succ d ih =>
    intro i hd hi
    have hiN : i < N := by omega
    have hm := mAt_lt q i (show 0 < N by omega)
    have e1 : (i : Int) < (N : Int) := by omega
    have e2 : (0 : Int) ≤ (i : Int) := by omega
    have e3 : 2 < (p.length : Int) := by omega
    have e4 : ¬ (N : Int) = 0 := by omega
    have e5 : (0 : Int) ≤ ((mAt N q i : Nat) : Int) := by omega
    have e6 : ((mAt N q i : Nat) : Int) < (N : Int) := by omega
    have IH := ih (i + 1) (by omega) (by omega)
    have JS := join_step h ha hb hc q i hiN
    have hd : impl_DgramOk.f (pt a b c B st i).f0 (pt a b c B st i).f1 (pt a b c B st i).f2 (pt a b c B st i).f3 (pt a b c B st i).f4 (pt a b c B st i).f5 = some true := by rw [impl_dgB]; exact congrArg some (part_ok h ha hb hc hiN)
    have hri := hrd i hiN
    have hrm := hrd _ hm
    have JT : i + 1 < N → _ := fun hh => join_twice h ha hb hc q i hh
    have hcase : i + 1 = N ∨ (i + 1 ≠ N ∧ i + 1 < N) := by omega
    have hw := iq_mod i q N (by omega) hq2 (by omega)
    have hw2 := i_next i (by omega)
    refine Ev.step (fun k => rfl) ?_
    simp only [laws_FnParts.l0, hL, if_pos e1, if_pos e2, hri]
    rw [hd]
    simp only [Option.bind_some, if_true, beq_self_eq_true, Bool.not_true, Bool.or_self]
    refine Ev.step (fun k => rfl) ?_
    simp only [laws_FnParts.j2, Bool.false_eq_true, if_false, if_pos e3, hL, if_neg e4, hq, hw, if_pos e5, if_pos e6, hrm]
    refine Ev.bind JS ?_
    rcases hcase with hl | ⟨hl, hl2⟩
    · have e7 : (((i + 1 : Nat) : Int) == (N : Int)) = true := by rw [hl]; exact beq_self_eq_true _
      simp only [if_pos hl, hw2, e7, bne_self_eq_false, Bool.false_eq_true, if_false, if_true, beq_self_eq_true, Bool.not_true, Bool.or_self]
      refine Ev.step (fun k => rfl) ?_
      simp only [laws_FnParts.j3, Bool.false_eq_true, if_false, if_true, hw2]
      rw [show bitsS a c B st N q (i + 1) = [] by unfold bitsS; rw [if_pos hl]] at IH
      exact IH
    · have e7 : (((i + 1 : Nat) : Int) == (N : Int)) = false := by rw [beq_eq_false_iff_ne]; intro e; exact hl (Int.ofNat.inj e)
      simp only [if_neg hl, hw2, e7, bne_self_eq_false, Bool.false_eq_true, if_false]
      refine Ev.step (fun k => rfl) ?_
      simp only [laws_FnParts.j3, Bool.false_eq_true, if_false, if_pos e3, hL, if_neg e4, hq, hw, if_pos e5, if_pos e6, hrm]
      refine Ev.bind (JT hl2) ?_
      simp only [Bool.false_eq_true, if_false, if_true, hw2]
      exact IH
theorem FnParts : StFnParts.Pure := by
  intro l
  intros
  by_cases hbig : (l.length : Int) > 1048576
  · exact ⟨0, by unfold laws_FnParts.f; rw [big_eq]; simp [hbig]⟩
  · have hbl : l.length ≤ 1048576 := by omega
    obtain ⟨h, hn⟩ := new_ok l
    obtain ⟨⟨a, b, c, x4, x5, B, xi, xh⟩, he, ha, hb, hc, h4, h5, hs⟩ := tDgR h hbl (cur_zero l)
    simp only at ha hb hc h4 h5 hs
    subst h4 h5
    have hdraw : Ev (fun k => spec_DrawRightDgram.f k l) (a, b, c, 0, false, B) := by
      unfold spec_DrawRightDgram.f
      exact Ev.bind hn (Ev.bind he (Ev.now _))
    obtain ⟨p, hp, hp2, hpe⟩ := places_ok hbl
    have hp0 := rd_range hp2 (show (0 : Int) ≤ 0 by omega) (by omega)
    have hp1 := rd_range hp2 (show (0 : Int) ≤ 1 by omega) (by omega)
    have hp2' := rd_range hp2 (show (0 : Int) ≤ 2 by omega) (by omega)
    obtain ⟨q, hq⟩ : ∃ q : Nat, rd p 2 = (q : Int) := ⟨(rd p 2).toNat, by omega⟩
    have hdg : dgB a b c 0 false B = true := by
      unfold dgB
      rw [rng_iff.2 (show 1 ≤ a ∧ a ≤ 99 by omega), rng_iff.2 (show 1 ≤ b ∧ b ≤ 99 by omega), rng_iff.2 (show 0 ≤ c ∧ c ≤ 65535 by omega), w64 (x := 160 - 0) (by omega) (by omega), rng_iff.2 (show (1 : Int) ≤ (B.size : Int) ∧ (B.size : Int) ≤ 160 - 0 by omega), rng_iff.2 (show (0 : Int) ≤ 0 ∧ (0 : Int) ≤ 160 by omega)]
      simp
    have t1 : Int.tmod (rd p 0) 3 = rd p 0 % 3 := Int.tmod_eq_emod_of_nonneg hp0.1
    have t2 : Int.tmod (rd p 1) 8 = rd p 1 % 8 := Int.tmod_eq_emod_of_nonneg hp1.1
    obtain ⟨st, hst, hst2⟩ : ∃ st : Nat, (st = 8 ∨ st = 16 ∨ st = 24) ∧ 8 + 8 * (rd p 0 % 3) = (st : Int) := ⟨(8 + 8 * (rd p 0 % 3)).toNat, by omega, by omega⟩
    obtain ⟨N, hcut⟩ := cut_ex hst hs.1 hs.2
    have hnum : wrap64 ((wrap64 (8 + (wrap64 (8 * (Int.tmod (rd p 0) 3))))) + (Int.tmod (rd p 1) 8)) = (st : Int) + rd p 1 % 8 := by
      rw [t1, t2, w64 (x := 8 * (rd p 0 % 3)) (by omega) (by omega), w64 (x := 8 + 8 * (rd p 0 % 3)) (by omega) (by omega), hst2, w64 (by omega) (by omega)]
    have hcb := cut_both' hcut hdg ((st : Int) + rd p 1 % 8) (by omega) (by omega)
    have hL : ((List.range N).map (pt a b c B st)).length = N := by rw [List.length_map, List.length_range]
    refine Ev.ex ?_ (r := true)
    unfold laws_FnParts.f
    rw [big_eq]
    simp only [Option.bind_some, hbig, decide_false, Bool.false_eq_true, if_false]
    refine Ev.bind hdraw ?_
    refine Ev.bind hpe ?_
    simp only [if_pos (show 0 < (p.length : Int) by omega), if_pos (show 1 < (p.length : Int) by omega), hnum]
    refine Ev.bind (Ev.from_ 31 (fun k hk => (hcb k (by omega)).2)) ?_
    refine Ev.bind (Ev.from_ 31 (fun k hk => (hcb k (by omega)).1)) ?_
    simp only [if_true, bne_self_eq_false]
    refine Ev.step (fun k => rfl) ?_
    simp only [laws_FnParts.j0, Bool.false_eq_true, if_false]
    have hloop := parts_loop hcut ha hb hc p hp q hq (by omega) hdg N 0 (by omega) (by omega)
    have e : bitsS a c B st N q 0 = [] := by
      unfold bitsS
      split
      · rfl
      · rfl
    rw [e] at hloop
    exact hloop

end Go.Proofs.Ytmknnoeggkgkgaa.Pure
