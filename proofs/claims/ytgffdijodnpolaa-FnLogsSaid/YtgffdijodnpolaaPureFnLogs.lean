/- The pure statement of the law 'FnLogs', proved: over numbers, lists and texts alone. No condition. -/
import Derived.Test.YtgffdijodnpolaaStFnLogs
import Derived.Laws.BitsLemmas
namespace Go.Proofs.Ytgffdijodnpolaa.Pure
open Go.RowKit Go.Proofs.Ytgffdijodnpolaa.QFnLogs Go.Proofs.YtgffdijodnpolaaW.PrintWords Go.Proofs.YtgffdijodnpolaaW.PrintLast Go.Proofs.YtgffdijodnpolaaW.PrintMore Go.Proofs.Ytgffdijodnpolaa.StFnLogs Go.Proofs.Ytgffdijodnpolaa.Opens
set_option linter.unusedVariables false
set_option linter.unusedSimpArgs false

/-! ### base -/
theorem w64 {x : Int} (h0 : -9223372036854775808 ≤ x) (h1 : x ≤ 9223372036854775807) : wrap64 x = x := by unfold wrap64; omega
theorem w64_range (x : Int) : -9223372036854775808 ≤ wrap64 x ∧ wrap64 x ≤ 9223372036854775807 := by unfold wrap64; omega
theorem ip {α : Type} {c : Prop} [Decidable c] {a b : α} (h : c) : (if c then a else b) = a := if_pos h
theorem ineg {α : Type} {c : Prop} [Decidable c] {a b : α} (h : ¬ c) : (if c then a else b) = b := if_neg h
theorem wf_range {n : Int} (h : (Lit.int .i64 n).wf = true) : -9223372036854775808 ≤ n ∧ n ≤ 9223372036854775807 := by
  simp only [Lit.wf, IntKind.min, IntKind.max, IntKind.signed, IntKind.bits, Bool.and_eq_true, decide_eq_true_eq, if_true] at h
  omega
theorem wf_u8 {n : Int} (h : (Lit.int .u8 n).wf = true) : 0 ≤ n ∧ n ≤ 255 := by
  simp [Lit.wf, IntKind.min, IntKind.max, IntKind.signed, IntKind.bits] at h
  omega
theorem and_low (x : Int) (i : Nat) (hi : i ≤ 62) : Go.bits .and .i64 x (2 ^ i - 1) = x % 2 ^ i := by
  have hpos : 0 < 2 ^ i := Nat.two_pow_pos i
  have hc : ((2 : Int) ^ i - 1) = ((2 ^ i - 1 : Nat) : Int) := by rw [Int.natCast_sub hpos]; simp
  have h62 : 2 ^ i ≤ 2 ^ 62 := Nat.pow_le_pow_right (by decide) hi
  have hlt : 2 ^ i - 1 < 2 ^ 64 := by omega
  have hd : (2 ^ i : Nat) ∣ 2 ^ 64 := Nat.pow_dvd_pow 2 (by omega)
  rw [hc]
  simp only [Go.bits, BitVec.ofInt_natCast, BitVec.toNat_and, BitVec.toNat_ofNat, BitVec.toNat_ofInt]
  simp only [show IntKind.i64.bits = 64 from rfl]
  rw [Nat.mod_eq_of_lt hlt, Nat.and_two_pow_sub_one_eq_mod]
  have h1 : (((x % ((2 ^ 64 : Nat) : Int)).toNat % 2 ^ i : Nat) : Int) = x % 2 ^ i := by
    rw [Int.natCast_emod, Int.toNat_of_nonneg (Int.emod_nonneg _ (by decide))]
    rw [Int.natCast_pow]
    exact Int.emod_emod_of_dvd _ (by
      have : (((2 ^ i : Nat) : Int)) ∣ ((2 ^ 64 : Nat) : Int) := Int.natCast_dvd_natCast.2 hd
      simpa using this)
  rw [h1]
  have h2 : 0 ≤ x % 2 ^ i := Int.emod_nonneg _ (by
    have : (0 : Int) < 2 ^ i := by exact_mod_cast hpos
    omega)
  have h3 : x % 2 ^ i < 2 ^ i := Int.emod_lt_of_pos _ (by exact_mod_cast hpos)
  have h4 : (2 : Int) ^ i ≤ 2 ^ 62 := by exact_mod_cast h62
  rw [IntKind.wrap_i64]
  omega
theorem and255 (x : Int) : Go.bits .and .i64 x 255 = x % 256 := and_low x 8 (by omega)
theorem and65535 (x : Int) : Go.bits .and .i64 x 65535 = x % 65536 := and_low x 16 (by omega)
theorem and30 (x : Int) : Go.bits .and .i64 x 1073741823 = x % 1073741824 := and_low x 30 (by omega)
theorem and1 (x : Int) : Go.bits .and .i64 x 1 = x % 2 := and_low x 1 (by omega)
/-- A law's last step: both are one. -/
theorem same_end {v : Bool} : (if (v != v) = true then some false else some true : Option Bool) = some true := by simp
theorem Ev.ex {α : Type} {g : Nat → Option α} {r : α} (h : Ev g r) : ∃ k, g k = some r := h.rounds
theorem Ev.from_ {α : Type} {g : Nat → Option α} {r : α} (K : Nat) (h : ∀ k, K ≤ k → g k = some r) : Ev g r := ⟨K, h⟩
theorem Ev.both {α β : Type} {g : Nat → Option α} {f : Nat → Option β} {r : α} {q : β} (h : Ev g r) (h' : Ev f q) : ∃ K, ∀ k, K ≤ k → g k = some r ∧ f k = some q := by
  obtain ⟨K, h⟩ := h
  obtain ⟨K', h'⟩ := h'
  exact ⟨K + K', fun k hk => ⟨h k (by omega), h' k (by omega)⟩⟩

/-! ### draw -/
def Cur (b : List Int) (i : Int) : Prop := 0 ≤ i ∧ i ≤ (b.length : Int)
theorem new_loop (b : List Int) : ∀ (d : Nat) (i x : Int), 0 ≤ i → i ≤ 4000 → 4000 - i ≤ d → ∃ h, ∀ k, d < k → spec_l01New.l0 k b x i = some (b, 0, h) := by
  intro d
  induction d with
  | zero =>
    intro i x h0 h1 hd
    refine ⟨x, fun k hk => ?_⟩
    obtain ⟨k, rfl⟩ : ∃ m, k = m + 1 := ⟨k - 1, by omega⟩
    simp only [spec_l01New.l0]
    by_cases hl : i < (b.length : Int)
    · rw [if_pos hl, if_neg (by omega)]
    · rw [if_neg hl]
  | succ d ih =>
    intro i x h0 h1 hd
    by_cases hl : i < (b.length : Int) ∧ i < 4000
    · obtain ⟨h, ih⟩ := ih (i + 1) (Go.bits .and .i64 (wrap64 ((wrap64 ((wrap64 (x * 131)) + (wrap64 (rd b i)))) + 7)) 1073741823) (by omega) (by omega) (by omega)
      refine ⟨h, fun k hk => ?_⟩
      obtain ⟨k, rfl⟩ : ∃ m, k = m + 1 := ⟨k - 1, by omega⟩
      simp only [spec_l01New.l0]
      rw [if_pos hl.1, if_pos hl.2, if_pos h0, w64 (x := i + 1) (by omega) (by omega)]
      exact ih k (by omega)
    · refine ⟨x, fun k hk => ?_⟩
      obtain ⟨k, rfl⟩ : ∃ m, k = m + 1 := ⟨k - 1, by omega⟩
      simp only [spec_l01New.l0]
      by_cases hl2 : i < (b.length : Int)
      · rw [if_pos hl2, if_neg (by omega)]
      · rw [if_neg hl2]
theorem new_ok (b : List Int) : ∃ h, Ev (fun k => spec_l01New.f k b) (b, 0, h) := by
  obtain ⟨h, hk⟩ := new_loop b 4000 0 (wrap64 (37401 + (b.length : Int))) (by omega) (by omega) (by omega)
  exact ⟨h, 4001, fun k h1 => hk k (by omega)⟩
theorem cur_zero (b : List Int) : Cur b 0 := ⟨by omega, by omega⟩
theorem byte_ok {b : List Int} {i : Int} (h : Int) (hb : b.length ≤ 1048576) (hi : Cur b i) : ∃ v i' h', spec_l01Byte.f b i h = some (v, i', h') ∧ (0 ≤ v ∧ v ≤ 255) ∧ Cur b i' := by
  obtain ⟨h0, h1⟩ := hi
  unfold spec_l01Byte.f
  by_cases hl : i < (b.length : Int)
  · rw [if_pos hl, if_pos h0]
    refine ⟨_, _, _, rfl, ?_, ?_⟩
    · rw [and255]; omega
    · rw [w64 (by omega) (by omega)]; exact ⟨by omega, by omega⟩
  · rw [if_neg hl]
    refine ⟨_, _, _, rfl, ?_, h0, h1⟩
    rw [and255]; omega
theorem tmod_below {x n : Int} (hx : 0 ≤ x) (hn : 0 < n) : 0 ≤ Int.tmod x n ∧ Int.tmod x n < n := by
  rw [Int.tmod_eq_emod_of_nonneg hx]
  exact ⟨Int.emod_nonneg _ (by omega), Int.emod_lt_of_pos _ hn⟩
theorem below_ok {b : List Int} {i : Int} (h n : Int) (hb : b.length ≤ 1048576) (hi : Cur b i) : ∃ v i' h', spec_l01Below.f b i h n = some (v, i', h') ∧ (0 ≤ v ∧ (0 < n → v < n) ∧ (n ≤ 0 → v = 0)) ∧ Cur b i' := by
  unfold spec_l01Below.f
  by_cases hn : n ≤ 0
  · rw [if_pos hn]
    exact ⟨0, i, h, rfl, ⟨by omega, fun h => by omega, fun _ => rfl⟩, hi⟩
  · rw [if_neg hn]
    by_cases hs : n ≤ 256
    · rw [if_pos hs]
      obtain ⟨v, i', h', e, hv, hi'⟩ := byte_ok h hb hi
      rw [e]
      simp only [Option.bind_some]
      rw [if_neg (by omega)]
      have := tmod_below hv.1 (show 0 < n by omega)
      exact ⟨_, _, _, rfl, ⟨this.1, fun _ => this.2, fun h => absurd h hn⟩, hi'⟩
    · rw [if_neg hs]
      obtain ⟨v1, i1, h1, e1, hv1, hi1⟩ := byte_ok h hb hi
      rw [e1]
      simp only [Option.bind_some]
      obtain ⟨v2, i2, h2, e2, hv2, hi2⟩ := byte_ok h1 hb hi1
      rw [e2]
      simp only [Option.bind_some]
      obtain ⟨v3, i3, h3, e3, hv3, hi3⟩ := byte_ok h2 hb hi2
      rw [e3]
      simp only [Option.bind_some]
      obtain ⟨v4, i4, h4, e4, hv4, hi4⟩ := byte_ok h3 hb hi3
      rw [e4]
      simp only [Option.bind_some]
      rw [if_neg (by omega)]
      rw [w64 (x := v1 * 16777216) (by omega) (by omega), w64 (x := v2 * 65536) (by omega) (by omega), w64 (x := v3 * 256) (by omega) (by omega), w64 (x := v1 * 16777216 + v2 * 65536) (by omega) (by omega),
        w64 (x := v1 * 16777216 + v2 * 65536 + v3 * 256) (by omega) (by omega), w64 (x := v1 * 16777216 + v2 * 65536 + v3 * 256 + v4) (by omega) (by omega)]
      have := tmod_below (show 0 ≤ v1 * 16777216 + v2 * 65536 + v3 * 256 + v4 by omega) (show 0 < n by omega)
      exact ⟨_, _, _, rfl, ⟨this.1, fun _ => this.2, fun h => absurd h hn⟩, hi4⟩
theorem big_eq (b : List Int) : laws_big.f b = some (decide ((b.length : Int) > 1048576)) := rfl

/-! ### tot -/
/-- A row of calls that comes to an answer of a kind. -/
def Tot {α : Type} (g : Nat → Option α) (P : α → Prop) : Prop := ∃ r, Ev g r ∧ P r
theorem Tot.bind {α β : Type} {g : Nat → Option α} {f : Nat → α → Option β} {P : α → Prop} {Q : β → Prop} (h : Tot g P) (h2 : ∀ r, P r → Tot (fun k => f k r) Q) : Tot (fun k => (g k).bind (f k)) Q := by
  obtain ⟨r, e, hr⟩ := h
  obtain ⟨q, e2, hq⟩ := h2 r hr
  exact ⟨q, Ev.bind e e2, hq⟩
theorem Tot.ret {α : Type} {P : α → Prop} (r : α) (h : P r) : Tot (fun _ => some r) P := ⟨r, Ev.now _, h⟩
theorem Tot.step {α : Type} {F f : Nat → Option α} {P : α → Prop} (hs : ∀ k, F (k + 1) = f k) (h : Tot f P) : Tot F P := by
  obtain ⟨r, e, hr⟩ := h
  exact ⟨r, Ev.step hs e, hr⟩
theorem Tot.mono {α : Type} {g : Nat → Option α} {P Q : α → Prop} (h : Tot g P) (hpq : ∀ r, P r → Q r) : Tot g Q := by
  obtain ⟨r, e, hr⟩ := h
  exact ⟨r, e, hpq r hr⟩
theorem Tot.of_some {α : Type} {o : Option α} {P : α → Prop} (r : α) (e : o = some r) (h : P r) : Tot (fun _ => o) P := ⟨r, ⟨0, fun _ _ => e⟩, h⟩
theorem tByte {b : List Int} {i : Int} (h : Int) (hb : b.length ≤ 1048576) (hi : Cur b i) : Tot (fun _ => spec_l01Byte.f b i h) (fun r => (0 ≤ r.1 ∧ r.1 ≤ 255) ∧ Cur b r.2.1) := by
  obtain ⟨v, i', h', e, hv, hi'⟩ := byte_ok h hb hi
  exact Tot.of_some _ e ⟨hv, hi'⟩
theorem tBelow {b : List Int} {i : Int} (h n : Int) (hb : b.length ≤ 1048576) (hi : Cur b i) : Tot (fun _ => spec_l01Below.f b i h n) (fun r => (0 ≤ r.1 ∧ (0 < n → r.1 < n) ∧ (n ≤ 0 → r.1 = 0)) ∧ Cur b r.2.1) := by
  obtain ⟨v, i', h', e, hv, hi'⟩ := below_ok h n hb hi
  exact Tot.of_some _ e ⟨hv, hi'⟩
theorem rd_mem {l : List Int} {i : Int} (h0 : 0 ≤ i) (h1 : i < (l.length : Int)) : rd l i ∈ l := by
  unfold rd
  rw [List.getD_eq_getElem?_getD, List.getElem?_eq_getElem (by omega), Option.getD_some]
  exact List.getElem_mem _
theorem tPick {b : List Int} {i : Int} (h : Int) (l : List Int) (hb : b.length ≤ 1048576) (hi : Cur b i) (hl : 0 < l.length) : Tot (fun _ => spec_l01PickInt.f b i h l) (fun r => r.1 ∈ l ∧ Cur b r.2.1) := by
  obtain ⟨v, i', h', e, hv, hi'⟩ := below_ok h (l.length : Int) hb hi
  have h1 := hv.2.1 (by omega)
  refine Tot.of_some (rd l v, i', h') ?_ ⟨rd_mem hv.1 h1, hi'⟩
  unfold spec_l01PickInt.f
  rw [e]
  simp only [Option.bind_some]
  rw [if_pos hv.1, if_pos h1]
theorem tOnce {b : List Int} {i : Int} (h n : Int) (hb : b.length ≤ 1048576) (hi : Cur b i) : Tot (fun _ => spec_l01Once.f b i h n) (fun r => Cur b r.2.1) := by
  obtain ⟨v, i', h', e, _, hi'⟩ := below_ok h n hb hi
  refine Tot.of_some (v == 0, i', h') ?_ hi'
  unfold spec_l01Once.f
  rw [e]
  rfl
theorem tPickT {b : List Int} {i : Int} (h : Int) (l : List ByteArray) (hb : b.length ≤ 1048576) (hi : Cur b i) (hl : 0 < l.length) : Tot (fun _ => spec_l01Pick.f b i h l) (fun r => r.1 ∈ l ∧ Cur b r.2.1) := by
  obtain ⟨v, i', h', e, hv, hi'⟩ := below_ok h (l.length : Int) hb hi
  have h1 := hv.2.1 (by omega)
  have hm : rdOf ByteArray.empty l v ∈ l := by
    unfold rdOf
    rw [List.getD_eq_getElem?_getD, List.getElem?_eq_getElem (by have := hv.1; omega), Option.getD_some]
    exact List.getElem_mem _
  refine Tot.of_some (rdOf ByteArray.empty l v, i', h') ?_ ⟨hm, hi'⟩
  unfold spec_l01Pick.f
  rw [e]
  simp only [Option.bind_some]
  rw [if_pos hv.1, if_pos h1]

/-! ### text -/

/-! ### all -/
def allF (p : Nat → Bool) (j : Nat) : Nat → Bool
  | 0 => true
  | d + 1 => p j && allF p (j + 1) d
/-- A loop that asks the same of each place, one after the other, and then something more. -/
theorem all_ev {F : Nat → Nat → Option Bool} {n : Nat} {p : Nat → Bool} {R : Bool}
    (hs : ∀ j, j < n → (p j = true → ∀ r, Ev (fun k => F k (j + 1)) r → Ev (fun k => F k j) r) ∧ (p j = false → Ev (fun k => F k j) false))
    (he : Ev (fun k => F k n) R) : ∀ d j, n - j = d → j ≤ n → Ev (fun k => F k j) (allF p j d && R) := by
  intro d
  induction d with
  | zero =>
    intro j hd hj
    obtain rfl : j = n := by omega
    simpa [allF] using he
  | succ d ih =>
    intro j hd hj
    have h := hs j (by omega)
    cases hp : p j with
    | true =>
      have := ih (j + 1) (by omega) (by omega)
      simp only [allF, hp, Bool.true_and]
      exact h.1 hp _ this
    | false =>
      simp only [allF, hp, Bool.false_and]
      exact h.2 hp
theorem Ev.here {α : Type} {F f : Nat → Option α} {r : α} (hs : ∀ k, F (k + 1) = f k) (h : ∀ k, f k = some r) : Ev F r := Ev.step hs ⟨0, fun k _ => h k⟩

/-! ### in -/
def rng (a b c : Int) : Bool := decide (b ≤ a) && decide (a ≤ c)
theorem rng_iff {a b c : Int} : rng a b c = true ↔ b ≤ a ∧ a ≤ c := by simp [rng]
theorem rng_false {a b c : Int} : rng a b c = false ↔ ¬ (b ≤ a ∧ a ≤ c) := by rw [← rng_iff]; simp
theorem in_eq (a b c : Int) : spec_l01In.f a b c = some (rng a b c) := by
  unfold spec_l01In.f rng
  by_cases h : b ≤ a
  · rw [if_pos h]; simp [h]
  · rw [if_neg h]; simp [h]
theorem within_eq (a b c : Int) : impl_within.f a b c = some (rng a b c) := by
  unfold impl_within.f rng
  by_cases h : b ≤ a
  · rw [if_pos h]; simp [h]
  · rw [if_neg h]; simp [h]

/-! ### loops -/
/-- A loop upward whose rounds do nothing but go on. -/
theorem up_loop {β : Type} {F : Nat → Int → Option β} {n : Nat} {r : β} (hs : ∀ k (j : Nat), j < n → F (k + 1) (j : Int) = F k ((j + 1 : Nat) : Int)) (he : ∀ k, F (k + 1) (n : Int) = some r) :
    ∀ (d j : Nat), n - j = d → j ≤ n → ∀ k, d < k → F k (j : Int) = some r := by
  intro d
  induction d with
  | zero =>
    intro j hd hj k hk
    obtain ⟨k, rfl⟩ : ∃ m, k = m + 1 := ⟨k - 1, by omega⟩
    obtain rfl : j = n := by omega
    exact he k
  | succ d ih =>
    intro j hd hj k hk
    obtain ⟨k, rfl⟩ : ∃ m, k = m + 1 := ⟨k - 1, by omega⟩
    rw [hs k j (by omega)]
    exact ih (j + 1) (by omega) (by omega) k (by omega)
/-- A loop that turns each element of a list into one of a list that was made. -/
theorem map_loop {α β : Type} {F : Nat → List β → Int → Option (List β)} {g : α → β} {l : List α}
    (hs : ∀ k (acc : List β) (j : Nat) (hj : j < l.length), acc.length = l.length → F (k + 1) acc (j : Int) = F k (acc.set j (g l[j])) ((j + 1 : Nat) : Int))
    (he : ∀ k (acc : List β), F (k + 1) acc (l.length : Int) = some acc) :
    ∀ (d j : Nat) (acc : List β), l.length - j = d → j ≤ l.length → acc.length = l.length → (∀ i, i < j → acc[i]? = (l[i]?).map g) → ∀ k, d < k → F k acc (j : Int) = some (l.map g) := by
  intro d
  induction d with
  | zero =>
    intro j acc hd hj hl ha k hk
    obtain ⟨k, rfl⟩ : ∃ m, k = m + 1 := ⟨k - 1, by omega⟩
    obtain rfl : j = l.length := by omega
    rw [he]
    congr 1
    apply List.ext_getElem?
    intro i
    rw [List.getElem?_map]
    by_cases hi : i < l.length
    · exact ha i hi
    · rw [List.getElem?_eq_none (by omega), List.getElem?_eq_none (by omega)]; rfl
  | succ d ih =>
    intro j acc hd hj hl ha k hk
    obtain ⟨k, rfl⟩ : ∃ m, k = m + 1 := ⟨k - 1, by omega⟩
    have hjl : j < l.length := by omega
    rw [hs k acc j hjl hl]
    refine ih (j + 1) _ (by omega) (by omega) (by rw [List.length_set]; exact hl) (fun i hi => ?_) k (by omega)
    by_cases hij : i = j
    · subst hij
      rw [List.getElem?_set_self (by omega), List.getElem?_eq_getElem hjl]
      rfl
    · rw [List.getElem?_set_ne (fun h => hij h.symm)]
      exact ha i (by omega)
theorem getD_at {α : Type} {l : List α} {j : Nat} (z : α) (h : j < l.length) : l.getD (j : Int).toNat z = l[j] := by
  simp [List.getD_eq_getElem?_getD, List.getElem?_eq_getElem h]

/-! ### bl -/
theorem bl_inj {s t : ByteArray} (h : bytesOf s = bytesOf t) : s = t := by
  unfold bytesOf at h
  have h2 : s.data.toList = t.data.toList := by
    apply List.ext_getElem?
    intro i
    have h3 := congrArg (fun l => l[i]?) h
    simp only [List.getElem?_map] at h3
    cases h4 : s.data.toList[i]? <;> cases h5 : t.data.toList[i]? <;> rw [h4, h5] at h3 <;> simp at h3 ⊢
    exact UInt8.toNat_inj.1 (by omega)
  exact ByteArray.ext (by rw [← Array.toArray_toList (xs := s.data), h2])
theorem bl_app (s t : ByteArray) : bytesOf (s ++ t) = bytesOf s ++ bytesOf t := by
  unfold bytesOf
  rw [ByteArray.toList_data_append, List.map_append]
theorem bl_ext (s : ByteArray) (a b : Nat) : bytesOf (s.extract a b) = ((bytesOf s).drop a).take (b - a) := by
  unfold bytesOf
  rw [ByteArray.data_extract, Array.toList_extract, ← List.map_drop, ← List.map_take] <;> simp [List.extract_eq_drop_take]
theorem bl_range {s : ByteArray} : ∀ x ∈ bytesOf s, 0 ≤ x ∧ x ≤ 255 := by
  intro x hx
  obtain ⟨b, _, rfl⟩ := List.mem_map.1 hx
  have := b.toNat_lt
  omega
theorem bl_str {l : List Int} (h : ∀ x ∈ l, 0 ≤ x ∧ x ≤ 255) : bytesOf (strOfNums l) = l := by
  unfold bytesOf
  rw [strOfNums_data, List.map_map]
  have : ∀ x ∈ l, ((fun b : UInt8 => (b.toNat : Int)) ∘ fun n : Int => UInt8.ofNat n.toNat) x = x := by
    intro x hx
    have := h x hx
    simp only [Function.comp, UInt8.toNat_ofNat']
    omega
  rw [List.map_congr_left this, List.map_id']
theorem str_bl (s : ByteArray) : strOfNums (bytesOf s) = s := bl_inj (bl_str bl_range)
theorem bl_empty : bytesOf (⟨#[]⟩ : ByteArray) = [] := rfl
theorem bt_bl (s : ByteArray) (i : Int) : bt s i = rd (bytesOf s) i := (rd_bytesOf s i).symm
theorem toList_iff {s t : ByteArray} : s.toList = t.toList ↔ s = t := by
  rw [ByteArray.toList_eq, ByteArray.toList_eq]
  constructor
  · intro h; exact ByteArray.ext (by rw [← Array.toArray_toList (xs := s.data), h])
  · intro h; rw [h]
theorem toList_nil {s : ByteArray} : s.toList = ([] : List UInt8) ↔ bytesOf s = [] := by
  rw [ByteArray.toList_eq]
  unfold bytesOf
  simp

/-! ### conf -/
def pC (l : List Int) (j : Nat) : Bool := rng (rd l (j : Int)) 1 4 && (!decide ((j : Int) > 0) || !decide (rd l ((j : Int) - 1) ≥ rd l (j : Int)))
def riseB (l : List Int) : Bool := allF (pC l) 0 l.length
def confB (l : List Int) : Bool := decide (0 < l.length) && riseB l
theorem allF_all {p : Nat → Bool} : ∀ d j, allF p j d = true → ∀ i, j ≤ i → i < j + d → p i = true := by
  intro d
  induction d with
  | zero => intro j _ i h1 h2; omega
  | succ d ih =>
    intro j h i h1 h2
    unfold allF at h
    rw [Bool.and_eq_true] at h
    by_cases hij : i = j
    · subst hij; exact h.1
    · exact ih (j + 1) h.2 i (by omega) (by omega)
theorem rise_up {l : List Int} (h : riseB l = true) : ∀ i, i < l.length → (i : Int) + 1 ≤ rd l (i : Int) ∧ rd l (i : Int) ≤ 4 := by
  intro i
  induction i with
  | zero =>
    intro hi
    have := allF_all _ _ h 0 (by omega) (by omega)
    unfold pC at this
    simp only [Bool.and_eq_true, rng_iff] at this
    omega
  | succ i ih =>
    intro hi
    have h0 := ih (by omega)
    have := allF_all _ _ h (i + 1) (by omega) (by omega)
    unfold pC at this
    simp only [Bool.and_eq_true, Bool.or_eq_true, Bool.not_eq_true', decide_eq_false_iff_not, rng_iff] at this
    obtain ⟨h1, h2⟩ := this
    have e : ((i + 1 : Nat) : Int) - 1 = (i : Int) := by omega
    rw [e] at h2
    rcases h2 with h2 | h2
    · exact absurd (show ((i + 1 : Nat) : Int) > 0 by omega) h2
    · omega
theorem rise_len {l : List Int} (h : riseB l = true) : l.length ≤ 4 := by
  rcases Nat.lt_or_ge l.length 5 with h5 | h5
  · omega
  · have := rise_up h 4 (by omega)
    omega
theorem conf_len {l : List Int} (h : confB l = true) : 1 ≤ l.length ∧ l.length ≤ 4 := by
  unfold confB at h
  simp only [Bool.and_eq_true, decide_eq_true_eq] at h
  exact ⟨by omega, rise_len h.2⟩
theorem conf_rng {l : List Int} (h : confB l = true) : ∀ x ∈ l, 1 ≤ x ∧ x ≤ 4 := by
  intro x hx
  unfold confB at h
  simp only [Bool.and_eq_true, decide_eq_true_eq] at h
  obtain ⟨i, hi, rfl⟩ := List.mem_iff_getElem.1 hx
  have := rise_up h.2 i hi
  have e : rd l (i : Int) = l[i] := by unfold rd; simp [List.getD_eq_getElem?_getD, List.getElem?_eq_getElem hi]
  rw [e] at this
  omega
theorem spec_rise (l : List Int) (hl : l.length ≤ 2000000) : Ev (fun k => spec_l05Rise.f k l 1 4) (riseB l) := by
  have h := all_ev (F := fun k j => spec_l05Rise.l0 k l 1 4 (j : Int)) (p := pC l) (R := true) (n := l.length) (fun j hj => ?_) ?_ l.length 0 (by omega) (by omega)
  · rw [Bool.and_true] at h
    exact h
  · have es : ∀ k, spec_l05Rise.l0 (k + 1) l 1 4 (j : Int) = if pC l j = true then spec_l05Rise.l0 k l 1 4 ((j + 1 : Nat) : Int) else some false := fun k => by
      simp only [spec_l05Rise.l0]
      rw [if_pos (by omega), if_pos (by omega)]
      simp only [in_eq, Option.bind_some]
      rw [w64 (x := (j : Int) + 1) (by omega) (by omega), w64 (x := (j : Int) - 1) (by omega) (by omega)]
      unfold pC
      have e1 : ((j : Int) + 1) = ((j + 1 : Nat) : Int) := by omega
      rw [e1]
      by_cases h0 : (j : Int) > 0
      · simp only [h0, show (0 : Int) ≤ (j : Int) - 1 by omega, show (j : Int) - 1 < (l.length : Int) by omega, if_true]
        cases h1 : rng (rd l (j : Int)) 1 4 <;> by_cases h3 : rd l ((j : Int) - 1) ≥ rd l (j : Int) <;> simp [h1, h3]
      · simp only [h0, if_false]
        cases h1 : rng (rd l (j : Int)) 1 4 <;> simp [h1]
    refine ⟨fun hp r hr => Ev.step (fun k => by rw [es, if_pos hp]) hr, fun hp => Ev.here (f := fun _ => some false) (fun k => by rw [es, if_neg (by simp [hp])]) (fun _ => rfl)⟩
  · exact Ev.here (f := fun _ => some true) (fun k => by simp only [spec_l05Rise.l0]; rw [if_neg (by omega)]) (fun _ => rfl)
theorem spec_conf (l : List Int) (hl : l.length ≤ 2000000) : Ev (fun k => spec_ConfOk.f k l) (confB l) := by
  unfold spec_ConfOk.f
  simp only [in_eq, Option.bind_some]
  cases hr : rng (l.length : Int) 1 4 with
  | false =>
    simp only [Bool.false_eq_true, if_false]
    have : confB l = false := by
      cases hc : confB l with
      | false => rfl
      | true =>
        have := conf_len hc
        have := rng_false.1 hr
        omega
    rw [this]
    exact Ev.now _
  | true =>
    have hh := rng_iff.1 hr
    have : confB l = riseB l := by unfold confB; simp; omega
    rw [this]
    simp only [if_true]
    refine Ev.bind (spec_rise l hl) ?_
    exact Ev.now _
theorem impl_rise (l : List Int) (hl : l.length ≤ 2000000) : Ev (fun k => impl_nodesOk.f k l) (riseB l) := by
  have h := all_ev (F := fun k j => impl_nodesOk.l0 k l l (l.length : Int) (j : Int)) (p := pC l) (R := true) (n := l.length) (fun j hj => ?_) ?_ l.length 0 (by omega) (by omega)
  · rw [Bool.and_true] at h
    exact h
  · have es : ∀ k, impl_nodesOk.l0 (k + 1) l l (l.length : Int) (j : Int) = if pC l j = true then impl_nodesOk.l0 k l l (l.length : Int) ((j + 1 : Nat) : Int) else some false := fun k => by
      simp only [impl_nodesOk.l0]
      rw [if_pos (by omega), if_pos (by omega), if_pos (by omega)]
      simp only [impl_isNode.f, within_eq, Option.bind_some]
      rw [w64 (x := (j : Int) + 1) (by omega) (by omega), w64 (x := (j : Int) - 1) (by omega) (by omega)]
      unfold pC
      have e1 : ((j : Int) + 1) = ((j + 1 : Nat) : Int) := by omega
      rw [e1]
      by_cases h0 : (j : Int) > 0
      · simp only [h0, show (0 : Int) ≤ (j : Int) - 1 by omega, show (j : Int) - 1 < (l.length : Int) by omega, if_true]
        cases h1 : rng (rd l (j : Int)) 1 4 <;> by_cases h3 : rd l ((j : Int) - 1) ≥ rd l (j : Int) <;> simp [h1, h3]
      · simp only [h0, if_false]
        cases h1 : rng (rd l (j : Int)) 1 4 <;> simp [h1]
    refine ⟨fun hp r hr => Ev.step (fun k => by rw [es, if_pos hp]) hr, fun hp => Ev.here (f := fun _ => some false) (fun k => by rw [es, if_neg (by simp [hp])]) (fun _ => rfl)⟩
  · exact Ev.here (f := fun _ => some true) (fun k => by simp only [impl_nodesOk.l0]; rw [if_neg (by omega)]) (fun _ => rfl)
theorem impl_conf (l : List Int) (hl : l.length ≤ 2000000) : Ev (fun k => impl_ConfOk.f k l) (confB l) := by
  unfold impl_ConfOk.f
  by_cases h : (l.length : Int) > 0
  · have : confB l = riseB l := by unfold confB; simp; omega
    rw [this]
    simp only [if_pos h]
    refine Ev.bind (impl_rise l hl) ?_
    exact Ev.now _
  · have : confB l = false := by unfold confB; simp; omega
    rw [this]
    simp only [if_neg h]
    exact Ev.now _
def confR (s : ByteArray) : List Int × Bool := if confB (bytesOf s) = true then (bytesOf s, true) else ([], false)
theorem wbt (s : ByteArray) (j : Nat) (hj : j < s.size) : wrap64 (bt s (j : Int)) = (bytesOf s)[j]'(by rw [bytesOf_length]; exact hj) := by
  have hl : j < (bytesOf s).length := by rw [bytesOf_length]; exact hj
  have e : bt s (j : Int) = (bytesOf s)[j] := by rw [bt_bl]; unfold rd; simp [List.getD_eq_getElem?_getD, List.getElem?_eq_getElem hl]
  have := bl_range (s := s) _ (List.getElem_mem hl)
  rw [e, w64 (by omega) (by omega)]
theorem impl_rc_loop (s : ByteArray) (hs : s.size ≤ 2000000) : ∀ (d j : Nat), s.size - j = d → j ≤ s.size → Ev (fun k => impl_ReadConf.l0 k s ((bytesOf s).take j) (j : Int)) (confR s) := by
  intro d
  induction d with
  | zero =>
    intro j hd hj
    have hj' : (bytesOf s).take j = bytesOf s := List.take_of_length_le (by rw [bytesOf_length]; omega)
    rw [hj']
    refine Ev.step (fun k => by simp only [impl_ReadConf.l0]; rw [if_neg (by omega)]) ?_
    refine Ev.bind (impl_conf _ (by rw [bytesOf_length]; exact hs)) ?_
    unfold confR
    cases confB (bytesOf s) <;> exact Ev.now _
  | succ d ih =>
    intro j hd hj
    have hl : j < (bytesOf s).length := by rw [bytesOf_length]; omega
    refine Ev.step (fun k => by simp only [impl_ReadConf.l0]; rw [if_pos (by omega), if_pos (by omega), if_pos (by rw [List.length_take]; omega), w64 (x := (j : Int) + 1) (by omega) (by omega), wbt s j (by omega), List.take_append_getElem hl]) ?_
    exact ih (j + 1) (by omega) (by omega)
theorem impl_readconf (s : ByteArray) (hs : s.size ≤ 2000000) : Ev (fun k => impl_ReadConf.f k s) (confR s) := by
  have := impl_rc_loop s hs s.size 0 (by omega) (by omega)
  rw [List.take_zero] at this
  exact this
theorem spec_rc_loop (s : ByteArray) (hs : s.size ≤ 2000000) : ∀ (d j : Nat), 5 - j = d → j ≤ 5 → j ≤ s.size → Ev (fun k => spec_ReadConf.l0 k s ((bytesOf s).take j) (j : Int)) (confR s) := by
  have hend : ∀ j : Nat, j = s.size → Ev (fun k => spec_ReadConf.l0 k s ((bytesOf s).take j) (j : Int)) (confR s) := by
    intro j hj
    have hj' : (bytesOf s).take j = bytesOf s := List.take_of_length_le (by rw [bytesOf_length]; omega)
    rw [hj']
    have hlen := bytesOf_length s
    refine Ev.step (fun k => by simp only [spec_ReadConf.l0]; rw [if_neg (by omega), if_pos (by omega)]) ?_
    refine Ev.bind (spec_conf _ (by rw [bytesOf_length]; exact hs)) ?_
    unfold confR
    cases confB (bytesOf s) <;> exact Ev.now _
  intro d
  induction d with
  | zero =>
    intro j hd hj hjs
    by_cases he : j = s.size
    · exact hend j he
    · have hlen := bytesOf_length s
      have hc : confR s = ([], false) := by
        unfold confR
        cases hc : confB (bytesOf s) with
        | false => simp
        | true =>
          have := conf_len hc
          omega
      rw [hc]
      refine Ev.here (f := fun _ => some ([], false)) (fun k => ?_) (fun _ => rfl)
      simp only [spec_ReadConf.l0]
      rw [if_pos (by omega), if_neg (by omega), if_neg (by rw [List.length_take]; omega)]
  | succ d ih =>
    intro j hd hj hjs
    by_cases he : j = s.size
    · exact hend j he
    · have hl : j < (bytesOf s).length := by rw [bytesOf_length]; omega
      refine Ev.step (fun k => by simp only [spec_ReadConf.l0]; rw [if_pos (by omega), if_pos (by omega), if_pos (by omega), if_pos (by rw [List.length_take]; omega), w64 (x := (j : Int) + 1) (by omega) (by omega), wbt s j (by omega), List.take_append_getElem hl]) ?_
      exact ih (j + 1) (by omega) (by omega) (by omega)
theorem spec_readconf (s : ByteArray) (hs : s.size ≤ 2000000) : Ev (fun k => spec_ReadConf.f k s) (confR s) := by
  have := spec_rc_loop s hs 5 0 (by omega) (by omega) (by omega)
  rw [List.take_zero] at this
  exact this

/-! ### bytes -/

/-! ### conftext -/
def confT (l : List Int) : ByteArray := strOfNums (l.map (· % 256))
def confO (l : List Int) : ByteArray × Bool := if confB l = true then (confT l, true) else ((⟨#[]⟩ : ByteArray), false)
theorem confO_size (l : List Int) : (confO l).1.size ≤ 4 := by
  unfold confO
  by_cases h : confB l = true
  · rw [if_pos h]
    have := conf_len h
    show (confT l).size ≤ 4
    unfold confT
    rw [strOfNums_size, List.length_map]
    exact this.2
  · rw [if_neg h]
    show 0 ≤ 4
    omega
theorem conf_mod {l : List Int} (h : confB l = true) : l.map (· % 256) = l := by
  have := conf_rng h
  have e : l.map (· % 256) = l.map id := List.map_congr_left (fun x hx => by have := this x hx; show x % 256 = x; omega)
  rw [e, List.map_id]
theorem conf_back {l : List Int} (h : confB l = true) : bytesOf (confT l) = l := by
  unfold confT
  rw [conf_mod h, bl_str]
  intro x hx
  have := conf_rng h x hx
  omega
theorem spec_ct_loop (l : List Int) (hl : l.length ≤ 2000000) : ∀ (d j : Nat), l.length - j = d → j ≤ l.length → Ev (fun k => spec_ConfText.l0 k l ((l.map (· % 256)).take j) (j : Int)) (confT l, true) := by
  intro d
  induction d with
  | zero =>
    intro j hd hj
    rw [List.take_of_length_le (by rw [List.length_map]; omega)]
    exact Ev.step (f := fun _ => some (strOfNums (l.map (· % 256)), true)) (fun k => by simp only [spec_ConfText.l0]; rw [if_neg (by omega)]) (Ev.now _)
  | succ d ih =>
    intro j hd hj
    have hjl : j < l.length := by omega
    have hm : j < (l.map (· % 256)).length := by rw [List.length_map]; exact hjl
    have e : rd l (j : Int) % 256 = (l.map (· % 256))[j] := by
      rw [List.getElem_map]
      unfold rd
      simp [List.getD_eq_getElem?_getD, List.getElem?_eq_getElem hjl]
    refine Ev.step (fun k => by simp only [spec_ConfText.l0]; rw [if_pos (by omega), if_pos (by omega), if_pos (by rw [List.length_take, List.length_map]; omega), e, List.take_append_getElem hm, w64 (x := (j : Int) + 1) (by omega) (by omega)]) ?_
    exact ih (j + 1) (by omega) (by omega)
theorem spec_conftext (l : List Int) (hl : l.length ≤ 2000000) : Ev (fun k => spec_ConfText.f k l) (confO l) := by
  unfold spec_ConfText.f
  refine Ev.bind (spec_conf l hl) ?_
  unfold confO
  by_cases h : confB l = true
  · simp only [if_pos h]
    have := spec_ct_loop l hl l.length 0 (by omega) (by omega)
    rw [List.take_zero] at this
    exact this
  · simp only [if_neg h]
    exact Ev.now _

/-! ### var -/
def varL : Nat → Int → List Int
  | 0, x => [x % 256]
  | d + 1, x => if x > 127 then (x % 128 + 128) % 256 :: varL d (x / 128) else [x % 256]
theorem varL_length : ∀ d x, (varL d x).length ≤ d + 1 := by
  intro d
  induction d with
  | zero => intro x; simp [varL]
  | succ d ih =>
    intro x
    unfold varL
    split
    · have := ih (x / 128); simp only [List.length_cons]; omega
    · simp
def varT (x : Int) : ByteArray := strOfNums (varL 8 x)
theorem varT_size (x : Int) : (varT x).size ≤ 9 := by
  unfold varT
  rw [strOfNums_size]
  exact varL_length 8 x
theorem spec_var_loop : ∀ (d : Nat) (x : Int) (acc : List Int), 0 ≤ x → x < 128 ^ (d + 1) → x ≤ 9223372036854775807 → acc.length + d ≤ 1000 → ∀ k, d < k → spec_l01Var.l0 k x acc = some (strOfNums (acc ++ varL d x)) := by
  intro d
  induction d with
  | zero =>
    intro x acc h0 h1 h2 h3 k hk
    obtain ⟨k, rfl⟩ : ∃ m, k = m + 1 := ⟨k - 1, by omega⟩
    simp only [spec_l01Var.l0, varL]
    rw [if_neg (by omega), if_pos (by omega)]
  | succ d ih =>
    intro x acc h0 h1 h2 h3 k hk
    obtain ⟨k, rfl⟩ : ∃ m, k = m + 1 := ⟨k - 1, by omega⟩
    simp only [spec_l01Var.l0, varL]
    by_cases hx : x > 127
    · have hp : (128 : Int) ^ (d + 1 + 1) = 128 ^ (d + 1) * 128 := Int.pow_succ 128 (d + 1)
      rw [if_pos hx, if_pos (by omega), if_pos hx, Int.tdiv_eq_ediv_of_nonneg h0, Int.tmod_eq_emod_of_nonneg h0, w64 (x := x / 128) (by omega) (by omega), w64 (x := x % 128 + 128) (by omega) (by omega)]
      rw [ih (x / 128) (acc ++ [(x % 128 + 128) % 256]) (by omega) (by omega) (by omega) (by rw [List.length_append, List.length_singleton]; omega) k (by omega), List.append_assoc]
      rfl
    · rw [if_neg hx, if_pos (by omega), if_neg hx]
theorem spec_var (x : Int) (h0 : 0 ≤ x) (h1 : x ≤ 1000000000) : Ev (fun k => spec_l01Var.f k x) (varT x) := ⟨9, fun k hk => by
  exact spec_var_loop 8 x [] h0 (by omega) (by omega) (by simp) k (by omega)⟩
def shortT (s : ByteArray) : ByteArray := varT (s.size : Int) ++ s
theorem shortT_size (s : ByteArray) : (shortT s).size ≤ s.size + 9 := by
  have := varT_size (s.size : Int)
  unfold shortT
  rw [ByteArray.size_append]
  omega
theorem spec_short (s : ByteArray) (hs : s.size ≤ 1000000000) : Ev (fun k => spec_l16Short.f k s) (shortT s) := by
  unfold spec_l16Short.f
  refine Ev.bind (spec_var (s.size : Int) (by omega) (by omega)) ?_
  have := varT_size (s.size : Int)
  simp only [if_pos (show (varT (s.size : Int)).size + s.size ≤ 9223372036854775807 by omega)]
  exact Ev.now _
def catB {α : Type} (f : α → ByteArray) : List α → ByteArray
  | [] => (⟨#[]⟩ : ByteArray)
  | x :: l => f x ++ catB f l
theorem app_empty (s : ByteArray) : s ++ (⟨#[]⟩ : ByteArray) = s := bl_inj (by rw [bl_app, bl_empty, List.append_nil])
theorem empty_app (s : ByteArray) : (⟨#[]⟩ : ByteArray) ++ s = s := bl_inj (by rw [bl_app, bl_empty, List.nil_append])

/-! ### cmdspec -/
theorem toList_size {s : ByteArray} (h : s.toList = ([] : List UInt8)) : s.size = 0 := by
  have h1 := toList_nil.1 h
  have h2 := bytesOf_length s
  rw [h1] at h2
  simpa using h2.symm
theorem commandOk_rng (o t q : Int) (key val : ByteArray) (v : Int) (k : Nat) (h : spec_CommandOk.f (k + 2) o t q key val v = some true) : (0 ≤ t ∧ t ≤ 1000000) ∧ (0 ≤ q ∧ q ≤ 1000000) ∧ (0 ≤ v ∧ v ≤ 1000000000) ∧ (1 ≤ o ∧ o ≤ 5) ∧ key.size ≤ 8 ∧ val.size ≤ 20 := by
  unfold spec_CommandOk.f at h
  simp only [in_eq, Option.bind_some, spec_CommandOk.j0, spec_CommandOk.j1] at h
  cases ht : rng t 0 1000000 with
  | false => simp [ht] at h
  | true =>
    cases hq : rng q 0 1000000 with
    | false => simp [ht, hq] at h
    | true =>
      cases ho : rng o 1 5 with
      | false => simp [ht, hq, ho] at h
      | true =>
        refine ⟨rng_iff.1 ht, rng_iff.1 hq, ?_⟩
        simp only [ht, hq, ho, if_true, Bool.not_true, Bool.false_eq_true, if_false] at h
        by_cases h1 : o = 1
        · subst h1
          by_cases c : key.toList = []
          · by_cases d : val.toList = []
            · by_cases hv : v = 0
              · have := toList_size c
                have := toList_size d
                exact ⟨by omega, by omega, by omega, by omega⟩
              · exfalso
                revert h
                by_cases h7 : t = 0 <;> by_cases h8 : q = 0 <;> simp [h7, h8, hv, c, d]
            · simp [c, d] at h
          · simp [c] at h
        · simp only [if_neg h1] at h
          cases hk : rng (key.size : Int) 1 8 with
          | false => simp [hk] at h
          | true =>
            have hk' := rng_iff.1 hk
            simp only [hk, if_true, decide_eq_true_eq] at h
            by_cases hv20 : (val.size : Int) > 20
            · simp [hv20] at h
            · simp only [if_neg hv20] at h
              refine ⟨?_, rng_iff.1 ho, by omega, by omega⟩
              by_cases h2 : o = 2
              · simp only [if_pos h2, Option.some.injEq, beq_iff_eq] at h
                omega
              · by_cases h5 : o = 5
                · simp only [if_neg h2, if_pos h5, Option.some.injEq] at h
                  have := rng_iff.1 h
                  omega
                · by_cases d : val.toList = []
                  · simp only [if_neg h2, if_neg h5, if_pos d, Option.some.injEq, beq_iff_eq] at h
                    omega
                  · simp [h2, h5, d] at h
def cmdT (o t q : Int) (key val : ByteArray) (v : Int) : ByteArray := strOfNums [o % 256] ++ varT t ++ varT q ++ shortT key ++ shortT val ++ varT v
theorem spec_cmd_k (o t q : Int) (key val : ByteArray) (v : Int) (k : Nat) : spec_CommandOk.f (k + 3) o t q key val v = spec_CommandOk.f (0 + 3) o t q key val v := by
  unfold spec_CommandOk.f
  simp only [spec_CommandOk.j0, spec_CommandOk.j1]
theorem spec_cmd_ev (o t q : Int) (key val : ByteArray) (v : Int) : ∃ b, Ev (fun k => spec_CommandOk.f k o t q key val v) b ∧ (b = true → (0 ≤ t ∧ t ≤ 1000000) ∧ (0 ≤ q ∧ q ≤ 1000000) ∧ (0 ≤ v ∧ v ≤ 1000000000) ∧ (1 ≤ o ∧ o ≤ 5) ∧ key.size ≤ 8 ∧ val.size ≤ 20) := by
  have ht : (spec_CommandOk.f (0 + 3) o t q key val v).isSome = true := by
    unfold spec_CommandOk.f
    simp only [in_eq, Option.bind_some, spec_CommandOk.j0, spec_CommandOk.j1]
    repeat' split
    all_goals rfl
  obtain ⟨b, hb⟩ := Option.isSome_iff_exists.1 ht
  refine ⟨b, ⟨3, fun k hk => ?_⟩, fun h => ?_⟩
  · obtain ⟨m, rfl⟩ : ∃ m, k = m + 3 := ⟨k - 3, by omega⟩
    show spec_CommandOk.f (m + 3) o t q key val v = some b
    rw [spec_cmd_k]
    exact hb
  · subst h
    exact commandOk_rng o t q key val v 1 hb
theorem spec_cmdtext (o t q : Int) (key val : ByteArray) (v : Int) {b : Bool} (f1 : Ev (fun k => spec_CommandOk.f k o t q key val v) b) (hb : b = true → (0 ≤ t ∧ t ≤ 1000000) ∧ (0 ≤ q ∧ q ≤ 1000000) ∧ (0 ≤ v ∧ v ≤ 1000000000) ∧ (1 ≤ o ∧ o ≤ 5) ∧ key.size ≤ 8 ∧ val.size ≤ 20) :
    Ev (fun k => spec_CommandText.f k o t q key val v) (if b = true then (cmdT o t q key val v, true) else ((⟨#[]⟩ : ByteArray), false)) := by
  unfold spec_CommandText.f
  refine Ev.bind f1 ?_
  cases b with
  | false =>
    simp only [Bool.false_eq_true, if_false]
    exact Ev.now _
  | true =>
    obtain ⟨ht, hq, hv, ho, hk, hl⟩ := hb rfl
    have h1 : (strOfNums [o % 256]).size = 1 := by rw [strOfNums_size]; rfl
    have h2 := varT_size t
    have h3 := varT_size q
    have h4 := shortT_size key
    have h5 := shortT_size val
    have h6 := varT_size v
    simp only [if_true, Option.bind_some]
    refine Ev.bind (spec_var t ht.1 (by omega)) ?_
    simp only [if_pos (show (strOfNums [o % 256]).size + (varT t).size ≤ 9223372036854775807 by omega)]
    refine Ev.bind (spec_var q hq.1 (by omega)) ?_
    simp only [if_pos (show (strOfNums [o % 256] ++ varT t).size + (varT q).size ≤ 9223372036854775807 by rw [ByteArray.size_append]; omega)]
    refine Ev.bind (spec_short key (by omega)) ?_
    simp only [if_pos (show (strOfNums [o % 256] ++ varT t ++ varT q).size + (shortT key).size ≤ 9223372036854775807 by rw [ByteArray.size_append, ByteArray.size_append]; omega)]
    refine Ev.bind (spec_short val (by omega)) ?_
    simp only [if_pos (show (strOfNums [o % 256] ++ varT t ++ varT q ++ shortT key).size + (shortT val).size ≤ 9223372036854775807 by rw [ByteArray.size_append, ByteArray.size_append, ByteArray.size_append]; omega)]
    refine Ev.bind (spec_var v hv.1 hv.2) ?_
    simp only [if_pos (show (strOfNums [o % 256] ++ varT t ++ varT q ++ shortT key ++ shortT val).size + (varT v).size ≤ 9223372036854775807 by rw [ByteArray.size_append, ByteArray.size_append, ByteArray.size_append, ByteArray.size_append]; omega)]
    exact Ev.now _

/-! ### entrydraw -/
theorem tConf_loop {b : List Int} (hb : b.length ≤ 1048576) : ∀ (d : Nat) (l : List Int) (x i h : Int), 5 - x = d → x ≤ 5 → 1 ≤ x → (l.length : Int) ≤ x → Cur b i → Tot (fun k => spec_l05Conf.l0 k l x b i h) (fun r => r.1.length ≤ 5 ∧ Cur b r.2.1) := by
  intro d
  induction d with
  | zero =>
    intro l x i h hd h5 h1 hl hi
    refine Tot.step (fun k => rfl) ?_
    simp only [spec_l05Conf.l0, if_neg (show ¬ x ≤ 4 by omega)]
    by_cases h0 : (l.length : Int) = 0
    · simp only [if_pos h0, if_pos (show l.length < 17592186044416 by omega)]
      exact Tot.ret _ ⟨by show (l ++ [1]).length ≤ 5; rw [List.length_append, List.length_singleton]; omega, hi⟩
    · simp only [if_neg h0]
      exact Tot.ret _ ⟨by show l.length ≤ 5; omega, hi⟩
  | succ d ih =>
    intro l x i h hd h5 h1 hl hi
    refine Tot.step (fun k => rfl) ?_
    simp only [spec_l05Conf.l0, if_pos (show x ≤ 4 by omega)]
    refine Tot.bind (tOnce h 2 hb hi) fun r hr => ?_
    by_cases hr1 : r.1 = true
    · simp only [if_pos hr1, if_pos (show l.length < 17592186044416 by omega), w64 (x := x + 1) (by omega) (by omega)]
      exact ih _ _ _ _ (by omega) (by omega) (by omega) (by rw [List.length_append, List.length_singleton]; omega) hr
    · simp only [if_neg hr1, w64 (x := x + 1) (by omega) (by omega)]
      exact ih _ _ _ _ (by omega) (by omega) (by omega) (by omega) hr
theorem tConf {b : List Int} {i : Int} (h : Int) (hb : b.length ≤ 1048576) (hi : Cur b i) : Tot (fun k => spec_l05Conf.f k b i h) (fun r => r.1.length ≤ 5 ∧ Cur b r.2.1) :=
  tConf_loop hb 4 [] 1 i h (by omega) (by omega) (by omega) (by simp) hi
theorem item_tot (a : List S83) (l : List S81) (s : ByteArray) (hl : l.length ≤ 1048576) : ∀ (d j : Nat), l.length - j = d → j ≤ l.length → Tot (fun k => spec_ItemOf.l0 k s (j : Int) a l) (fun _ => True) := by
  intro d
  induction d with
  | zero =>
    intro j hd hj
    refine Tot.step (fun k => rfl) ?_
    simp only [spec_ItemOf.l0, if_neg (show ¬ (j : Int) < (l.length : Int) by omega)]
    exact Tot.ret _ trivial
  | succ d ih =>
    intro j hd hj
    refine Tot.step (fun k => rfl) ?_
    simp only [spec_ItemOf.l0, if_pos (show (j : Int) < (l.length : Int) by omega), if_pos (show (0 : Int) ≤ (j : Int) by omega), w64 (x := (j : Int) + 1) (by omega) (by omega)]
    by_cases h : (rd_T81 l (j : Int)).f0.toList = s.toList
    · simp only [if_pos h]
      exact Tot.ret _ trivial
    · simp only [if_neg h]
      exact ih (j + 1) (by omega) (by omega)
theorem tOf1 {b : List Int} {i : Int} (h : Int) (hb : b.length ≤ 1048576) (hi : Cur b i) (q : Bool) (o t s : Int) (k1 k2 : ByteArray) (v : Int) (y1 y2 : ByteArray) (y3 : Int) : Tot (fun k => spec_l15Of.j1 k q b i h o t s k1 k2 v y1 y2 y3) (fun r => Cur b r.2.2.2.2.2.2.1) := by
  refine Tot.step (fun k => rfl) ?_
  simp only [spec_l15Of.j1]
  by_cases h5 : o = 5
  · simp only [if_pos h5]
    refine Tot.bind (tBelow h 20 hb hi) fun r hr => ?_
    by_cases hq : q = true
    · simp only [if_pos hq]
      refine Tot.bind (tOnce _ 3 hb hr.2) fun u hu => ?_
      by_cases hu1 : u.1 = true
      · simp only [if_pos hu1]; exact Tot.ret _ hu
      · simp only [if_neg hu1]; exact Tot.ret _ hu
    · simp only [if_neg hq]
      exact Tot.ret _ hr.2
  · simp only [if_neg h5]
    exact Tot.ret _ hi
theorem tOf0 {b : List Int} {i : Int} (h : Int) (hb : b.length ≤ 1048576) (hi : Cur b i) (q w : Bool) (o t s : Int) (k1 k2 : ByteArray) (v : Int) (y1 y2 : ByteArray) (y3 : Int) : Tot (fun k => spec_l15Of.j0 k q w b i h o t s k1 k2 v y1 y2 y3) (fun r => Cur b r.2.2.2.2.2.2.1) := by
  refine Tot.step (fun k => rfl) ?_
  simp only [spec_l15Of.j0]
  by_cases hw : w = true
  · simp only [if_pos hw]
    refine Tot.bind (tPickT _ _ hb hi (by simp)) fun u hu => ?_
    exact tOf1 _ hb hu.2 _ _ _ _ _ _ _ _ _ _
  · simp only [if_neg hw]
    exact tOf1 _ hb hi _ _ _ _ _ _ _ _ _ _
theorem tOf {b : List Int} {i : Int} (h : Int) (hb : b.length ≤ 1048576) (hi : Cur b i) (x : List S83) (y : List S81) (hy : y.length ≤ 1048576) : Tot (fun k => spec_l15Of.f k b i h x y) (fun r => Cur b r.2.2.2.2.2.2.1) := by
  unfold spec_l15Of.f
  refine Tot.bind (tPick h _ hb hi (by simp)) fun r hr => ?_
  refine Tot.bind (tPickT _ _ hb hr.2 (by simp)) fun u hu => ?_
  refine Tot.bind (P := fun _ => True) (show Tot (fun k => spec_ItemOf.f k x y u.1) _ from item_tot x y u.1 hy y.length 0 (by omega) (by omega)) fun v _ => ?_
  by_cases h2 : r.1 = 2
  · simp only [if_pos h2]
    exact tOf0 _ hb hu.2 _ _ _ _ _ _ _ _ _ _ _
  · simp only [if_neg h2]
    exact tOf0 _ hb hu.2 _ _ _ _ _ _ _ _ _ _ _
theorem tCmd1 {b : List Int} {i : Int} (h : Int) (hb : b.length ≤ 1048576) (hi : Cur b i) (o t s : Int) (k1 k2 : ByteArray) (v y1 y2 : Int) (y3 : ByteArray) : Tot (fun k => spec_l15Command.j1 k b i h o t s k1 k2 v y1 y2 y3) (fun r => Cur b r.2.2.2.2.2.2.1) := by
  refine Tot.step (fun k => rfl) ?_
  simp only [spec_l15Command.j1]
  refine Tot.bind (tBelow h 16 hb hi) fun r hr => ?_
  by_cases h0 : r.1 = 0
  · simp only [if_pos h0]; exact Tot.ret _ hr.2
  · by_cases h1 : r.1 = 1
    · simp only [if_neg h0, if_pos h1]
      refine Tot.bind (tBelow _ 4 hb hr.2) fun u hu => ?_
      exact Tot.ret _ hu.2
    · by_cases h2 : r.1 = 2
      · simp only [if_neg h0, if_neg h1, if_pos h2]
        refine Tot.bind (tBelow _ 9 hb hr.2) fun u hu => ?_
        exact Tot.ret _ hu.2
      · simp only [if_neg h0, if_neg h1, if_neg h2]; exact Tot.ret _ hr.2
theorem tCmd {b : List Int} {i : Int} (h : Int) (hb : b.length ≤ 1048576) (hi : Cur b i) (x : List S83) (y : List S81) (hx : 0 < x.length ∧ x.length ≤ 1048576) (hy : y.length ≤ 1048576) : Tot (fun k => spec_l15Command.f k b i h x y) (fun r => Cur b r.2.2.2.2.2.2.1) := by
  unfold spec_l15Command.f
  simp only [if_neg (show ¬ (x.length : Int) = 0 by omega)]
  refine Tot.bind (tOnce h 16 hb hi) fun r hr => ?_
  refine Tot.step (fun k => rfl) ?_
  simp only [spec_l15Command.j0]
  by_cases hr1 : r.1 = true
  · simp only [if_pos hr1]
    exact Tot.ret _ hr
  · simp only [if_neg hr1]
    refine Tot.bind (tOf _ hb hr x y hy) fun u hu => ?_
    simp only [w64 (x := (x.length : Int) - 1) (by omega) (by omega), if_pos (show (0 : Int) ≤ (x.length : Int) - 1 by omega), if_pos (show (x.length : Int) - 1 < (x.length : Int) by omega)]
    refine Tot.bind (tOnce _ 4 hb hu) fun v hv => ?_
    by_cases hv1 : v.1 = true
    · simp only [if_pos hv1]
      refine Tot.bind (tBelow _ (x.length : Int) hb hv) fun w hw => ?_
      have hw1 := hw.1.2.1 (by omega)
      simp only [if_pos hw.1.1, if_pos hw1]
      exact tCmd1 _ hb hw.2 _ _ _ _ _ _ _ _ _
    · simp only [if_neg hv1]
      exact tCmd1 _ hb hv _ _ _ _ _ _ _ _ _
theorem tRight16 {b : List Int} {i : Int} (h : Int) (hb : b.length ≤ 1048576) (hi : Cur b i) : Tot (fun k => spec_l16Right.f k b i h) (fun r => Cur b r.2.2.2.2.2.2.1) := by
  unfold spec_l16Right.f spec_KeepNew.f
  simp only [Option.bind_some]
  refine Tot.bind (tBelow h 5 hb hi) fun r hr => ?_
  refine Tot.bind (tBelow _ 4 hb hr.2) fun q hq => ?_
  refine Tot.bind (tCmd _ hb hq.2 _ _ ⟨by simp, by simp⟩ (by simp)) fun u hu => ?_
  obtain ⟨c, hc, _⟩ := spec_cmd_ev u.1 u.2.1 u.2.2.1 u.2.2.2.1 u.2.2.2.2.1 u.2.2.2.2.2.1
  refine Tot.bind (P := fun _ => True) ⟨c, hc, trivial⟩ fun v _ => ?_
  by_cases hv : v = true
  · simp only [if_pos hv]; exact Tot.ret _ hu
  · simp only [if_neg hv]; exact Tot.ret _ hu
theorem tCmdText (o t q : Int) (key val : ByteArray) (v : Int) : Tot (fun k => spec_CommandText.f k o t q key val v) (fun r => r.1.size ≤ 1000) := by
  obtain ⟨c, hc, hb⟩ := spec_cmd_ev o t q key val v
  refine ⟨_, spec_cmdtext o t q key val v hc hb, ?_⟩
  cases c with
  | false => simp only [Bool.false_eq_true, if_false]; show 0 ≤ 1000; omega
  | true =>
    obtain ⟨_, _, _, _, hk, hl⟩ := hb rfl
    simp only [if_true]
    unfold cmdT
    have h1 : (strOfNums [o % 256]).size = 1 := by rw [strOfNums_size]; rfl
    have h2 := varT_size t
    have h3 := varT_size q
    have h4 := shortT_size key
    have h5 := shortT_size val
    have h6 := varT_size v
    simp only [ByteArray.size_append]
    omega
theorem tRight05 {b : List Int} {i : Int} (h t : Int) (hb : b.length ≤ 1048576) (hi : Cur b i) : Tot (fun k => spec_l05Right.f k b i h t) (fun r => r.2.2.1.size ≤ 1000 ∧ Cur b r.2.2.2.1) := by
  unfold spec_l05Right.f
  refine Tot.bind (tPick h _ hb hi (by simp)) fun r hr => ?_
  by_cases h2 : r.1 = 2
  · simp only [if_pos h2]
    refine Tot.bind (tConf _ hb hr.2) fun q hq => ?_
    refine Tot.bind (P := fun r => r.1.size ≤ 1000) ⟨_, spec_conftext q.1 (by have := hq.1; omega), by have := confO_size q.1; omega⟩ fun u hu => ?_
    exact Tot.ret _ ⟨hu, hq.2⟩
  · by_cases h3 : r.1 = 3
    · simp only [if_neg h2, if_pos h3]
      refine Tot.bind (tRight16 _ hb hr.2) fun q hq => ?_
      refine Tot.bind (tCmdText _ _ _ _ _ _) fun u hu => ?_
      exact Tot.ret _ ⟨hu, hq⟩
    · simp only [if_neg h2, if_neg h3]
      exact Tot.ret _ ⟨by show 0 ≤ 1000; omega, hr.2⟩

/-! ### logdraw -/
def LogD (b : List Int) (n : Nat) (r : Int × Int × List S28 × Int × Int) : Prop := (-10 ≤ r.1 ∧ r.1 ≤ 1000001) ∧ r.2.2.1.length ≤ n ∧ (∀ x ∈ r.2.2.1, x.f2.size ≤ 1000) ∧ Cur b r.2.2.2.1
theorem all_snoc {l : List S28} {e : S28} (h : ∀ x ∈ l, x.f2.size ≤ 1000) (he : e.f2.size ≤ 1000) : ∀ x ∈ l ++ [e], x.f2.size ≤ 1000 := by
  intro x hx
  rcases List.mem_append.1 hx with hx | hx
  · exact h x hx
  · rw [List.mem_singleton.1 hx]; exact he
theorem tRight06_loop {b : List Int} (hb : b.length ≤ 1048576) (st t0 : Int) (hs : -10 ≤ st ∧ st ≤ 1000001) : ∀ (d : Nat) (t x i h : Int) (l : List S28), 8 - x ≤ d → 0 ≤ x → x ≤ 8 → (l.length : Int) ≤ x → (∀ y ∈ l, y.f2.size ≤ 1000) → Cur b i → Tot (fun k => spec_l06Right.l0 k t x b i h st t0 l) (LogD b 8) := by
  intro d
  induction d with
  | zero =>
    intro t x i h l hd h0 h8 hl hx hi
    refine Tot.step (fun k => rfl) ?_
    simp only [spec_l06Right.l0]
    refine Tot.bind (tBelow h 8 hb hi) fun r hr => ?_
    have := hr.1.2.1 (by omega)
    simp only [if_neg (show ¬ x < r.1 by omega)]
    exact Tot.ret _ ⟨hs, by show l.length ≤ 8; omega, hx, hr.2⟩
  | succ d ih =>
    intro t x i h l hd h0 h8 hl hx hi
    refine Tot.step (fun k => rfl) ?_
    simp only [spec_l06Right.l0]
    refine Tot.bind (tBelow h 8 hb hi) fun r hr => ?_
    have hr1 := hr.1.2.1 (by omega)
    by_cases hxr : x < r.1
    · simp only [if_pos hxr]
      refine Tot.bind (tOnce _ 3 hb hr.2) fun q hq => ?_
      by_cases hq1 : q.1 = true
      · simp only [if_pos hq1]
        refine Tot.bind (tBelow _ 2 hb hq) fun u hu => ?_
        refine Tot.bind (tRight05 _ _ hb hu.2) fun v hv => ?_
        simp only [if_pos (show l.length < 4398046511104 by omega), w64 (x := x + 1) (by omega) (by omega)]
        exact ih _ _ _ _ _ (by omega) (by omega) (by omega) (by rw [List.length_append, List.length_singleton]; omega) (all_snoc hx hv.1) hv.2
      · simp only [if_neg hq1]
        refine Tot.bind (tRight05 _ _ hb hq) fun v hv => ?_
        simp only [if_pos (show l.length < 4398046511104 by omega), w64 (x := x + 1) (by omega) (by omega)]
        exact ih _ _ _ _ _ (by omega) (by omega) (by omega) (by rw [List.length_append, List.length_singleton]; omega) (all_snoc hx hv.1) hv.2
    · simp only [if_neg hxr]
      exact Tot.ret _ ⟨hs, by show l.length ≤ 8; omega, hx, hr.2⟩
theorem tRight06 {b : List Int} {i : Int} (h : Int) (hb : b.length ≤ 1048576) (hi : Cur b i) : Tot (fun k => spec_l06Right.f k b i h) (LogD b 8) := by
  unfold spec_l06Right.f
  refine Tot.bind (tBelow h 3 hb hi) fun r hr => ?_
  refine Tot.bind (tBelow _ 4 hb hr.2) fun q hq => ?_
  refine Tot.bind (tBelow _ 3 hb hq.2) fun u hu => ?_
  have h1 := hr.1.2.1 (by omega)
  have h2 := hq.1.2.1 (by omega)
  have h3 : 0 ≤ r.1 * q.1 := Int.mul_nonneg hr.1.1 hq.1.1
  have h4 : r.1 * q.1 ≤ 2 * 3 := Int.mul_le_mul (by omega) (by omega) hq.1.1 (by omega)
  rw [w64 (x := r.1 * q.1) (by omega) (by omega)]
  exact tRight06_loop hb (r.1 * q.1) u.1 (by omega) 8 u.1 0 _ _ [] (by omega) (by omega) (by omega) (by simp) (by simp) hu.2

/-! ### entryok -/
def entB (t c : Int) (s : ByteArray) : Bool :=
  rng t 0 100000 && (if c = 1 then decide (s.toList = ([] : List UInt8)) else if c = 2 then (confR s).2 else if c = 3 then decide ((s.size : Int) ≤ 120) else false)
theorem nil_dec (s : ByteArray) : (s.toList == ([] : List UInt8)) = decide (s.toList = ([] : List UInt8)) := by
  cases s.toList <;> simp
theorem spec_ent (t c : Int) (s : ByteArray) (hs : s.size ≤ 2000000) : Ev (fun k => spec_EntryOk.f k t c s) (entB t c s) := by
  unfold spec_EntryOk.f entB
  simp only [in_eq, Option.bind_some, nil_dec]
  cases rng t 0 100000 with
  | false => simpa using Ev.now false
  | true =>
    simp only [if_true, Bool.true_and]
    by_cases h1 : c = 1
    · simp only [if_pos h1]; exact Ev.now _
    · by_cases h2 : c = 2
      · simp only [if_neg h1, if_pos h2]
        exact Ev.bind (spec_readconf s hs) (Ev.now _)
      · by_cases h3 : c = 3
        · simp only [if_neg h1, if_neg h2, if_pos h3]; exact Ev.now _
        · simp only [if_neg h1, if_neg h2, if_neg h3]; exact Ev.now _
theorem impl_ent (t c : Int) (s : ByteArray) (hs : s.size ≤ 2000000) : Ev (fun k => impl_EntryOk.f k t c s) (entB t c s) := by
  unfold impl_EntryOk.f impl_isTerm.f entB
  simp only [within_eq, Option.bind_some, nil_dec]
  by_cases h1 : c = 1
  · simp only [if_pos h1]
    cases rng t 0 100000 <;> simpa using Ev.now _
  · by_cases h2 : c = 2
    · simp only [if_neg h1, if_pos h2]
      refine Ev.bind (impl_readconf s hs) ?_
      cases rng t 0 100000 <;> simpa using Ev.now _
    · by_cases h3 : c = 3
      · simp only [if_neg h1, if_neg h2, if_pos h3]
        cases rng t 0 100000 <;> simpa using Ev.now _
      · simp only [if_neg h1, if_neg h2, if_neg h3, Bool.and_false]; exact Ev.now _
theorem ent_iff {t c : Int} {s : ByteArray} (h : entB t c s = true) : (0 ≤ t ∧ t ≤ 100000) ∧ (1 ≤ c ∧ c ≤ 3) ∧ s.size ≤ 120 := by
  unfold entB at h
  rw [Bool.and_eq_true, rng_iff] at h
  obtain ⟨ht, h⟩ := h
  refine ⟨ht, ?_⟩
  by_cases h1 : c = 1
  · rw [if_pos h1, decide_eq_true_eq] at h
    have h2 := bytesOf_length s
    rw [toList_nil.1 h] at h2
    simp at h2
    omega
  · by_cases h2 : c = 2
    · rw [if_neg h1, if_pos h2] at h
      unfold confR at h
      cases hc : confB (bytesOf s) with
      | false => simp [hc] at h
      | true =>
        have := conf_len hc
        rw [bytesOf_length] at this
        omega
    · by_cases h3 : c = 3
      · rw [if_neg h1, if_neg h2, if_pos h3, decide_eq_true_eq] at h
        omega
      · simp [h1, h2, h3] at h

/-! ### log -/
def termsB : Int → List S28 → Bool
  | _, [] => true
  | t, e :: l => entB e.f0 e.f1 e.f2 && (decide (t ≤ e.f0) && termsB e.f0 l)
def restB (st t : Int) (l : List S28) : Bool := rng st 0 1000000 && (rng t 0 100000 && (decide ((l.length : Int) ≤ 60) && decide (st + l.length ≤ 1000000)))
def logB (st t : Int) (l : List S28) : Bool := restB st t l && termsB t l
theorem rdE_at {l : List S28} {j : Nat} (h : j < l.length) : rd_T28 l (j : Int) = l[j] := by unfold rd_T28; exact getD_at _ h
theorem spec_terms (l : List S28) (hl : l.length ≤ 2000000) (hx : ∀ x ∈ l, x.f2.size ≤ 2000000) (a b : Int) : ∀ (d j : Nat) (t : Int), l.length - j = d → j ≤ l.length → Ev (fun k => spec_LogOk.l0 k t (j : Int) a b l) (termsB t (l.drop j)) := by
  intro d
  induction d with
  | zero =>
    intro j t hd hj
    rw [List.drop_of_length_le (by omega)]
    exact Ev.step (f := fun _ => some true) (fun k => by simp only [spec_LogOk.l0]; rw [if_neg (by omega)]) (Ev.now _)
  | succ d ih =>
    intro j t hd hj
    have hjl : j < l.length := by omega
    refine Ev.step (fun k => by simp only [spec_LogOk.l0]; rw [if_pos (by omega), if_pos (by omega), rdE_at hjl, w64 (x := (j : Int) + 1) (by omega) (by omega)]) ?_
    refine Ev.bind (spec_ent l[j].f0 l[j].f1 l[j].f2 (hx _ (List.getElem_mem hjl))) ?_
    rw [List.drop_eq_getElem_cons hjl]
    unfold termsB
    cases he : entB l[j].f0 l[j].f1 l[j].f2 with
    | false => simp only [Bool.false_eq_true, if_false, Bool.false_and]; exact Ev.now _
    | true =>
      simp only [if_true, Bool.true_and]
      by_cases ht : l[j].f0 < t
      · simp only [if_pos ht, show decide (t ≤ l[j].f0) = false from decide_eq_false (by omega), Bool.false_and]
        exact Ev.now _
      · simp only [if_neg ht, show decide (t ≤ l[j].f0) = true from decide_eq_true (by omega), Bool.true_and]
        exact ih (j + 1) _ (by omega) (by omega)
theorem spec_log (st t : Int) (l : List S28) (hs : -1000 ≤ st ∧ st ≤ 2000000) (hl : l.length ≤ 2000000) (hx : ∀ x ∈ l, x.f2.size ≤ 2000000) : Ev (fun k => spec_LogOk.f k st t l) (logB st t l) := by
  unfold spec_LogOk.f logB restB
  simp only [in_eq, Option.bind_some, w64 (x := st + (l.length : Int)) (by omega) (by omega)]
  have hf : Ev (fun k => spec_LogOk.j0 k true st t l) false := Ev.step (f := fun _ => some false) (fun k => by simp only [spec_LogOk.j0, if_true]) (Ev.now _)
  cases rng st 0 1000000 with
  | false => simp only [Bool.false_eq_true, if_false, Bool.false_and]; exact hf
  | true =>
    cases rng t 0 100000 with
    | false => simp only [Bool.false_eq_true, if_false, if_true, Bool.false_and, Bool.true_and]; exact hf
    | true =>
      simp only [if_true, Bool.true_and]
      by_cases h6 : (l.length : Int) > 60
      · simp only [if_pos h6, show decide ((l.length : Int) ≤ 60) = false from decide_eq_false (by omega), Bool.false_and]
        exact hf
      · simp only [if_neg h6, show decide ((l.length : Int) ≤ 60) = true from decide_eq_true (by omega), Bool.true_and]
        by_cases h7 : st + (l.length : Int) > 1000000
        · simp only [show decide (st + (l.length : Int) > 1000000) = true from decide_eq_true h7, show decide (st + (l.length : Int) ≤ 1000000) = false from decide_eq_false (by omega), Bool.false_and]
          exact hf
        · simp only [show decide (st + (l.length : Int) > 1000000) = false from decide_eq_false h7, show decide (st + (l.length : Int) ≤ 1000000) = true from decide_eq_true (by omega), Bool.true_and]
          refine Ev.step (f := fun k => spec_LogOk.l0 k t 0 st t l) (fun k => by simp only [spec_LogOk.j0, Bool.false_eq_true, if_false]) ?_
          exact spec_terms l hl hx st t l.length 0 t (by omega) (by omega)
theorem impl_terms (l : List S28) (hl : l.length ≤ 2000000) (hx : ∀ x ∈ l, x.f2.size ≤ 2000000) (st t0 : Int) (hs : -1000 ≤ st ∧ st ≤ 2000000) : ∀ (d j : Nat) (t : Int), l.length - j = d → j ≤ l.length → Ev (fun k => impl_LogOk.l0 k t l (l.length : Int) (j : Int) st t0 l) (termsB t (l.drop j) && restB st t0 l) := by
  intro d
  induction d with
  | zero =>
    intro j t hd hj
    rw [List.drop_of_length_le (by omega)]
    refine Ev.step (f := fun _ => some (restB st t0 l)) (fun k => ?_) (Ev.now _)
    simp only [impl_LogOk.l0]
    rw [if_neg (by omega)]
    unfold impl_isIndex.f impl_isTerm.f restB
    simp only [within_eq, Option.bind_some, w64 (x := st + (l.length : Int)) (by omega) (by omega)]
    by_cases h6 : (l.length : Int) ≤ 60
    · simp only [if_pos h6, decide_eq_true h6]
      cases rng st 0 1000000 <;> cases rng t0 0 100000 <;> simp
    · simp only [if_neg h6, decide_eq_false h6]
      cases rng st 0 1000000 <;> cases rng t0 0 100000 <;> simp
  | succ d ih =>
    intro j t hd hj
    have hjl : j < l.length := by omega
    refine Ev.step (fun k => by simp only [impl_LogOk.l0]; rw [if_pos (by omega), if_pos (by omega), if_pos (by omega), rdE_at hjl, w64 (x := (j : Int) + 1) (by omega) (by omega)]) ?_
    refine Ev.bind (impl_ent l[j].f0 l[j].f1 l[j].f2 (hx _ (List.getElem_mem hjl))) ?_
    rw [List.drop_eq_getElem_cons hjl]
    unfold termsB
    cases he : entB l[j].f0 l[j].f1 l[j].f2 with
    | false => simp only [Bool.false_eq_true, if_false, Bool.false_and]; exact Ev.now _
    | true =>
      simp only [if_true, Bool.true_and]
      by_cases ht : l[j].f0 < t
      · simp only [if_pos ht, show decide (t ≤ l[j].f0) = false from decide_eq_false (by omega), Bool.false_and]
        exact Ev.now _
      · simp only [if_neg ht, show decide (t ≤ l[j].f0) = true from decide_eq_true (by omega), Bool.true_and]
        exact ih (j + 1) _ (by omega) (by omega)
theorem impl_log (st t : Int) (l : List S28) (hs : -1000 ≤ st ∧ st ≤ 2000000) (hl : l.length ≤ 2000000) (hx : ∀ x ∈ l, x.f2.size ≤ 2000000) : Ev (fun k => impl_LogOk.f k st t l) (logB st t l) := by
  have h := impl_terms l hl hx st t hs l.length 0 t (by omega) (by omega)
  rw [List.drop_zero, Bool.and_comm] at h
  exact h

/-! ### logright -/
def subs : Nat → List (List Int)
  | 0 => [[]]
  | n + 1 => subs n ++ (subs n).map (· ++ [((n : Int) + 1)])
theorem subs_len : ∀ (n : Nat) (l : List Int), l ∈ subs n → l.length ≤ n := by
  intro n
  induction n with
  | zero => intro l h; simp [subs] at h; subst h; simp
  | succ n ih =>
    intro l h
    unfold subs at h
    rcases List.mem_append.1 h with h | h
    · have := ih l h; omega
    · obtain ⟨m, hm, rfl⟩ := List.mem_map.1 h
      have := ih m hm
      rw [List.length_append, List.length_singleton]
      omega
theorem subs_conf : ∀ l ∈ subs 4, l.length ≠ 0 → confB l = true := by decide
theorem one_conf : confB [1] = true := by decide
theorem tConfv_loop {b : List Int} (hb : b.length ≤ 1048576) : ∀ (d n : Nat) (l : List Int) (i h : Int), 4 - n = d → n ≤ 4 → l ∈ subs n → Cur b i → Tot (fun k => spec_l05Conf.l0 k l ((n : Int) + 1) b i h) (fun r => confB r.1 = true ∧ Cur b r.2.1) := by
  intro d
  induction d with
  | zero =>
    intro n l i h hd h5 hl hi
    obtain rfl : n = 4 := by omega
    have hlen := subs_len _ _ hl
    refine Tot.step (fun k => rfl) ?_
    simp only [spec_l05Conf.l0, if_neg (show ¬ ((4 : Nat) : Int) + 1 ≤ 4 by omega)]
    by_cases h0 : (l.length : Int) = 0
    · have hn : l = [] := List.length_eq_zero_iff.1 (by omega)
      subst hn
      simp only [if_pos h0, if_pos (show ([] : List Int).length < 17592186044416 by simp)]
      exact Tot.ret _ ⟨one_conf, hi⟩
    · simp only [if_neg h0]
      exact Tot.ret _ ⟨subs_conf l hl (by omega), hi⟩
  | succ d ih =>
    intro n l i h hd h5 hl hi
    have hlen := subs_len _ _ hl
    refine Tot.step (fun k => rfl) ?_
    simp only [spec_l05Conf.l0, if_pos (show (n : Int) + 1 ≤ 4 by omega)]
    refine Tot.bind (tOnce h 2 hb hi) fun r hr => ?_
    have e : wrap64 ((n : Int) + 1 + 1) = ((n + 1 : Nat) : Int) + 1 := by rw [w64 (by omega) (by omega)]; omega
    by_cases hr1 : r.1 = true
    · simp only [if_pos hr1, if_pos (show l.length < 17592186044416 by omega), e]
      exact ih (n + 1) _ _ _ (by omega) (by omega) (by unfold subs; exact List.mem_append.2 (.inr (List.mem_map.2 ⟨l, hl, rfl⟩))) hr
    · simp only [if_neg hr1, e]
      exact ih (n + 1) _ _ _ (by omega) (by omega) (by unfold subs; exact List.mem_append.2 (.inl hl)) hr
theorem tConfv {b : List Int} {i : Int} (h : Int) (hb : b.length ≤ 1048576) (hi : Cur b i) : Tot (fun k => spec_l05Conf.f k b i h) (fun r => confB r.1 = true ∧ Cur b r.2.1) :=
  tConfv_loop hb 4 0 [] i h (by omega) (by omega) (by simp [subs]) hi
theorem tCmdText120 (o t q : Int) (key val : ByteArray) (v : Int) : Tot (fun k => spec_CommandText.f k o t q key val v) (fun r => r.1.size ≤ 120) := by
  obtain ⟨c, hc, hb⟩ := spec_cmd_ev o t q key val v
  refine ⟨_, spec_cmdtext o t q key val v hc hb, ?_⟩
  cases c with
  | false => simp only [Bool.false_eq_true, if_false]; show 0 ≤ 120; omega
  | true =>
    obtain ⟨_, _, _, _, hk, hl⟩ := hb rfl
    simp only [if_true]
    unfold cmdT
    have h1 : (strOfNums [o % 256]).size = 1 := by rw [strOfNums_size]; rfl
    have h2 := varT_size t
    have h3 := varT_size q
    have h4 := shortT_size key
    have h5 := shortT_size val
    have h6 := varT_size v
    simp only [ByteArray.size_append]
    omega
theorem tRight05v {b : List Int} {i : Int} (h t : Int) (ht : 0 ≤ t ∧ t ≤ 100000) (hb : b.length ≤ 1048576) (hi : Cur b i) : Tot (fun k => spec_l05Right.f k b i h t) (fun r => r.1 = t ∧ entB r.1 r.2.1 r.2.2.1 = true ∧ Cur b r.2.2.2.1) := by
  have hrt : rng t 0 100000 = true := rng_iff.2 ht
  unfold spec_l05Right.f
  refine Tot.bind (tPick h _ hb hi (by simp)) fun r hr => ?_
  have hm : r.1 = 1 ∨ r.1 = 2 ∨ r.1 = 3 := by have := hr.1; simp at this; omega
  by_cases h2 : r.1 = 2
  · simp only [if_pos h2]
    refine Tot.bind (tConfv _ hb hr.2) fun q hq => ?_
    have hq4 := conf_len hq.1
    refine Tot.bind (P := fun r => r = confO q.1) ⟨_, spec_conftext q.1 (by omega), rfl⟩ fun u hu => ?_
    subst hu
    refine Tot.ret _ ⟨rfl, ?_, hq.2⟩
    show entB t r.1 (confO q.1).1 = true
    have e : confO q.1 = (confT q.1, true) := by unfold confO; rw [if_pos hq.1]
    unfold entB confR
    rw [hrt, h2, if_neg (by omega), if_pos rfl, e]
    simp only [conf_back hq.1, if_pos hq.1, Bool.and_self]
  · by_cases h3 : r.1 = 3
    · simp only [if_neg h2, if_pos h3]
      refine Tot.bind (tRight16 _ hb hr.2) fun q hq => ?_
      refine Tot.bind (tCmdText120 _ _ _ _ _ _) fun u hu => ?_
      refine Tot.ret _ ⟨rfl, ?_, hq⟩
      show entB t r.1 u.1 = true
      unfold entB
      rw [hrt, h3, if_neg (by omega), if_neg (by omega), if_pos rfl, Bool.true_and, decide_eq_true_eq]
      omega
    · simp only [if_neg h2, if_neg h3]
      refine Tot.ret _ ⟨rfl, ?_, hr.2⟩
      show entB t r.1 (⟨#[]⟩ : ByteArray) = true
      have h1 : r.1 = 1 := by omega
      unfold entB
      rw [hrt, h1, if_pos rfl, Bool.true_and, decide_eq_true_eq]
      exact toList_nil.2 bl_empty
/-- The term of a log's last entry. -/
def lastT (t : Int) (l : List S28) : Int := match l.getLast? with | none => t | some e => e.f0
theorem lastT_snoc (t : Int) (l : List S28) (e : S28) : lastT t (l ++ [e]) = e.f0 := by unfold lastT; simp
theorem lastT_cons (t : Int) (x : S28) (l : List S28) : lastT t (x :: l) = lastT x.f0 l := by
  unfold lastT
  cases l with
  | nil => rfl
  | cons y l =>
    rw [List.getLast?_cons_cons]
    cases h : (y :: l).getLast? with
    | none => simp at h
    | some z => rfl
theorem terms_snoc : ∀ (l : List S28) (t : Int) (e : S28), termsB t l = true → entB e.f0 e.f1 e.f2 = true → lastT t l ≤ e.f0 → termsB t (l ++ [e]) = true := by
  intro l
  induction l with
  | nil =>
    intro t e _ he hl
    have hl : t ≤ e.f0 := hl
    simp [termsB, he, hl]
  | cons x l ih =>
    intro t e h he hl
    rw [lastT_cons] at hl
    unfold termsB at h
    simp only [Bool.and_eq_true] at h
    simp only [List.cons_append, termsB, Bool.and_eq_true]
    exact ⟨h.1, h.2.1, ih x.f0 e h.2.2 he hl⟩
theorem ent_size' {t c : Int} {s : ByteArray} (h : entB t c s = true) : s.size ≤ 1000 := by have := (ent_iff h).2.2; omega
def RightD (b : List Int) (r : Int × Int × List S28 × Int × Int) : Prop := (0 ≤ r.1 ∧ r.1 ≤ 6) ∧ (0 ≤ r.2.1 ∧ r.2.1 ≤ 2) ∧ r.2.2.1.length ≤ 8 ∧ termsB r.2.1 r.2.2.1 = true ∧ (∀ x ∈ r.2.2.1, x.f2.size ≤ 1000) ∧ Cur b r.2.2.2.1
theorem tRight06v_loop {b : List Int} (hb : b.length ≤ 1048576) (st t0 : Int) (hs : 0 ≤ st ∧ st ≤ 6) (h2 : 0 ≤ t0 ∧ t0 ≤ 2) : ∀ (d : Nat) (t x i h : Int) (l : List S28), 8 - x ≤ d → 0 ≤ x → x ≤ 8 → (l.length : Int) ≤ x → 0 ≤ t → t ≤ 2 + 2 * x → termsB t0 l = true → lastT t0 l ≤ t → (∀ y ∈ l, y.f2.size ≤ 1000) → Cur b i → Tot (fun k => spec_l06Right.l0 k t x b i h st t0 l) (RightD b) := by
  intro d
  induction d with
  | zero =>
    intro t x i h l hd h0 h8 hl ht1 ht2 htB htL hx hi
    refine Tot.step (fun k => rfl) ?_
    simp only [spec_l06Right.l0]
    refine Tot.bind (tBelow h 8 hb hi) fun r hr => ?_
    have := hr.1.2.1 (by omega)
    simp only [if_neg (show ¬ x < r.1 by omega)]
    exact Tot.ret _ ⟨hs, h2, by show l.length ≤ 8; omega, htB, hx, hr.2⟩
  | succ d ih =>
    intro t x i h l hd h0 h8 hl ht1 ht2 htB htL hx hi
    refine Tot.step (fun k => rfl) ?_
    simp only [spec_l06Right.l0]
    refine Tot.bind (tBelow h 8 hb hi) fun r hr => ?_
    have hr1 := hr.1.2.1 (by omega)
    by_cases hxr : x < r.1
    · simp only [if_pos hxr]
      refine Tot.bind (tOnce _ 3 hb hr.2) fun q hq => ?_
      by_cases hq1 : q.1 = true
      · simp only [if_pos hq1]
        refine Tot.bind (tBelow _ 2 hb hq) fun u hu => ?_
        have hu1 := hu.1.2.1 (by omega)
        have hu0 := hu.1.1
        have e : wrap64 (wrap64 (t + 1) + u.1) = t + 1 + u.1 := by rw [w64 (x := t + 1) (by omega) (by omega), w64 (by omega) (by omega)]
        simp only [e]
        refine Tot.bind (tRight05v _ (t + 1 + u.1) (by omega) hb hu.2) fun v hv => ?_
        simp only [if_pos (show l.length < 4398046511104 by omega), w64 (x := x + 1) (by omega) (by omega)]
        obtain ⟨hv1, hv2, hv3⟩ := hv
        refine ih _ _ _ _ _ (by omega) (by omega) (by omega) (by rw [List.length_append, List.length_singleton]; omega) (by omega) (by omega) (terms_snoc _ _ _ htB hv2 (by show lastT t0 l ≤ v.1; omega)) ?_ (all_snoc hx (ent_size' hv2)) hv3
        rw [lastT_snoc]
        show v.1 ≤ _
        omega
      · simp only [if_neg hq1]
        refine Tot.bind (tRight05v _ t (by omega) hb hq) fun v hv => ?_
        simp only [if_pos (show l.length < 4398046511104 by omega), w64 (x := x + 1) (by omega) (by omega)]
        obtain ⟨hv1, hv2, hv3⟩ := hv
        refine ih _ _ _ _ _ (by omega) (by omega) (by omega) (by rw [List.length_append, List.length_singleton]; omega) (by omega) (by omega) (terms_snoc _ _ _ htB hv2 (by show lastT t0 l ≤ v.1; omega)) ?_ (all_snoc hx (ent_size' hv2)) hv3
        rw [lastT_snoc]
        show v.1 ≤ _
        omega
    · simp only [if_neg hxr]
      exact Tot.ret _ ⟨hs, h2, by show l.length ≤ 8; omega, htB, hx, hr.2⟩
theorem tRight06v {b : List Int} {i : Int} (h : Int) (hb : b.length ≤ 1048576) (hi : Cur b i) : Tot (fun k => spec_l06Right.f k b i h) (RightD b) := by
  unfold spec_l06Right.f
  refine Tot.bind (tBelow h 3 hb hi) fun r hr => ?_
  refine Tot.bind (tBelow _ 4 hb hr.2) fun q hq => ?_
  refine Tot.bind (tBelow _ 3 hb hq.2) fun u hu => ?_
  have h1 := hr.1.2.1 (by omega)
  have h2 := hq.1.2.1 (by omega)
  have h5 := hu.1.2.1 (by omega)
  have h6 := hu.1.1
  have h3 : 0 ≤ r.1 * q.1 := Int.mul_nonneg hr.1.1 hq.1.1
  have h4 : r.1 * q.1 ≤ 2 * 3 := Int.mul_le_mul (by omega) (by omega) hq.1.1 (by omega)
  rw [w64 (x := r.1 * q.1) (by omega) (by omega)]
  exact tRight06v_loop hb (r.1 * q.1) u.1 (by omega) (by omega) 8 u.1 0 _ _ [] (by omega) (by omega) (by omega) (by simp) (by omega) (by omega) rfl (by show u.1 ≤ u.1; omega) (by simp) hu.2

/-! ### logterm -/
/-- The term of a log at an index. -/
def termO (st t : Int) (l : List S28) (i : Int) : Int := if i = st then t else if st < i ∧ i - st ≤ l.length then (rd_T28 l (i - st - 1)).f0 else -1
theorem spec_term (st t : Int) (l : List S28) (i : Int) (hs : -1000 ≤ st ∧ st ≤ 2000000) (hl : l.length ≤ 2000000) (hi : -100000000 ≤ i ∧ i ≤ 100000000) : spec_LogTerm.f st t l i = some (termO st t l i) := by
  unfold spec_LogTerm.f termO spec_l06Last.f
  simp only [Option.bind_some]
  rw [w64 (x := st + (l.length : Int)) (by omega) (by omega), w64 (x := i - st) (by omega) (by omega), w64 (x := i - st - 1) (by omega) (by omega)]
  by_cases h0 : i = st
  · rw [if_pos h0, if_pos h0]
  · rw [if_neg h0, if_neg h0]
    by_cases h1 : i < st
    · rw [if_pos h1, if_neg (by omega)]
    · rw [if_neg h1]
      by_cases h2 : i > st + (l.length : Int)
      · rw [if_pos h2, if_neg (by omega)]
      · rw [if_neg h2, if_pos (by omega), if_pos (by omega), if_pos (by omega)]
theorem impl_term (st t : Int) (l : List S28) (i : Int) (hs : -1000 ≤ st ∧ st ≤ 2000000) (hl : l.length ≤ 2000000) (hi : -100000000 ≤ i ∧ i ≤ 100000000) : impl_LogTerm.f st t l i = some (termO st t l i) := by
  unfold impl_LogTerm.f termO
  rw [w64 (x := i - st) (by omega) (by omega), w64 (x := i - st - 1) (by omega) (by omega)]
  by_cases h0 : i = st
  · rw [if_pos h0, if_pos h0]
  · rw [if_neg h0, if_neg h0]
    by_cases h1 : i > st
    · rw [if_pos h1]
      by_cases h2 : i - st ≤ (l.length : Int)
      · rw [if_pos h2, if_pos (by omega), if_pos (by omega), if_pos (by omega)]
      · rw [if_neg h2, if_neg (by omega)]
    · rw [if_neg h1, if_neg (by omega)]
theorem terms_mem : ∀ (l : List S28) (t : Int), termsB t l = true → ∀ x ∈ l, 0 ≤ x.f0 ∧ x.f0 ≤ 100000 := by
  intro l
  induction l with
  | nil => intro t _ x hx; cases hx
  | cons y l ih =>
    intro t h x hx
    unfold termsB at h
    simp only [Bool.and_eq_true] at h
    rcases List.mem_cons.1 hx with rfl | hx
    · exact (ent_iff h.1).1
    · exact ih _ h.2.2 x hx
theorem rdE_mem {l : List S28} {j : Int} (h0 : 0 ≤ j) (h1 : j < l.length) : rd_T28 l j ∈ l := by
  obtain ⟨n, rfl⟩ := Int.eq_ofNat_of_zero_le h0
  rw [rdE_at (by omega)]
  exact List.getElem_mem _
theorem termO_pos {st t : Int} {l : List S28} (ht : 0 ≤ t ∧ t ≤ 100000) (hB : termsB t l = true) {i : Int} (h0 : st ≤ i) (h1 : i ≤ st + l.length) : 0 ≤ termO st t l i ∧ termO st t l i ≤ 100000 := by
  unfold termO
  by_cases h : i = st
  · rw [if_pos h]; exact ht
  · rw [if_neg h, if_pos (by omega)]
    exact terms_mem l t hB _ (rdE_mem (by omega) (by omega))
theorem termO_neg {st t : Int} {l : List S28} {i : Int} (h : i < st ∨ i > st + l.length) : termO st t l i = -1 := by
  unfold termO
  rw [if_neg (by omega), if_neg (by omega)]
/-- What is behind an entry of a right log is right. -/
theorem terms_drop (st : Int) : ∀ (m : Nat) (l : List S28) (t : Int), m ≤ l.length → termsB t l = true → termsB (termO st t l (st + m)) (l.drop m) = true := by
  intro m
  induction m with
  | zero =>
    intro l t hm h
    unfold termO
    rw [if_pos (by omega)]
    exact h
  | succ m ih =>
    intro l t hm h
    cases l with
    | nil => simp at hm
    | cons y l =>
      unfold termsB at h
      simp only [Bool.and_eq_true] at h
      have hm' : m ≤ l.length := by simpa using hm
      have := ih l y.f0 hm' h.2.2
      rw [List.drop_succ_cons]
      have e : termO st t (y :: l) (st + ((m + 1 : Nat) : Int)) = termO st y.f0 l (st + (m : Int)) := by
        unfold termO
        rw [if_neg (by omega), if_pos (by rw [List.length_cons]; omega), show st + ((m + 1 : Nat) : Int) - st - 1 = (m : Int) by omega, rdE_at (show m < (y :: l).length by rw [List.length_cons]; omega)]
        cases m with
        | zero => rw [if_pos (by omega)]; rfl
        | succ m =>
          rw [if_neg (by omega), if_pos (by omega), show st + ((m + 1 : Nat) : Int) - st - 1 = (m : Int) by omega, rdE_at (show m < l.length by omega)]
          rfl
      rw [e]
      exact this
theorem spec_behind (st t : Int) (l : List S28) (i : Int) (hs : -1000 ≤ st ∧ st ≤ 2000000) (hl : l.length ≤ 1000000) (hx : ∀ x ∈ l, x.f2.size ≤ 1000) (hi : -100000000 ≤ i ∧ i ≤ 100000000) (q : Int) : Tot (fun k => spec_LogBehind.f k st t l i q) (fun r => r.1 = i ∧ r.2.2.length ≤ l.length ∧ ∀ x ∈ r.2.2, x.f2.size ≤ 1000) := by
  unfold spec_LogBehind.f
  refine Tot.bind (P := fun _ => True) ⟨_, spec_log st t l hs (by omega) (fun x h => by have := hx x h; omega), trivial⟩ fun b _ => ?_
  have hno : Tot (fun _ : Nat => some (i, q, ([] : List S28))) (fun r => r.1 = i ∧ r.2.2.length ≤ l.length ∧ ∀ x ∈ r.2.2, x.f2.size ≤ 1000) := Tot.ret _ ⟨rfl, by show 0 ≤ l.length; omega, by simp⟩
  by_cases hb : b = true
  · unfold spec_l06Last.f
    simp only [if_pos hb, Option.bind_some, in_eq, spec_term st t l i hs (by omega) hi, w64 (x := st + (l.length : Int)) (by omega) (by omega)]
    by_cases hr : rng i st (st + l.length) = true
    · simp only [if_pos hr]
      rw [rng_iff] at hr
      by_cases hq : termO st t l i = q
      · simp only [if_pos hq, w64 (x := i - st) (by omega) (by omega), if_pos (show 0 ≤ i - st by omega), if_pos (show i - st ≤ (l.length : Int) by omega)]
        have h1 : ([] : List S28).length + (l.drop (i - st).toNat).length < 4398046511104 := by rw [List.length_drop, List.length_nil]; omega
        simp only [if_pos h1]
        exact Tot.ret _ ⟨rfl, by show (l.drop (i - st).toNat).length ≤ l.length; rw [List.length_drop]; omega, fun x h => hx x (List.mem_of_mem_drop h)⟩
      · simp only [if_neg hq]; exact hno
    · simp only [if_neg hr]; exact hno
  · simp only [if_neg hb]; exact hno
theorem impl_behind (st t : Int) (l : List S28) (m : Nat) (hB : logB st t l = true) (hm : m ≤ l.length) (hx : ∀ x ∈ l, x.f2.size ≤ 1000) : Ev (fun k => impl_LogBehind.f k st t l (st + m) (termO st t l (st + m))) (st + m, termO st t l (st + m), l.drop m) := by
  have h := hB
  unfold logB restB at h
  simp only [Bool.and_eq_true, rng_iff, decide_eq_true_eq] at h
  obtain ⟨⟨h1, h2, h3, h4⟩, h5⟩ := h
  have hp := termO_pos h2 h5 (st := st) (i := st + m) (by omega) (by omega)
  have e := impl_log st t l (by omega) (by omega) (fun x h => by have := hx x h; omega)
  rw [hB] at e
  unfold impl_LogBehind.f
  refine Ev.bind e ?_
  have hge : termO st t l (st + m) ≥ 0 := hp.1
  have hw : wrap64 (st + (m : Int) - st) = (m : Int) := by rw [w64 (by omega) (by omega)]; omega
  simp only [if_true, impl_term st t l (st + m) (by omega) (by omega) (by omega), Option.bind_some, if_pos hge, hw, if_pos (show (0 : Int) ≤ (m : Int) by omega), if_pos (show (m : Int) ≤ (l.length : Int) by omega), Int.toNat_natCast]
  have hd : ([] : List S28).length + (l.drop m).length < 4398046511104 := by rw [List.length_drop, List.length_nil]; omega
  simp only [if_pos hd, List.nil_append]
  exact Ev.now _
theorem log_drop {st t : Int} {l : List S28} {m : Nat} (hB : logB st t l = true) (hm : m ≤ l.length) : logB (st + m) (termO st t l (st + m)) (l.drop m) = true := by
  unfold logB restB at hB ⊢
  simp only [Bool.and_eq_true, rng_iff, decide_eq_true_eq] at hB ⊢
  obtain ⟨⟨h1, h2, h3, h4⟩, h5⟩ := hB
  have hp := termO_pos h2 h5 (st := st) (i := st + m) (by omega) (by omega)
  rw [List.length_drop]
  exact ⟨⟨by omega, hp, by omega, by omega⟩, terms_drop st m l t hm h5⟩
theorem last_term (st t : Int) (l : List S28) (hs : -1000 ≤ st ∧ st ≤ 2000000) (hl : l.length ≤ 2000000) : impl_LogLast.f st t l = some (st + (l.length : Int), termO st t l (st + l.length)) := by
  unfold impl_LogLast.f termO
  by_cases h : (l.length : Int) = 0
  · rw [if_pos h, if_pos (by omega), h, Int.add_zero]
  · rw [if_neg h, w64 (x := (l.length : Int) - 1) (by omega) (by omega), if_pos (by omega), if_pos (by omega), w64 (x := st + (l.length : Int)) (by omega) (by omega), if_neg (by omega), if_pos (by omega), show st + (l.length : Int) - st - 1 = (l.length : Int) - 1 by omega]
/-- The last of what is behind an entry is the log's last. -/
theorem last_drop (st t : Int) (l : List S28) (m : Nat) (hm : m ≤ l.length) : termO (st + m) (termO st t l (st + m)) (l.drop m) (st + m + (l.drop m).length) = termO st t l (st + l.length) := by
  have hd : (l.drop m).length = l.length - m := List.length_drop
  rw [hd]
  by_cases h : m = l.length
  · subst h
    unfold termO
    rw [if_pos (by omega)]
  · conv => lhs; unfold termO
    rw [if_neg (by omega), if_pos (by rw [hd]; omega), show st + (m : Int) + ((l.length - m : Nat) : Int) - (st + (m : Int)) - 1 = ((l.length - m - 1 : Nat) : Int) by omega, rdE_at (show l.length - m - 1 < (l.drop m).length by rw [hd]; omega)]
    unfold termO
    rw [if_neg (by omega), if_pos (by omega), show st + (l.length : Int) - st - 1 = ((l.length - 1 : Nat) : Int) by omega, rdE_at (show l.length - 1 < l.length by omega), List.getElem_drop]
    congr 2
    omega

/-! ### shared -/
def sameE (x y : S28) : Bool := x.f0 == y.f0 && (x.f1 == y.f1 && x.f2.toList == y.f2.toList)
theorem sameE_comm (x y : S28) : sameE x y = sameE y x := by unfold sameE; rw [BEq.comm (a := x.f0), BEq.comm (a := x.f1), BEq.comm (a := x.f2.toList)]
theorem sameE_refl (x : S28) : sameE x x = true := by unfold sameE; simp
theorem sameE_f0 {x y : S28} (h : sameE x y = true) : x.f0 = y.f0 := by unfold sameE at h; simp only [Bool.and_eq_true, beq_iff_eq] at h; exact h.1
def cS (sa : Int) (la : List S28) (sb : Int) (lb : List S28) (i : Int) : Bool := decide (i < sa + la.length) && (decide (i < sb + lb.length) && sameE (rd_T28 la (i - sa)) (rd_T28 lb (i - sb)))
theorem cS_comm (sa : Int) (la : List S28) (sb : Int) (lb : List S28) : cS sb lb sa la = cS sa la sb lb := by
  funext i
  unfold cS
  rw [sameE_comm]
  cases decide (i < sb + (lb.length : Int)) <;> cases decide (i < sa + (la.length : Int)) <;> rfl
def shN (c : Int → Bool) : Nat → Int → Int
  | 0, i => i
  | d + 1, i => if c i = true then shN c d (i + 1) else i
theorem shN_le {c : Int → Bool} {L : Int} (hc : ∀ i, c i = true → i < L) : ∀ (d : Nat) (i : Int), i ≤ L → shN c d i ≤ L := by
  intro d
  induction d with
  | zero => intro i h; exact h
  | succ d ih =>
    intro i h
    unfold shN
    by_cases hi : c i = true
    · rw [if_pos hi]; exact ih _ (by have := hc i hi; omega)
    · rw [if_neg hi]; exact h
theorem shN_all {c : Int → Bool} : ∀ (d : Nat) (a i : Int), a ≤ i → i < shN c d a → c i = true := by
  intro d
  induction d with
  | zero => intro a i h1 h2; unfold shN at h2; omega
  | succ d ih =>
    intro a i h1 h2
    unfold shN at h2
    by_cases hi : c a = true
    · rw [if_pos hi] at h2
      by_cases he : i = a
      · subst he; exact hi
      · exact ih (a + 1) i (by omega) h2
    · rw [if_neg hi] at h2; omega
theorem shN_full {c : Int → Bool} {L : Int} (hL : c L = false) : ∀ (d : Nat) (a : Int), L - a ≤ d → a ≤ L → (∀ i, a ≤ i → i < L → c i = true) → shN c d a = L := by
  intro d
  induction d with
  | zero => intro a h1 h2 _; unfold shN; omega
  | succ d ih =>
    intro a h1 h2 h3
    unfold shN
    by_cases he : a = L
    · subst he; rw [hL, if_neg (by simp)]
    · rw [if_pos (h3 a (by omega) (by omega))]
      exact ih (a + 1) (by omega) (by omega) (fun i h4 h5 => h3 i (by omega) h5)
theorem spec_sh_loop (sa ta : Int) (la : List S28) (sb tb : Int) (lb : List S28) (ha : 0 ≤ sa ∧ sa ≤ 1000000) (hla : la.length ≤ 1000) (hbb : 0 ≤ sb ∧ sb ≤ 1000000) (hlb : lb.length ≤ 1000) : ∀ (d : Nat) (i : Int), sa + la.length - i ≤ d → sa ≤ i → sb ≤ i → i ≤ 3000000 → Ev (fun k => spec_Shared.l0 k i sa ta la sb tb lb) (shN (cS sa la sb lb) d i) := by
  have hstep : ∀ i : Int, sa ≤ i → sb ≤ i → i ≤ 3000000 → ∀ k, spec_Shared.l0 (k + 1) i sa ta la sb tb lb = if cS sa la sb lb i = true then spec_Shared.l0 k (i + 1) sa ta la sb tb lb else some i := by
    intro i h1 h2 h3 k
    simp only [spec_Shared.l0, spec_l06Last.f, Option.bind_some]
    unfold cS sameE
    rw [w64 (x := sa + (la.length : Int)) (by omega) (by omega), w64 (x := sb + (lb.length : Int)) (by omega) (by omega), w64 (x := i - sa) (by omega) (by omega), w64 (x := i - sb) (by omega) (by omega), w64 (x := i + 1) (by omega) (by omega)]
    by_cases g1 : i < sa + (la.length : Int)
    · by_cases g2 : i < sb + (lb.length : Int)
      · rw [if_pos g1, if_pos g2, if_pos (by omega), if_pos (by omega), if_pos (by omega), if_pos (by omega), decide_eq_true g1, decide_eq_true g2, Bool.true_and, Bool.true_and]
      · rw [if_pos g1, if_neg g2, decide_eq_false g2, Bool.false_and, Bool.and_false, if_neg (by simp)]
    · rw [if_neg g1, decide_eq_false g1, Bool.false_and, if_neg (by simp)]
  intro d
  induction d with
  | zero =>
    intro i hd h1 h2 h3
    refine Ev.step (f := fun _ => some i) (fun k => ?_) (Ev.now _)
    rw [hstep i h1 h2 h3 k]
    unfold cS
    rw [decide_eq_false (show ¬ i < sa + (la.length : Int) by omega), Bool.false_and, if_neg (by simp)]
  | succ d ih =>
    intro i hd h1 h2 h3
    refine Ev.step (hstep i h1 h2 h3) ?_
    unfold shN
    by_cases hc : cS sa la sb lb i = true
    · simp only [if_pos hc]
      have : i < sa + (la.length : Int) := by unfold cS at hc; rw [Bool.and_eq_true, decide_eq_true_eq] at hc; exact hc.1
      exact ih (i + 1) (by omega) (by omega) (by omega) (by omega)
    · simp only [if_neg hc]; exact Ev.now _
theorem impl_sh_loop (sa ta : Int) (la : List S28) (sb tb : Int) (lb : List S28) (hA : logB sa ta la = true) (hB : logB sb tb lb = true) : ∀ (d : Nat) (i : Int), sa + la.length - i ≤ d → sa ≤ i → sb ≤ i → i ≤ 3000000 → Ev (fun k => impl_Shared.l0 k i (i + 1) sa ta la sb tb lb) (shN (cS sa la sb lb) d i) := by
  unfold logB restB at hA hB
  simp only [Bool.and_eq_true, rng_iff, decide_eq_true_eq] at hA hB
  obtain ⟨⟨a1, a2, a3, a4⟩, a5⟩ := hA
  obtain ⟨⟨b1, b2, b3, b4⟩, b5⟩ := hB
  have hstep : ∀ i : Int, sa ≤ i → sb ≤ i → i ≤ 3000000 → ∀ k, impl_Shared.l0 (k + 1 + 1) i (i + 1) sa ta la sb tb lb = if cS sa la sb lb i = true then impl_Shared.l0 k (i + 1) (i + 1 + 1) sa ta la sb tb lb else some i := by
    intro i h1 h2 h3 k
    rw [impl_Shared.l0, impl_term sa ta la (i + 1) (by omega) (by omega) (by omega), Option.bind_some, impl_term sb tb lb (i + 1) (by omega) (by omega) (by omega), Option.bind_some]
    unfold cS
    by_cases g1 : i < sa + (la.length : Int)
    · have p1 := (termO_pos a2 a5 (st := sa) (i := i + 1) (by omega) (by omega)).1
      by_cases g2 : i < sb + (lb.length : Int)
      · have p2 := (termO_pos b2 b5 (st := sb) (i := i + 1) (by omega) (by omega)).1
        rw [if_pos (show termO sa ta la (i + 1) ≥ 0 from p1), decide_eq_true (show termO sb tb lb (i + 1) ≥ 0 from p2), impl_Shared.j3, if_pos rfl]
        rw [show wrap64 (wrap64 (i + 1 - sa) - 1) = i - sa by rw [w64 (x := i + 1 - sa) (by omega) (by omega), w64 (by omega) (by omega)]; omega, show wrap64 (wrap64 (i + 1 - sb) - 1) = i - sb by rw [w64 (x := i + 1 - sb) (by omega) (by omega), w64 (by omega) (by omega)]; omega, w64 (x := i + 1 + 1) (by omega) (by omega)]
        rw [if_pos (by omega), if_pos (by omega), if_pos (by omega), if_pos (by omega), decide_eq_true g1, decide_eq_true g2, Bool.true_and, Bool.true_and]
        unfold sameE
        cases (rd_T28 la (i - sa)).f0 == (rd_T28 lb (i - sb)).f0 <;> cases (rd_T28 la (i - sa)).f1 == (rd_T28 lb (i - sb)).f1 <;> cases (rd_T28 la (i - sa)).f2.toList == (rd_T28 lb (i - sb)).f2.toList <;> simp
      · rw [if_pos (show termO sa ta la (i + 1) ≥ 0 from p1), termO_neg (st := sb) (i := i + 1) (.inr (by omega)), impl_Shared.j3, if_neg (by simp), decide_eq_false g2, Bool.false_and, Bool.and_false, if_neg (by simp)]
    · rw [termO_neg (st := sa) (i := i + 1) (.inr (by omega)), if_neg (by omega), impl_Shared.j3, if_neg (by simp), decide_eq_false g1, Bool.false_and, if_neg (by simp)]
  intro d
  induction d with
  | zero =>
    intro i hd h1 h2 h3
    refine ⟨2, fun k hk => ?_⟩
    obtain ⟨k, rfl⟩ : ∃ m, k = m + 1 + 1 := ⟨k - 2, by omega⟩
    refine (hstep i h1 h2 h3 k).trans ?_
    unfold cS
    rw [decide_eq_false (show ¬ i < sa + (la.length : Int) by omega), Bool.false_and, if_neg (by simp)]
    rfl
  | succ d ih =>
    intro i hd h1 h2 h3
    unfold shN
    by_cases hc : cS sa la sb lb i = true
    · have : i < sa + (la.length : Int) := by unfold cS at hc; rw [Bool.and_eq_true, decide_eq_true_eq] at hc; exact hc.1
      obtain ⟨K, hK⟩ := ih (i + 1) (by omega) (by omega) (by omega) (by omega)
      refine ⟨K + 2, fun k hk => ?_⟩
      obtain ⟨k, rfl⟩ : ∃ m, k = m + 1 + 1 := ⟨k - 2, by omega⟩
      refine (hstep i h1 h2 h3 k).trans ?_
      rw [if_pos hc, if_pos hc]
      exact hK k (by omega)
    · refine ⟨2, fun k hk => ?_⟩
      obtain ⟨k, rfl⟩ : ∃ m, k = m + 1 + 1 := ⟨k - 2, by omega⟩
      refine (hstep i h1 h2 h3 k).trans ?_
      rw [if_neg hc, if_neg hc]
def shF (sa sb : Int) : Int := if sb > sa then sb else sa
def shO (sa ta : Int) (la : List S28) (sb tb : Int) (lb : List S28) : Int :=
  if logB sa ta la = true ∧ logB sb tb lb = true then (if termO sa ta la (shF sa sb) < 0 then -1 else if termO sa ta la (shF sa sb) = termO sb tb lb (shF sa sb) then shN (cS sa la sb lb) 100 (shF sa sb) else -1) else -1
theorem shF_ge (sa sb : Int) : sa ≤ shF sa sb ∧ sb ≤ shF sa sb ∧ (shF sa sb = sa ∨ shF sa sb = sb) := by unfold shF; split <;> omega
theorem shF_comm (sa sb : Int) : shF sb sa = shF sa sb := by unfold shF; split <;> split <;> omega
theorem shO_comm (sa ta : Int) (la : List S28) (sb tb : Int) (lb : List S28) : shO sb tb lb sa ta la = shO sa ta la sb tb lb := by
  unfold shO
  rw [shF_comm, cS_comm]
  by_cases h : logB sa ta la = true ∧ logB sb tb lb = true
  · rw [if_pos h, if_pos ⟨h.2, h.1⟩]
    by_cases h1 : termO sa ta la (shF sa sb) < 0
    · rw [if_pos h1]
      by_cases h2 : termO sb tb lb (shF sa sb) < 0
      · rw [if_pos h2]
      · rw [if_neg h2, if_neg (by omega)]
    · rw [if_neg h1]
      by_cases h2 : termO sb tb lb (shF sa sb) < 0
      · rw [if_pos h2, if_neg (by omega)]
      · rw [if_neg h2]
        by_cases h3 : termO sa ta la (shF sa sb) = termO sb tb lb (shF sa sb)
        · rw [if_pos h3, if_pos h3.symm]
        · rw [if_neg h3, if_neg (fun e => h3 e.symm)]
  · rw [if_neg h, if_neg (fun e => h ⟨e.2, e.1⟩)]
theorem spec_shared (sa ta : Int) (la : List S28) (sb tb : Int) (lb : List S28) (ha : -1000 ≤ sa ∧ sa ≤ 2000000) (hla : la.length ≤ 1000) (hxa : ∀ x ∈ la, x.f2.size ≤ 2000000) (hbb : -1000 ≤ sb ∧ sb ≤ 2000000) (hlb : lb.length ≤ 1000) (hxb : ∀ x ∈ lb, x.f2.size ≤ 2000000) : Ev (fun k => spec_Shared.f k sa ta la sb tb lb) (shO sa ta la sb tb lb) := by
  have hf : Ev (fun k => spec_Shared.j0 k true sa ta la sb tb lb) (-1) := Ev.step (f := fun _ => some (-1)) (fun k => by simp only [spec_Shared.j0, if_true]) (Ev.now _)
  unfold spec_Shared.f shO
  refine Ev.bind (spec_log sa ta la ha (by omega) hxa) ?_
  cases hA : logB sa ta la with
  | false => simp only [Bool.false_eq_true, if_false, false_and]; exact hf
  | true =>
    simp only [if_true, true_and]
    refine Ev.bind (spec_log sb tb lb hbb (by omega) hxb) ?_
    cases hB : logB sb tb lb with
    | false => simp only [Bool.not_false, Bool.false_eq_true, if_false]; exact hf
    | true =>
      simp only [Bool.not_true, if_true]
      unfold logB restB at hA hB
      simp only [Bool.and_eq_true, rng_iff, decide_eq_true_eq] at hA hB
      have hs := shF_ge sa sb
      refine Ev.step (f := fun k => spec_Shared.j1 k (shF sa sb) sa ta la sb tb lb) (fun k => ?_) ?_
      · simp only [spec_Shared.j0, Bool.false_eq_true, if_false]
        unfold shF
        split <;> rfl
      · by_cases h1 : termO sa ta la (shF sa sb) < 0
        · rw [if_pos h1]
          refine Ev.step (f := fun k => spec_Shared.j2 k (shF sa sb) true sa ta la sb tb lb) (fun k => by simp only [spec_Shared.j1]; rw [spec_term sa ta la _ ha (by omega) (by omega), Option.bind_some, if_pos h1]) ?_
          exact Ev.step (f := fun _ => some (-1)) (fun k => by simp only [spec_Shared.j2, if_true]) (Ev.now _)
        · rw [if_neg h1]
          refine Ev.step (f := fun k => spec_Shared.j2 k (shF sa sb) (termO sa ta la (shF sa sb) != termO sb tb lb (shF sa sb)) sa ta la sb tb lb) (fun k => by simp only [spec_Shared.j1]; rw [spec_term sa ta la _ ha (by omega) (by omega), Option.bind_some, if_neg h1, Option.bind_some, spec_term sb tb lb _ hbb (by omega) (by omega), Option.bind_some]) ?_
          by_cases h2 : termO sa ta la (shF sa sb) = termO sb tb lb (shF sa sb)
          · rw [if_pos h2, h2, bne_self_eq_false]
            refine Ev.step (f := fun k => spec_Shared.l0 k (shF sa sb) sa ta la sb tb lb) (fun k => by simp only [spec_Shared.j2, Bool.false_eq_true, if_false]) ?_
            exact spec_sh_loop sa ta la sb tb lb (by omega) hla (by omega) hlb 100 _ (by omega) (by omega) (by omega) (by omega)
          · rw [if_neg h2, bne_iff_ne.2 h2]
            exact Ev.step (f := fun _ => some (-1)) (fun k => by simp only [spec_Shared.j2, if_true]) (Ev.now _)
theorem impl_shared (sa ta : Int) (la : List S28) (sb tb : Int) (lb : List S28) (ha : -1000 ≤ sa ∧ sa ≤ 2000000) (hla : la.length ≤ 1000) (hxa : ∀ x ∈ la, x.f2.size ≤ 2000000) (hbb : -1000 ≤ sb ∧ sb ≤ 2000000) (hlb : lb.length ≤ 1000) (hxb : ∀ x ∈ lb, x.f2.size ≤ 2000000) : Ev (fun k => impl_Shared.f k sa ta la sb tb lb) (shO sa ta la sb tb lb) := by
  have hf : Ev (fun k => impl_Shared.j0 k true sa ta la sb tb lb) (-1) := Ev.step (f := fun _ => some (-1)) (fun k => by simp only [impl_Shared.j0, if_true]) (Ev.now _)
  have hm : mx sa sb = shF sa sb := by unfold mx shF; split <;> (try split) <;> omega
  unfold impl_Shared.f shO
  refine Ev.bind (impl_log sa ta la ha (by omega) hxa) ?_
  cases hA : logB sa ta la with
  | false => simp only [Bool.false_eq_true, if_false, false_and]; exact hf
  | true =>
    simp only [if_true, true_and]
    refine Ev.bind (impl_log sb tb lb hbb (by omega) hxb) ?_
    cases hB : logB sb tb lb with
    | false => simp only [Bool.not_false, Bool.false_eq_true, if_false]; exact hf
    | true =>
      simp only [Bool.not_true, if_true]
      have hA' := hA
      have hB' := hB
      unfold logB restB at hA hB
      simp only [Bool.and_eq_true, rng_iff, decide_eq_true_eq] at hA hB
      have hs := shF_ge sa sb
      by_cases h1 : termO sa ta la (shF sa sb) < 0
      · rw [if_pos h1]
        refine Ev.step (f := fun k => impl_Shared.j1 k (shF sa sb) (shF sa sb) true sa ta la sb tb lb) (fun k => by simp only [impl_Shared.j0, Bool.false_eq_true, if_false]; rw [hm, impl_term sa ta la _ ha (by omega) (by omega), Option.bind_some, if_pos h1]) ?_
        exact Ev.step (f := fun _ => some (-1)) (fun k => by simp only [impl_Shared.j1, if_true]) (Ev.now _)
      · rw [if_neg h1]
        refine Ev.step (f := fun k => impl_Shared.j1 k (shF sa sb) (shF sa sb) (termO sa ta la (shF sa sb) != termO sb tb lb (shF sa sb)) sa ta la sb tb lb) (fun k => by simp only [impl_Shared.j0, Bool.false_eq_true, if_false]; rw [hm, impl_term sa ta la _ ha (by omega) (by omega), Option.bind_some, if_neg h1, Option.bind_some, impl_term sb tb lb _ hbb (by omega) (by omega), Option.bind_some]) ?_
        by_cases h2 : termO sa ta la (shF sa sb) = termO sb tb lb (shF sa sb)
        · rw [if_pos h2, h2, bne_self_eq_false]
          refine Ev.step (f := fun k => impl_Shared.l0 k (shF sa sb) (shF sa sb + 1) sa ta la sb tb lb) (fun k => by simp only [impl_Shared.j1, Bool.false_eq_true, if_false]; rw [w64 (x := shF sa sb + 1) (by omega) (by omega)]) ?_
          exact impl_sh_loop sa ta la sb tb lb hA' hB' 100 _ (by omega) (by omega) (by omega) (by omega)
        · rw [if_neg h2, bne_iff_ne.2 h2]
          exact Ev.step (f := fun _ => some (-1)) (fun k => by simp only [impl_Shared.j1, if_true]) (Ev.now _)
theorem shO_self {s t : Int} {l : List S28} (hB : logB s t l = true) : shO s t l s t l = s + l.length := by
  have h := hB
  unfold logB restB at h
  simp only [Bool.and_eq_true, rng_iff, decide_eq_true_eq] at h
  have hF : shF s s = s := by unfold shF; split <;> rfl
  have hp := termO_pos h.1.2.1 h.2 (st := s) (i := s) (by omega) (by omega)
  unfold shO
  rw [if_pos ⟨hB, hB⟩, hF, if_neg (by omega), if_pos rfl]
  refine shN_full ?_ 100 s (by omega) (by omega) ?_
  · unfold cS; rw [decide_eq_false (by omega)]; rfl
  · intro i h1 h2
    unfold cS
    rw [decide_eq_true h2, sameE_refl]
    rfl
theorem shO_props {sa ta : Int} {la : List S28} {sb tb : Int} {lb : List S28} (hA : logB sa ta la = true) : shO sa ta la sb tb lb ≤ sa + la.length ∧ ∀ i, sa < i → sb < i → i ≤ shO sa ta la sb tb lb → termO sa ta la i = termO sb tb lb i := by
  have h := hA
  unfold logB restB at h
  simp only [Bool.and_eq_true, rng_iff, decide_eq_true_eq] at h
  have hs := shF_ge sa sb
  unfold shO
  by_cases g : logB sa ta la = true ∧ logB sb tb lb = true
  · rw [if_pos g]
    by_cases h1 : termO sa ta la (shF sa sb) < 0
    · rw [if_pos h1]; exact ⟨by omega, fun i _ _ _ => by omega⟩
    · rw [if_neg h1]
      by_cases h2 : termO sa ta la (shF sa sb) = termO sb tb lb (shF sa sb)
      · rw [if_pos h2]
        have hle : shF sa sb ≤ sa + la.length := by
          by_cases h3 : sa + (la.length : Int) < shF sa sb
          · exact absurd (termO_neg (t := ta) (l := la) (.inr h3)) (by omega)
          · omega
        refine ⟨shN_le (fun i hi => by unfold cS at hi; rw [Bool.and_eq_true, decide_eq_true_eq] at hi; exact hi.1) 100 _ hle, fun i h3 h4 h5 => ?_⟩
        have hc := shN_all (c := cS sa la sb lb) 100 (shF sa sb) (i - 1) (by omega) (by omega)
        unfold cS at hc
        simp only [Bool.and_eq_true, decide_eq_true_eq] at hc
        unfold termO
        rw [if_neg (show ¬ i = sa by omega), if_neg (show ¬ i = sb by omega), if_pos (show sa < i ∧ i - sa ≤ (la.length : Int) by omega), if_pos (show sb < i ∧ i - sb ≤ (lb.length : Int) by omega)]
        have e := sameE_f0 hc.2.2
        rw [show i - 1 - sa = i - sa - 1 by omega, show i - 1 - sb = i - sb - 1 by omega] at e
        exact e
      · rw [if_neg h2]; exact ⟨by omega, fun i _ _ _ => by omega⟩
  · rw [if_neg g]; exact ⟨by omega, fun i _ _ _ => by omega⟩

/-! ### places -/
theorem places_loop {b : List Int} (hb : b.length ≤ 1048576) : ∀ (d : Nat) (acc : List Int) (j : Int) (i h : Int), Cur b i → (acc.length : Int) = j → 12 - j = d → (∀ x ∈ acc, 0 ≤ x ∧ x < 10000) →
    ∃ p, p.length = 12 ∧ (∀ x ∈ p, 0 ≤ x ∧ x < 10000) ∧ ∀ k, d < k → spec_DrawPlaces.l0 k acc j b i h = some p := by
  intro d
  induction d with
  | zero =>
    intro acc j i h hi hl hd ha
    refine ⟨acc, by omega, ha, fun k hk => ?_⟩
    obtain ⟨k, rfl⟩ : ∃ m, k = m + 1 := ⟨k - 1, by omega⟩
    simp only [spec_DrawPlaces.l0]
    rw [if_neg (by omega)]
  | succ d ih =>
    intro acc j i h hi hl hd ha
    obtain ⟨v, i', h', e, hv, hi'⟩ := below_ok h 10000 hb hi
    obtain ⟨p, hp, hp2, hk2⟩ := ih (acc ++ [v]) (j + 1) i' h' hi' (by rw [List.length_append, List.length_singleton]; omega) (by omega) (by
      intro x hx
      rcases List.mem_append.1 hx with hx | hx
      · exact ha x hx
      · rw [List.mem_singleton.1 hx]; exact ⟨hv.1, hv.2.1 (by omega)⟩)
    refine ⟨p, hp, hp2, fun k hk => ?_⟩
    obtain ⟨k, rfl⟩ : ∃ m, k = m + 1 := ⟨k - 1, by omega⟩
    simp only [spec_DrawPlaces.l0]
    rw [if_pos (by omega), e]
    simp only [Option.bind_some]
    rw [if_pos (by omega), w64 (x := j + 1) (by omega) (by omega)]
    exact hk2 k (by omega)
theorem places_ok {b : List Int} (hb : b.length ≤ 1048576) : ∃ p, p.length = 12 ∧ (∀ x ∈ p, 0 ≤ x ∧ x < 10000) ∧ Ev (fun k => spec_DrawPlaces.f k b) p := by
  obtain ⟨h, hn⟩ := new_ok b
  obtain ⟨v, i', h', e, _, hi'⟩ := byte_ok h hb (cur_zero b)
  obtain ⟨p, hp, hp2, hk⟩ := places_loop hb 12 [] 0 i' h' hi' rfl rfl (fun x hx => by cases hx)
  refine ⟨p, hp, hp2, Ev.bind hn ?_⟩
  refine ⟨13, fun k h1 => ?_⟩
  show (spec_l01Byte.f b 0 h).bind _ = _
  rw [e]
  exact hk k (by omega)
theorem rd_range {p : List Int} {a c : Int} (hp : ∀ x ∈ p, a ≤ x ∧ x < c) {j : Int} (h0 : 0 ≤ j) (h1 : j < (p.length : Int)) : a ≤ rd p j ∧ rd p j < c := by
  refine hp _ ?_
  unfold rd
  rw [List.getD_eq_getElem?_getD, List.getElem?_eq_getElem (by omega), Option.getD_some]
  exact List.getElem_mem _

/-! ### FnLogs -/
theorem tNext_loop {b : List Int} (hb : b.length ≤ 1048576) (st t0 : Int) (hs : 0 ≤ st ∧ st ≤ 6) : ∀ (d : Nat) (t x i h : Int) (l : List S28), 4 - x ≤ d → 0 ≤ x → x ≤ 4 → (l.length : Int) ≤ 8 + x → (∀ y ∈ l, y.f2.size ≤ 1000) → Cur b i → Tot (fun k => spec_l06Next.l0 k t x b i h st t0 l) (fun r => (0 ≤ r.1 ∧ r.1 ≤ 100) ∧ r.2.2.1.length ≤ 12 ∧ ∀ y ∈ r.2.2.1, y.f2.size ≤ 1000) := by
  intro d
  have hend : ∀ (i h : Int) (l : List S28), l.length ≤ 12 → (∀ y ∈ l, y.f2.size ≤ 1000) → Cur b i → Tot (fun k => (spec_l01Once.f b i h 4).bind fun bt437 => (if bt437.1 = true then ((spec_l01Below.f b bt437.2.1 bt437.2.2 (wrap64 ((l.length : Int) + 1))).bind fun bt440 => ((spec_LogTerm.f st t0 l (wrap64 (st + bt440.1))).bind fun t443 => ((spec_LogBehind.f k st t0 l (wrap64 (st + bt440.1)) t443).bind fun bt444 => (some (bt444.1, bt444.2.1, bt444.2.2, bt440.2.1, bt440.2.2))))) else (some (st, t0, l, bt437.2.1, bt437.2.2)))) (fun r => (0 ≤ r.1 ∧ r.1 ≤ 100) ∧ r.2.2.1.length ≤ 12 ∧ ∀ y ∈ r.2.2.1, y.f2.size ≤ 1000) := by
    intro i h l hl hx hi
    refine Tot.bind (tOnce h 4 hb hi) fun q hq => ?_
    by_cases hq1 : q.1 = true
    · simp only [if_pos hq1]
      rw [w64 (x := (l.length : Int) + 1) (by omega) (by omega)]
      refine Tot.bind (tBelow _ ((l.length : Int) + 1) hb hq) fun u hu => ?_
      have hu0 := hu.1.1
      have hu1 := hu.1.2.1 (by omega)
      simp only [w64 (x := st + u.1) (by omega) (by omega), spec_term st t0 l (st + u.1) (by omega) (by omega) (by omega), Option.bind_some]
      refine Tot.bind (spec_behind st t0 l (st + u.1) (by omega) (by omega) hx (by omega) _) fun v hv => ?_
      obtain ⟨hv1, hv2, hv3⟩ := hv
      exact Tot.ret _ ⟨by show 0 ≤ v.1 ∧ v.1 ≤ 100; omega, by show v.2.2.length ≤ 12; omega, hv3⟩
    · simp only [if_neg hq1]
      exact Tot.ret _ ⟨by show 0 ≤ st ∧ st ≤ 100; omega, hl, hx⟩
  induction d with
  | zero =>
    intro t x i h l hd h0 h8 hl hx hi
    refine Tot.step (fun k => rfl) ?_
    simp only [spec_l06Next.l0]
    refine Tot.bind (tBelow h 4 hb hi) fun r hr => ?_
    have := hr.1.2.1 (by omega)
    simp only [if_neg (show ¬ x < r.1 by omega)]
    exact hend _ _ l (by omega) hx hr.2
  | succ d ih =>
    intro t x i h l hd h0 h8 hl hx hi
    refine Tot.step (fun k => rfl) ?_
    simp only [spec_l06Next.l0]
    refine Tot.bind (tBelow h 4 hb hi) fun r hr => ?_
    have hr1 := hr.1.2.1 (by omega)
    by_cases hxr : x < r.1
    · simp only [if_pos hxr]
      refine Tot.bind (tBelow _ 2 hb hr.2) fun u hu => ?_
      refine Tot.bind (tRight05 _ _ hb hu.2) fun v hv => ?_
      simp only [if_pos (show l.length < 4398046511104 by omega), Option.bind_some]
      refine Tot.bind (P := fun _ => True) ?_ fun q _ => ?_
      · unfold spec_LogLast.f
        have hl2 : (l ++ [(⟨v.1, v.2.1, v.2.2.1⟩ : S28)]).length = l.length + 1 := by rw [List.length_append, List.length_singleton]
        simp only [hl2]
        rw [w64 (x := ((l.length + 1 : Nat) : Int) - 1) (by omega) (by omega)]
        simp only [if_neg (show ¬ ((l.length + 1 : Nat) : Int) = 0 by omega), if_pos (show 0 ≤ ((l.length + 1 : Nat) : Int) - 1 by omega), if_pos (show ((l.length + 1 : Nat) : Int) - 1 < ((l.length + 1 : Nat) : Int) by omega)]
        exact Tot.ret _ trivial
      · simp only [w64 (x := x + 1) (by omega) (by omega)]
        exact ih _ _ _ _ _ (by omega) (by omega) (by omega) (by rw [List.length_append, List.length_singleton]; omega) (all_snoc hx hv.1) hv.2
    · simp only [if_neg hxr]
      exact hend _ _ l (by omega) hx hr.2
theorem tNext {b : List Int} {i : Int} (h : Int) (hb : b.length ≤ 1048576) (hi : Cur b i) (st t : Int) (l : List S28) (hs : 0 ≤ st ∧ st ≤ 6) (hl : l.length ≤ 8) (hx : ∀ y ∈ l, y.f2.size ≤ 1000) : Tot (fun k => spec_l06Next.f k b i h st t l) (fun r => (0 ≤ r.1 ∧ r.1 ≤ 100) ∧ r.2.2.1.length ≤ 12 ∧ ∀ y ∈ r.2.2.1, y.f2.size ≤ 1000) := by
  have h0 : ∀ (q n i h : Int), 0 ≤ n → n ≤ l.length → Cur b i → Tot (fun k => spec_l06Next.j0 k q n b i h st t l) (fun r => (0 ≤ r.1 ∧ r.1 ≤ 100) ∧ r.2.2.1.length ≤ 12 ∧ ∀ y ∈ r.2.2.1, y.f2.size ≤ 1000) := by
    intro q n i h h1 h2 hc
    have h3 : ([] : List S28).length + (l.take n.toNat).length < 4398046511104 := by rw [List.length_take, List.length_nil]; omega
    refine Tot.step (f := fun k => spec_l06Next.l0 k q 0 b i h st t ([] ++ l.take n.toNat)) (fun k => by simp only [spec_l06Next.j0, Option.bind_some]; rw [if_pos h1, if_pos h2, if_pos h3]) ?_
    exact tNext_loop hb st t hs 4 q 0 i h _ (by omega) (by omega) (by omega) (by rw [List.nil_append, List.length_take]; omega) (fun y hy => hx y (by rw [List.nil_append] at hy; exact List.mem_of_mem_take hy)) hc
  unfold spec_l06Next.f
  refine Tot.bind (P := fun _ => True) ?_ fun q _ => ?_
  · unfold spec_LogLast.f
    by_cases h1 : (l.length : Int) = 0
    · simp only [if_pos h1]; exact Tot.ret _ trivial
    · simp only [if_neg h1, w64 (x := (l.length : Int) - 1) (by omega) (by omega), if_pos (show 0 ≤ (l.length : Int) - 1 by omega), if_pos (show (l.length : Int) - 1 < (l.length : Int) by omega)]
      exact Tot.ret _ trivial
  · refine Tot.bind (tOnce h 2 hb hi) fun u hu => ?_
    by_cases hu1 : u.1 = true
    · simp only [if_pos hu1]
      rw [w64 (x := (l.length : Int) + 1) (by omega) (by omega)]
      refine Tot.bind (tBelow _ ((l.length : Int) + 1) hb hu) fun v hv => ?_
      have hv1 := hv.1.2.1 (by omega)
      exact h0 _ _ _ _ hv.1.1 (by omega) hv.2
    · simp only [if_neg hu1]
      exact h0 _ _ _ _ (by omega) (by omega) hu
theorem logs_l1 {sa ta : Int} {la : List S28} {sb tb : Int} {lb : List S28} (ha : 0 ≤ sa ∧ sa ≤ 1000) (hla : la.length ≤ 1000) (hbb : 0 ≤ sb ∧ sb ≤ 1000) (hlb : lb.length ≤ 1000) (n : Int) (hn : n ≤ sa + la.length) (hT : ∀ i, sa < i → sb < i → i ≤ n → termO sa ta la i = termO sb tb lb i) : ∀ (d : Nat) (x : Int), n + 1 - x ≤ d → sa + 1 ≤ x → x ≤ 3000 → Ev (fun k => laws_FnLogs.l1 k n x sa ta la sb tb lb) true := by
  intro d
  have hout : ∀ x : Int, n < x → Ev (fun k => laws_FnLogs.l1 k n x sa ta la sb tb lb) true := by
    intro x hx
    refine Ev.step (f := fun _ => some true) (fun k => ?_) (Ev.now _)
    simp only [laws_FnLogs.l1]
    rw [if_neg (by omega)]
    unfold laws_last.f
    rw [Option.bind_some, w64 (x := sa + (la.length : Int)) (by omega) (by omega), decide_eq_true hn]
  induction d with
  | zero => intro x h1 h2 h3; exact hout x (by omega)
  | succ d ih =>
    intro x h1 h2 h3
    by_cases hx : x ≤ n
    · by_cases hb : x > sb
      · refine Ev.step (fun k => ?_) (ih (x + 1) (by omega) (by omega) (by omega))
        simp only [laws_FnLogs.l1]
        rw [if_pos hx, if_pos hb, impl_term sa ta la x (by omega) (by omega) (by omega), Option.bind_some, impl_term sb tb lb x (by omega) (by omega) (by omega), Option.bind_some, if_pos (hT x (by omega) hb hx), w64 (x := x + 1) (by omega) (by omega)]
      · refine Ev.step (fun k => ?_) (ih (x + 1) (by omega) (by omega) (by omega))
        simp only [laws_FnLogs.l1]
        rw [if_pos hx, if_neg hb, w64 (x := x + 1) (by omega) (by omega)]
    · exact hout x (by omega)
theorem logs_l0 {sa ta : Int} {la : List S28} {sb tb : Int} {lb : List S28} (hA : logB sa ta la = true) (ha : 0 ≤ sa ∧ sa ≤ 1000) (hla : la.length ≤ 1000) (hxa : ∀ x ∈ la, x.f2.size ≤ 2000000) (hbb : 0 ≤ sb ∧ sb ≤ 1000) (hlb : lb.length ≤ 1000) (hxb : ∀ x ∈ lb, x.f2.size ≤ 2000000) (m : Nat) (hm : m ≤ la.length) (tc : Int) : ∀ (d : Nat) (x : Int), sa + la.length + 1 - x = d → sa + m + 1 ≤ x → Ev (fun k => laws_FnLogs.l0 k (sa + m) x sa ta la sb tb lb (sa + m) tc (la.drop m)) true := by
  intro d
  induction d with
  | zero =>
    intro x h1 h2
    refine Ev.step (fun k => by simp only [laws_FnLogs.l0, laws_last.f, Option.bind_some]; rw [w64 (x := sa + (la.length : Int)) (by omega) (by omega), if_neg (by omega)]) ?_
    refine Ev.bind (impl_shared sa ta la sb tb lb (by omega) hla hxa (by omega) hlb hxb) ?_
    refine Ev.bind (spec_shared sa ta la sb tb lb (by omega) hla hxa (by omega) hlb hxb) ?_
    simp only [if_true]
    have e := impl_shared sb tb lb sa ta la (by omega) hlb hxb (by omega) hla hxa
    rw [shO_comm] at e
    refine Ev.bind e ?_
    simp only [if_true]
    have e2 := impl_shared sa ta la sa ta la (by omega) hla hxa (by omega) hla hxa
    rw [shO_self hA] at e2
    refine Ev.bind e2 ?_
    simp only [bne_self_eq_false]
    obtain ⟨p1, p2⟩ := shO_props (sb := sb) (tb := tb) (lb := lb) hA
    refine Ev.step (f := fun k => laws_FnLogs.l1 k (shO sa ta la sb tb lb) (sa + 1) sa ta la sb tb lb) (fun k => by simp only [laws_FnLogs.j2, Bool.false_eq_true, if_false]; rw [w64 (x := sa + 1) (by omega) (by omega)]) ?_
    exact logs_l1 ha hla hbb hlb _ p1 p2 1000 (sa + 1) (by omega) (by omega) (by omega)
  | succ d ih =>
    intro x h1 h2
    refine Ev.step (fun k => ?_) (ih (x + 1) (by omega) (by omega))
    have hd : (la.drop m).length = la.length - m := List.length_drop
    have e1 : wrap64 (wrap64 (x - (sa + (m : Int))) - 1) = x - (sa + m) - 1 := by rw [w64 (x := x - (sa + (m : Int))) (by omega) (by omega), w64 (by omega) (by omega)]
    have e2 : wrap64 (wrap64 (x - sa) - 1) = x - sa - 1 := by rw [w64 (x := x - sa) (by omega) (by omega), w64 (by omega) (by omega)]
    have e3 : rd_T28 (la.drop m) (x - (sa + m) - 1) = rd_T28 la (x - sa - 1) := by
      obtain ⟨j, hj⟩ := Int.eq_ofNat_of_zero_le (show 0 ≤ x - (sa + (m : Int)) - 1 by omega)
      rw [hj, show x - sa - 1 = ((m + j : Nat) : Int) by omega, rdE_at (show j < (la.drop m).length by omega), rdE_at (show m + j < la.length by omega), List.getElem_drop]
    simp only [laws_FnLogs.l0, laws_last.f, Option.bind_some]
    rw [w64 (x := sa + (la.length : Int)) (by omega) (by omega), e1, e2, if_pos (by omega), if_pos (by omega), if_pos (by omega), if_pos (by omega), if_pos (by omega), e3, w64 (x := x + 1) (by omega) (by omega)]
    simp only [beq_self_eq_true, Bool.not_true, Bool.or_false, Bool.false_eq_true, if_false]
theorem FnLogs : StFnLogs.Pure := by
  intro b
  intros
  by_cases hbig : (b.length : Int) > 1048576
  · exact ⟨0, by unfold laws_FnLogs.f; rw [big_eq]; simp [hbig]⟩
  · have hbl : b.length ≤ 1048576 := by omega
    obtain ⟨h, hn⟩ := new_ok b
    obtain ⟨⟨sa, ta, la, sb, tb, lb⟩, e, h1, h2, h3, h4, h5, h6, h7, h8⟩ : Tot (fun k => spec_DrawRightLogs.f k b) (fun r => (0 ≤ r.1 ∧ r.1 ≤ 6) ∧ (0 ≤ r.2.1 ∧ r.2.1 ≤ 2) ∧ r.2.2.1.length ≤ 8 ∧ termsB r.2.1 r.2.2.1 = true ∧ (∀ x ∈ r.2.2.1, x.f2.size ≤ 1000) ∧ (0 ≤ r.2.2.2.1 ∧ r.2.2.2.1 ≤ 100) ∧ r.2.2.2.2.2.length ≤ 12 ∧ ∀ y ∈ r.2.2.2.2.2, y.f2.size ≤ 1000) := by
      unfold spec_DrawRightLogs.f
      refine Tot.bind (P := fun r => r = (b, 0, h)) ⟨_, hn, rfl⟩ fun r hr => ?_
      subst hr
      refine Tot.bind (tRight06v h hbl (cur_zero b)) fun r hr => ?_
      obtain ⟨g1, g2, g3, g4, g5, g6⟩ := hr
      refine Tot.bind (tNext _ hbl g6 _ _ _ g1 g3 g5) fun q hq => ?_
      exact Tot.ret _ ⟨g1, g2, g3, g4, g5, hq.1, hq.2.1, hq.2.2⟩
    simp only at h1 h2 h3 h4 h5 h6 h7 h8
    have hA : logB sa ta la = true := by
      unfold logB restB
      simp only [Bool.and_eq_true, rng_iff, decide_eq_true_eq]
      exact ⟨⟨by omega, by omega, by omega, by omega⟩, h4⟩
    obtain ⟨p, hp, hp2, ep⟩ := places_ok hbl
    have hr := rd_range hp2 (j := 0) (by omega) (by omega)
    refine Ev.ex ?_ (r := true)
    unfold laws_FnLogs.f
    rw [big_eq]
    simp only [Option.bind_some, decide_eq_true_eq, if_neg hbig]
    refine Ev.bind e ?_
    refine Ev.bind ep ?_
    have hlen : wrap64 ((la.length : Int) + 1) = (la.length : Int) + 1 := w64 (by omega) (by omega)
    have hmod := Int.emod_lt_of_pos (rd p 0) (show 0 < (la.length : Int) + 1 by omega)
    have hmod0 := Int.emod_nonneg (rd p 0) (show (la.length : Int) + 1 ≠ 0 by omega)
    obtain ⟨m, hm⟩ := Int.eq_ofNat_of_zero_le hmod0
    have htm : Int.tmod (rd p 0) ((la.length : Int) + 1) = (m : Int) := by rw [Int.tmod_eq_emod_of_nonneg hr.1]; exact hm
    have hml : m ≤ la.length := by omega
    have hk : wrap64 (sa + (m : Int)) = sa + m := w64 (by omega) (by omega)
    have hp12 : (0 : Int) < (p.length : Int) := by omega
    simp only [hlen, htm, hk, if_pos hp12, if_neg (show ¬ (la.length : Int) + 1 = 0 by omega), impl_term sa ta la (sa + m) (by omega) (by omega) (by omega), Option.bind_some]
    refine Ev.bind (impl_behind sa ta la m hA hml h5) ?_
    have hd : (la.drop m).length = la.length - m := List.length_drop
    have hx2 : ∀ x ∈ la, x.f2.size ≤ 2000000 := fun x h => by have := h5 x h; omega
    have hl2 : sa + (la.length : Int) = sa + m + ((la.drop m).length : Int) := by omega
    simp only [last_term sa ta la (by omega) (by omega), last_term (sa + m) (termO sa ta la (sa + m)) (la.drop m) (by omega) (by omega), Option.bind_some, last_drop sa ta la m hml, if_true]
    simp only [if_pos hl2]
    have hlogc := impl_log (sa + m) (termO sa ta la (sa + m)) (la.drop m) (by omega) (by omega) (fun x h => hx2 x (List.mem_of_mem_drop h))
    rw [log_drop hA hml] at hlogc
    refine Ev.bind hlogc ?_
    have hge := (termO_pos (by omega) h4 (t := ta) (st := sa) (i := sa + m) (by omega) (by omega)).1
    simp only [if_true, show decide (termO sa ta la (sa + m) < 0) = false from decide_eq_false (by omega)]
    refine Ev.step (f := fun k => laws_FnLogs.l0 k (sa + m) (sa + m + 1) sa ta la sb tb lb (sa + m) (termO sa ta la (sa + m)) (la.drop m)) (fun k => by simp only [laws_FnLogs.j0, Bool.false_eq_true, if_false]; rw [w64 (x := sa + (m : Int) + 1) (by omega) (by omega)]) ?_
    exact logs_l0 hA (by omega) (by omega) hx2 (by omega) (by omega) (fun x h => by have := h8 x h; omega) m hml _ (la.length - m) (sa + m + 1) (by omega) (by omega)

end Go.Proofs.Ytgffdijodnpolaa.Pure
