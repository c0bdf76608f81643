/- The pure statement of the law 'FnPuts', proved: over numbers, lists and texts alone. No condition. -/
import Derived.Test.YtgffdijodnpolaaStFnPuts
import Derived.Laws.BitsLemmas
namespace Go.Proofs.Ytgffdijodnpolaa.Pure
open Go.RowKit Go.Proofs.Ytgffdijodnpolaa.QFnPuts Go.Proofs.YtgffdijodnpolaaW.PrintWords Go.Proofs.YtgffdijodnpolaaW.PrintLast Go.Proofs.YtgffdijodnpolaaW.PrintMore Go.Proofs.Ytgffdijodnpolaa.StFnPuts Go.Proofs.Ytgffdijodnpolaa.Opens
set_option linter.unusedVariables false
set_option linter.unusedSimpArgs false

/-! ### base -/
theorem w64 {x : Int} (h0 : -9223372036854775808 ≤ x) (h1 : x ≤ 9223372036854775807) : wrap64 x = x := by unfold wrap64; omega
theorem w64_range (x : Int) : -9223372036854775808 ≤ wrap64 x ∧ wrap64 x ≤ 9223372036854775807 := by unfold wrap64; omega
theorem ip {α : Type} {c : Prop} [Decidable c] {a b : α} (h : c) : (if c then a else b) = a := if_pos h
theorem ineg {α : Type} {c : Prop} [Decidable c] {a b : α} (h : ¬ c) : (if c then a else b) = b := if_neg h
theorem wf_range {n : Int} (h : (Lit.int .i64 n).wf = true) : -9223372036854775808 ≤ n ∧ n ≤ 9223372036854775807 := by
  simp only [Lit.wf, IntKind.min, IntKind.max, IntKind.signed, IntKind.bits, Bool.and_eq_true, decide_eq_true_eq, if_true] at h
  omega
theorem wf_u8 {n : Int} (h : (Lit.int .u8 n).wf = true) : 0 ≤ n ∧ n ≤ 255 := by
  simp [Lit.wf, IntKind.min, IntKind.max, IntKind.signed, IntKind.bits] at h
  omega
theorem and_low (x : Int) (i : Nat) (hi : i ≤ 62) : Go.bits .and .i64 x (2 ^ i - 1) = x % 2 ^ i := by
  have hpos : 0 < 2 ^ i := Nat.two_pow_pos i
  have hc : ((2 : Int) ^ i - 1) = ((2 ^ i - 1 : Nat) : Int) := by rw [Int.natCast_sub hpos]; simp
  have h62 : 2 ^ i ≤ 2 ^ 62 := Nat.pow_le_pow_right (by decide) hi
  have hlt : 2 ^ i - 1 < 2 ^ 64 := by omega
  have hd : (2 ^ i : Nat) ∣ 2 ^ 64 := Nat.pow_dvd_pow 2 (by omega)
  rw [hc]
  simp only [Go.bits, BitVec.ofInt_natCast, BitVec.toNat_and, BitVec.toNat_ofNat, BitVec.toNat_ofInt]
  simp only [show IntKind.i64.bits = 64 from rfl]
  rw [Nat.mod_eq_of_lt hlt, Nat.and_two_pow_sub_one_eq_mod]
  have h1 : (((x % ((2 ^ 64 : Nat) : Int)).toNat % 2 ^ i : Nat) : Int) = x % 2 ^ i := by
    rw [Int.natCast_emod, Int.toNat_of_nonneg (Int.emod_nonneg _ (by decide))]
    rw [Int.natCast_pow]
    exact Int.emod_emod_of_dvd _ (by
      have : (((2 ^ i : Nat) : Int)) ∣ ((2 ^ 64 : Nat) : Int) := Int.natCast_dvd_natCast.2 hd
      simpa using this)
  rw [h1]
  have h2 : 0 ≤ x % 2 ^ i := Int.emod_nonneg _ (by
    have : (0 : Int) < 2 ^ i := by exact_mod_cast hpos
    omega)
  have h3 : x % 2 ^ i < 2 ^ i := Int.emod_lt_of_pos _ (by exact_mod_cast hpos)
  have h4 : (2 : Int) ^ i ≤ 2 ^ 62 := by exact_mod_cast h62
  rw [IntKind.wrap_i64]
  omega
theorem and255 (x : Int) : Go.bits .and .i64 x 255 = x % 256 := and_low x 8 (by omega)
theorem and65535 (x : Int) : Go.bits .and .i64 x 65535 = x % 65536 := and_low x 16 (by omega)
theorem and30 (x : Int) : Go.bits .and .i64 x 1073741823 = x % 1073741824 := and_low x 30 (by omega)
theorem and1 (x : Int) : Go.bits .and .i64 x 1 = x % 2 := and_low x 1 (by omega)
/-- A law's last step: both are one. -/
theorem same_end {v : Bool} : (if (v != v) = true then some false else some true : Option Bool) = some true := by simp
theorem Ev.ex {α : Type} {g : Nat → Option α} {r : α} (h : Ev g r) : ∃ k, g k = some r := h.rounds
theorem Ev.from_ {α : Type} {g : Nat → Option α} {r : α} (K : Nat) (h : ∀ k, K ≤ k → g k = some r) : Ev g r := ⟨K, h⟩
theorem Ev.both {α β : Type} {g : Nat → Option α} {f : Nat → Option β} {r : α} {q : β} (h : Ev g r) (h' : Ev f q) : ∃ K, ∀ k, K ≤ k → g k = some r ∧ f k = some q := by
  obtain ⟨K, h⟩ := h
  obtain ⟨K', h'⟩ := h'
  exact ⟨K + K', fun k hk => ⟨h k (by omega), h' k (by omega)⟩⟩

/-! ### draw -/
def Cur (b : List Int) (i : Int) : Prop := 0 ≤ i ∧ i ≤ (b.length : Int)
theorem new_loop (b : List Int) : ∀ (d : Nat) (i x : Int), 0 ≤ i → i ≤ 4000 → 4000 - i ≤ d → ∃ h, ∀ k, d < k → spec_l01New.l0 k b x i = some (b, 0, h) := by
  intro d
  induction d with
  | zero =>
    intro i x h0 h1 hd
    refine ⟨x, fun k hk => ?_⟩
    obtain ⟨k, rfl⟩ : ∃ m, k = m + 1 := ⟨k - 1, by omega⟩
    simp only [spec_l01New.l0]
    by_cases hl : i < (b.length : Int)
    · rw [if_pos hl, if_neg (by omega)]
    · rw [if_neg hl]
  | succ d ih =>
    intro i x h0 h1 hd
    by_cases hl : i < (b.length : Int) ∧ i < 4000
    · obtain ⟨h, ih⟩ := ih (i + 1) (Go.bits .and .i64 (wrap64 ((wrap64 ((wrap64 (x * 131)) + (wrap64 (rd b i)))) + 7)) 1073741823) (by omega) (by omega) (by omega)
      refine ⟨h, fun k hk => ?_⟩
      obtain ⟨k, rfl⟩ : ∃ m, k = m + 1 := ⟨k - 1, by omega⟩
      simp only [spec_l01New.l0]
      rw [if_pos hl.1, if_pos hl.2, if_pos h0, w64 (x := i + 1) (by omega) (by omega)]
      exact ih k (by omega)
    · refine ⟨x, fun k hk => ?_⟩
      obtain ⟨k, rfl⟩ : ∃ m, k = m + 1 := ⟨k - 1, by omega⟩
      simp only [spec_l01New.l0]
      by_cases hl2 : i < (b.length : Int)
      · rw [if_pos hl2, if_neg (by omega)]
      · rw [if_neg hl2]
theorem new_ok (b : List Int) : ∃ h, Ev (fun k => spec_l01New.f k b) (b, 0, h) := by
  obtain ⟨h, hk⟩ := new_loop b 4000 0 (wrap64 (37401 + (b.length : Int))) (by omega) (by omega) (by omega)
  exact ⟨h, 4001, fun k h1 => hk k (by omega)⟩
theorem cur_zero (b : List Int) : Cur b 0 := ⟨by omega, by omega⟩
theorem byte_ok {b : List Int} {i : Int} (h : Int) (hb : b.length ≤ 1048576) (hi : Cur b i) : ∃ v i' h', spec_l01Byte.f b i h = some (v, i', h') ∧ (0 ≤ v ∧ v ≤ 255) ∧ Cur b i' := by
  obtain ⟨h0, h1⟩ := hi
  unfold spec_l01Byte.f
  by_cases hl : i < (b.length : Int)
  · rw [if_pos hl, if_pos h0]
    refine ⟨_, _, _, rfl, ?_, ?_⟩
    · rw [and255]; omega
    · rw [w64 (by omega) (by omega)]; exact ⟨by omega, by omega⟩
  · rw [if_neg hl]
    refine ⟨_, _, _, rfl, ?_, h0, h1⟩
    rw [and255]; omega
theorem tmod_below {x n : Int} (hx : 0 ≤ x) (hn : 0 < n) : 0 ≤ Int.tmod x n ∧ Int.tmod x n < n := by
  rw [Int.tmod_eq_emod_of_nonneg hx]
  exact ⟨Int.emod_nonneg _ (by omega), Int.emod_lt_of_pos _ hn⟩
theorem below_ok {b : List Int} {i : Int} (h n : Int) (hb : b.length ≤ 1048576) (hi : Cur b i) : ∃ v i' h', spec_l01Below.f b i h n = some (v, i', h') ∧ (0 ≤ v ∧ (0 < n → v < n) ∧ (n ≤ 0 → v = 0)) ∧ Cur b i' := by
  unfold spec_l01Below.f
  by_cases hn : n ≤ 0
  · rw [if_pos hn]
    exact ⟨0, i, h, rfl, ⟨by omega, fun h => by omega, fun _ => rfl⟩, hi⟩
  · rw [if_neg hn]
    by_cases hs : n ≤ 256
    · rw [if_pos hs]
      obtain ⟨v, i', h', e, hv, hi'⟩ := byte_ok h hb hi
      rw [e]
      simp only [Option.bind_some]
      rw [if_neg (by omega)]
      have := tmod_below hv.1 (show 0 < n by omega)
      exact ⟨_, _, _, rfl, ⟨this.1, fun _ => this.2, fun h => absurd h hn⟩, hi'⟩
    · rw [if_neg hs]
      obtain ⟨v1, i1, h1, e1, hv1, hi1⟩ := byte_ok h hb hi
      rw [e1]
      simp only [Option.bind_some]
      obtain ⟨v2, i2, h2, e2, hv2, hi2⟩ := byte_ok h1 hb hi1
      rw [e2]
      simp only [Option.bind_some]
      obtain ⟨v3, i3, h3, e3, hv3, hi3⟩ := byte_ok h2 hb hi2
      rw [e3]
      simp only [Option.bind_some]
      obtain ⟨v4, i4, h4, e4, hv4, hi4⟩ := byte_ok h3 hb hi3
      rw [e4]
      simp only [Option.bind_some]
      rw [if_neg (by omega)]
      rw [w64 (x := v1 * 16777216) (by omega) (by omega), w64 (x := v2 * 65536) (by omega) (by omega), w64 (x := v3 * 256) (by omega) (by omega), w64 (x := v1 * 16777216 + v2 * 65536) (by omega) (by omega),
        w64 (x := v1 * 16777216 + v2 * 65536 + v3 * 256) (by omega) (by omega), w64 (x := v1 * 16777216 + v2 * 65536 + v3 * 256 + v4) (by omega) (by omega)]
      have := tmod_below (show 0 ≤ v1 * 16777216 + v2 * 65536 + v3 * 256 + v4 by omega) (show 0 < n by omega)
      exact ⟨_, _, _, rfl, ⟨this.1, fun _ => this.2, fun h => absurd h hn⟩, hi4⟩
theorem big_eq (b : List Int) : laws_big.f b = some (decide ((b.length : Int) > 1048576)) := rfl

/-! ### tot -/
/-- A row of calls that comes to an answer of a kind. -/
def Tot {α : Type} (g : Nat → Option α) (P : α → Prop) : Prop := ∃ r, Ev g r ∧ P r
theorem Tot.bind {α β : Type} {g : Nat → Option α} {f : Nat → α → Option β} {P : α → Prop} {Q : β → Prop} (h : Tot g P) (h2 : ∀ r, P r → Tot (fun k => f k r) Q) : Tot (fun k => (g k).bind (f k)) Q := by
  obtain ⟨r, e, hr⟩ := h
  obtain ⟨q, e2, hq⟩ := h2 r hr
  exact ⟨q, Ev.bind e e2, hq⟩
theorem Tot.ret {α : Type} {P : α → Prop} (r : α) (h : P r) : Tot (fun _ => some r) P := ⟨r, Ev.now _, h⟩
theorem Tot.step {α : Type} {F f : Nat → Option α} {P : α → Prop} (hs : ∀ k, F (k + 1) = f k) (h : Tot f P) : Tot F P := by
  obtain ⟨r, e, hr⟩ := h
  exact ⟨r, Ev.step hs e, hr⟩
theorem Tot.mono {α : Type} {g : Nat → Option α} {P Q : α → Prop} (h : Tot g P) (hpq : ∀ r, P r → Q r) : Tot g Q := by
  obtain ⟨r, e, hr⟩ := h
  exact ⟨r, e, hpq r hr⟩
theorem Tot.of_some {α : Type} {o : Option α} {P : α → Prop} (r : α) (e : o = some r) (h : P r) : Tot (fun _ => o) P := ⟨r, ⟨0, fun _ _ => e⟩, h⟩
theorem tByte {b : List Int} {i : Int} (h : Int) (hb : b.length ≤ 1048576) (hi : Cur b i) : Tot (fun _ => spec_l01Byte.f b i h) (fun r => (0 ≤ r.1 ∧ r.1 ≤ 255) ∧ Cur b r.2.1) := by
  obtain ⟨v, i', h', e, hv, hi'⟩ := byte_ok h hb hi
  exact Tot.of_some _ e ⟨hv, hi'⟩
theorem tBelow {b : List Int} {i : Int} (h n : Int) (hb : b.length ≤ 1048576) (hi : Cur b i) : Tot (fun _ => spec_l01Below.f b i h n) (fun r => (0 ≤ r.1 ∧ (0 < n → r.1 < n) ∧ (n ≤ 0 → r.1 = 0)) ∧ Cur b r.2.1) := by
  obtain ⟨v, i', h', e, hv, hi'⟩ := below_ok h n hb hi
  exact Tot.of_some _ e ⟨hv, hi'⟩
theorem rd_mem {l : List Int} {i : Int} (h0 : 0 ≤ i) (h1 : i < (l.length : Int)) : rd l i ∈ l := by
  unfold rd
  rw [List.getD_eq_getElem?_getD, List.getElem?_eq_getElem (by omega), Option.getD_some]
  exact List.getElem_mem _
theorem tPick {b : List Int} {i : Int} (h : Int) (l : List Int) (hb : b.length ≤ 1048576) (hi : Cur b i) (hl : 0 < l.length) : Tot (fun _ => spec_l01PickInt.f b i h l) (fun r => r.1 ∈ l ∧ Cur b r.2.1) := by
  obtain ⟨v, i', h', e, hv, hi'⟩ := below_ok h (l.length : Int) hb hi
  have h1 := hv.2.1 (by omega)
  refine Tot.of_some (rd l v, i', h') ?_ ⟨rd_mem hv.1 h1, hi'⟩
  unfold spec_l01PickInt.f
  rw [e]
  simp only [Option.bind_some]
  rw [if_pos hv.1, if_pos h1]
theorem tOnce {b : List Int} {i : Int} (h n : Int) (hb : b.length ≤ 1048576) (hi : Cur b i) : Tot (fun _ => spec_l01Once.f b i h n) (fun r => Cur b r.2.1) := by
  obtain ⟨v, i', h', e, _, hi'⟩ := below_ok h n hb hi
  refine Tot.of_some (v == 0, i', h') ?_ hi'
  unfold spec_l01Once.f
  rw [e]
  rfl
theorem tPickT {b : List Int} {i : Int} (h : Int) (l : List ByteArray) (hb : b.length ≤ 1048576) (hi : Cur b i) (hl : 0 < l.length) : Tot (fun _ => spec_l01Pick.f b i h l) (fun r => r.1 ∈ l ∧ Cur b r.2.1) := by
  obtain ⟨v, i', h', e, hv, hi'⟩ := below_ok h (l.length : Int) hb hi
  have h1 := hv.2.1 (by omega)
  have hm : rdOf ByteArray.empty l v ∈ l := by
    unfold rdOf
    rw [List.getD_eq_getElem?_getD, List.getElem?_eq_getElem (by have := hv.1; omega), Option.getD_some]
    exact List.getElem_mem _
  refine Tot.of_some (rdOf ByteArray.empty l v, i', h') ?_ ⟨hm, hi'⟩
  unfold spec_l01Pick.f
  rw [e]
  simp only [Option.bind_some]
  rw [if_pos hv.1, if_pos h1]

/-! ### text -/
theorem long_loop (n c : Int) (hn : n ≤ 1000000) : ∀ (d : Nat) (j : Int) (l : List Int), (l.length : Int) = n → 0 ≤ j → n - j ≤ d → j ≤ n → Tot (fun k => spec_l01Long.l0 k n c l j) (fun r => (r.size : Int) = n) := by
  intro d
  induction d with
  | zero =>
    intro j l hl h0 hd hj
    refine Tot.step (f := fun _ => some (strOfNums l)) (fun k => by simp only [spec_l01Long.l0]; rw [if_neg (by omega)]) (Tot.ret _ (by rw [strOfNums_size]; exact hl))
  | succ d ih =>
    intro j l hl h0 hd hj
    by_cases hjn : j < n
    · refine Tot.step (fun k => by simp only [spec_l01Long.l0]; rw [if_pos hjn, if_pos h0, if_pos (by omega), w64 (by omega) (by omega)]) ?_
      exact ih (j + 1) (l.set j.toNat c) (by rw [List.length_set]; exact hl) (by omega) (by omega) (by omega)
    · refine Tot.step (f := fun _ => some (strOfNums l)) (fun k => by simp only [spec_l01Long.l0]; rw [if_neg hjn]) (Tot.ret _ (by rw [strOfNums_size]; exact hl))
theorem tLong (n c : Int) (h0 : 0 ≤ n) (hn : n ≤ 1000000) : Tot (fun k => spec_l01Long.f k n c) (fun r => (r.size : Int) = n) := by
  unfold spec_l01Long.f
  simp only [if_pos h0, if_pos (show n.toNat ≤ 281474976710656 by omega)]
  exact long_loop n c hn n.toNat 0 _ (by rw [List.length_replicate]; omega) (by omega) (by omega) (by omega)

/-! ### all -/
def allF (p : Nat → Bool) (j : Nat) : Nat → Bool
  | 0 => true
  | d + 1 => p j && allF p (j + 1) d
/-- A loop that asks the same of each place, one after the other, and then something more. -/
theorem all_ev {F : Nat → Nat → Option Bool} {n : Nat} {p : Nat → Bool} {R : Bool}
    (hs : ∀ j, j < n → (p j = true → ∀ r, Ev (fun k => F k (j + 1)) r → Ev (fun k => F k j) r) ∧ (p j = false → Ev (fun k => F k j) false))
    (he : Ev (fun k => F k n) R) : ∀ d j, n - j = d → j ≤ n → Ev (fun k => F k j) (allF p j d && R) := by
  intro d
  induction d with
  | zero =>
    intro j hd hj
    obtain rfl : j = n := by omega
    simpa [allF] using he
  | succ d ih =>
    intro j hd hj
    have h := hs j (by omega)
    cases hp : p j with
    | true =>
      have := ih (j + 1) (by omega) (by omega)
      simp only [allF, hp, Bool.true_and]
      exact h.1 hp _ this
    | false =>
      simp only [allF, hp, Bool.false_and]
      exact h.2 hp
theorem Ev.here {α : Type} {F f : Nat → Option α} {r : α} (hs : ∀ k, F (k + 1) = f k) (h : ∀ k, f k = some r) : Ev F r := Ev.step hs ⟨0, fun k _ => h k⟩

/-! ### in -/
def rng (a b c : Int) : Bool := decide (b ≤ a) && decide (a ≤ c)
theorem rng_iff {a b c : Int} : rng a b c = true ↔ b ≤ a ∧ a ≤ c := by simp [rng]
theorem rng_false {a b c : Int} : rng a b c = false ↔ ¬ (b ≤ a ∧ a ≤ c) := by rw [← rng_iff]; simp
theorem in_eq (a b c : Int) : spec_l01In.f a b c = some (rng a b c) := by
  unfold spec_l01In.f rng
  by_cases h : b ≤ a
  · rw [if_pos h]; simp [h]
  · rw [if_neg h]; simp [h]
theorem within_eq (a b c : Int) : impl_within.f a b c = some (rng a b c) := by
  unfold impl_within.f rng
  by_cases h : b ≤ a
  · rw [if_pos h]; simp [h]
  · rw [if_neg h]; simp [h]

/-! ### loops -/
/-- A loop upward whose rounds do nothing but go on. -/
theorem up_loop {β : Type} {F : Nat → Int → Option β} {n : Nat} {r : β} (hs : ∀ k (j : Nat), j < n → F (k + 1) (j : Int) = F k ((j + 1 : Nat) : Int)) (he : ∀ k, F (k + 1) (n : Int) = some r) :
    ∀ (d j : Nat), n - j = d → j ≤ n → ∀ k, d < k → F k (j : Int) = some r := by
  intro d
  induction d with
  | zero =>
    intro j hd hj k hk
    obtain ⟨k, rfl⟩ : ∃ m, k = m + 1 := ⟨k - 1, by omega⟩
    obtain rfl : j = n := by omega
    exact he k
  | succ d ih =>
    intro j hd hj k hk
    obtain ⟨k, rfl⟩ : ∃ m, k = m + 1 := ⟨k - 1, by omega⟩
    rw [hs k j (by omega)]
    exact ih (j + 1) (by omega) (by omega) k (by omega)
/-- A loop that turns each element of a list into one of a list that was made. -/
theorem map_loop {α β : Type} {F : Nat → List β → Int → Option (List β)} {g : α → β} {l : List α}
    (hs : ∀ k (acc : List β) (j : Nat) (hj : j < l.length), acc.length = l.length → F (k + 1) acc (j : Int) = F k (acc.set j (g l[j])) ((j + 1 : Nat) : Int))
    (he : ∀ k (acc : List β), F (k + 1) acc (l.length : Int) = some acc) :
    ∀ (d j : Nat) (acc : List β), l.length - j = d → j ≤ l.length → acc.length = l.length → (∀ i, i < j → acc[i]? = (l[i]?).map g) → ∀ k, d < k → F k acc (j : Int) = some (l.map g) := by
  intro d
  induction d with
  | zero =>
    intro j acc hd hj hl ha k hk
    obtain ⟨k, rfl⟩ : ∃ m, k = m + 1 := ⟨k - 1, by omega⟩
    obtain rfl : j = l.length := by omega
    rw [he]
    congr 1
    apply List.ext_getElem?
    intro i
    rw [List.getElem?_map]
    by_cases hi : i < l.length
    · exact ha i hi
    · rw [List.getElem?_eq_none (by omega), List.getElem?_eq_none (by omega)]; rfl
  | succ d ih =>
    intro j acc hd hj hl ha k hk
    obtain ⟨k, rfl⟩ : ∃ m, k = m + 1 := ⟨k - 1, by omega⟩
    have hjl : j < l.length := by omega
    rw [hs k acc j hjl hl]
    refine ih (j + 1) _ (by omega) (by omega) (by rw [List.length_set]; exact hl) (fun i hi => ?_) k (by omega)
    by_cases hij : i = j
    · subst hij
      rw [List.getElem?_set_self (by omega), List.getElem?_eq_getElem hjl]
      rfl
    · rw [List.getElem?_set_ne (fun h => hij h.symm)]
      exact ha i (by omega)
theorem getD_at {α : Type} {l : List α} {j : Nat} (z : α) (h : j < l.length) : l.getD (j : Int).toNat z = l[j] := by
  simp [List.getD_eq_getElem?_getD, List.getElem?_eq_getElem h]

/-! ### bl -/
theorem bl_inj {s t : ByteArray} (h : bytesOf s = bytesOf t) : s = t := by
  unfold bytesOf at h
  have h2 : s.data.toList = t.data.toList := by
    apply List.ext_getElem?
    intro i
    have h3 := congrArg (fun l => l[i]?) h
    simp only [List.getElem?_map] at h3
    cases h4 : s.data.toList[i]? <;> cases h5 : t.data.toList[i]? <;> rw [h4, h5] at h3 <;> simp at h3 ⊢
    exact UInt8.toNat_inj.1 (by omega)
  exact ByteArray.ext (by rw [← Array.toArray_toList (xs := s.data), h2])
theorem bl_app (s t : ByteArray) : bytesOf (s ++ t) = bytesOf s ++ bytesOf t := by
  unfold bytesOf
  rw [ByteArray.toList_data_append, List.map_append]
theorem bl_ext (s : ByteArray) (a b : Nat) : bytesOf (s.extract a b) = ((bytesOf s).drop a).take (b - a) := by
  unfold bytesOf
  rw [ByteArray.data_extract, Array.toList_extract, ← List.map_drop, ← List.map_take] <;> simp [List.extract_eq_drop_take]
theorem bl_range {s : ByteArray} : ∀ x ∈ bytesOf s, 0 ≤ x ∧ x ≤ 255 := by
  intro x hx
  obtain ⟨b, _, rfl⟩ := List.mem_map.1 hx
  have := b.toNat_lt
  omega
theorem bl_str {l : List Int} (h : ∀ x ∈ l, 0 ≤ x ∧ x ≤ 255) : bytesOf (strOfNums l) = l := by
  unfold bytesOf
  rw [strOfNums_data, List.map_map]
  have : ∀ x ∈ l, ((fun b : UInt8 => (b.toNat : Int)) ∘ fun n : Int => UInt8.ofNat n.toNat) x = x := by
    intro x hx
    have := h x hx
    simp only [Function.comp, UInt8.toNat_ofNat']
    omega
  rw [List.map_congr_left this, List.map_id']
theorem str_bl (s : ByteArray) : strOfNums (bytesOf s) = s := bl_inj (bl_str bl_range)
theorem bl_empty : bytesOf (⟨#[]⟩ : ByteArray) = [] := rfl
theorem bt_bl (s : ByteArray) (i : Int) : bt s i = rd (bytesOf s) i := (rd_bytesOf s i).symm
theorem toList_iff {s t : ByteArray} : s.toList = t.toList ↔ s = t := by
  rw [ByteArray.toList_eq, ByteArray.toList_eq]
  constructor
  · intro h; exact ByteArray.ext (by rw [← Array.toArray_toList (xs := s.data), h])
  · intro h; rw [h]
theorem toList_nil {s : ByteArray} : s.toList = ([] : List UInt8) ↔ bytesOf s = [] := by
  rw [ByteArray.toList_eq]
  unfold bytesOf
  simp

/-! ### conf -/
def pC (l : List Int) (j : Nat) : Bool := rng (rd l (j : Int)) 1 4 && (!decide ((j : Int) > 0) || !decide (rd l ((j : Int) - 1) ≥ rd l (j : Int)))
def riseB (l : List Int) : Bool := allF (pC l) 0 l.length
def confB (l : List Int) : Bool := decide (0 < l.length) && riseB l
theorem allF_all {p : Nat → Bool} : ∀ d j, allF p j d = true → ∀ i, j ≤ i → i < j + d → p i = true := by
  intro d
  induction d with
  | zero => intro j _ i h1 h2; omega
  | succ d ih =>
    intro j h i h1 h2
    unfold allF at h
    rw [Bool.and_eq_true] at h
    by_cases hij : i = j
    · subst hij; exact h.1
    · exact ih (j + 1) h.2 i (by omega) (by omega)
theorem rise_up {l : List Int} (h : riseB l = true) : ∀ i, i < l.length → (i : Int) + 1 ≤ rd l (i : Int) ∧ rd l (i : Int) ≤ 4 := by
  intro i
  induction i with
  | zero =>
    intro hi
    have := allF_all _ _ h 0 (by omega) (by omega)
    unfold pC at this
    simp only [Bool.and_eq_true, rng_iff] at this
    omega
  | succ i ih =>
    intro hi
    have h0 := ih (by omega)
    have := allF_all _ _ h (i + 1) (by omega) (by omega)
    unfold pC at this
    simp only [Bool.and_eq_true, Bool.or_eq_true, Bool.not_eq_true', decide_eq_false_iff_not, rng_iff] at this
    obtain ⟨h1, h2⟩ := this
    have e : ((i + 1 : Nat) : Int) - 1 = (i : Int) := by omega
    rw [e] at h2
    rcases h2 with h2 | h2
    · exact absurd (show ((i + 1 : Nat) : Int) > 0 by omega) h2
    · omega
theorem rise_len {l : List Int} (h : riseB l = true) : l.length ≤ 4 := by
  rcases Nat.lt_or_ge l.length 5 with h5 | h5
  · omega
  · have := rise_up h 4 (by omega)
    omega
theorem conf_len {l : List Int} (h : confB l = true) : 1 ≤ l.length ∧ l.length ≤ 4 := by
  unfold confB at h
  simp only [Bool.and_eq_true, decide_eq_true_eq] at h
  exact ⟨by omega, rise_len h.2⟩
theorem conf_rng {l : List Int} (h : confB l = true) : ∀ x ∈ l, 1 ≤ x ∧ x ≤ 4 := by
  intro x hx
  unfold confB at h
  simp only [Bool.and_eq_true, decide_eq_true_eq] at h
  obtain ⟨i, hi, rfl⟩ := List.mem_iff_getElem.1 hx
  have := rise_up h.2 i hi
  have e : rd l (i : Int) = l[i] := by unfold rd; simp [List.getD_eq_getElem?_getD, List.getElem?_eq_getElem hi]
  rw [e] at this
  omega
theorem spec_rise (l : List Int) (hl : l.length ≤ 2000000) : Ev (fun k => spec_l05Rise.f k l 1 4) (riseB l) := by
  have h := all_ev (F := fun k j => spec_l05Rise.l0 k l 1 4 (j : Int)) (p := pC l) (R := true) (n := l.length) (fun j hj => ?_) ?_ l.length 0 (by omega) (by omega)
  · rw [Bool.and_true] at h
    exact h
  · have es : ∀ k, spec_l05Rise.l0 (k + 1) l 1 4 (j : Int) = if pC l j = true then spec_l05Rise.l0 k l 1 4 ((j + 1 : Nat) : Int) else some false := fun k => by
      simp only [spec_l05Rise.l0]
      rw [if_pos (by omega), if_pos (by omega)]
      simp only [in_eq, Option.bind_some]
      try simp only [spec_l05Rise.j1]
      rw [w64 (x := (j : Int) + 1) (by omega) (by omega), w64 (x := (j : Int) - 1) (by omega) (by omega)]
      unfold pC
      have e1 : ((j : Int) + 1) = ((j + 1 : Nat) : Int) := by omega
      rw [e1]
      by_cases h0 : (j : Int) > 0
      · simp only [h0, show (0 : Int) ≤ (j : Int) - 1 by omega, show (j : Int) - 1 < (l.length : Int) by omega, if_true]
        cases h1 : rng (rd l (j : Int)) 1 4 <;> by_cases h3 : rd l ((j : Int) - 1) ≥ rd l (j : Int) <;> simp [h1, h3]
      · simp only [h0, if_false]
        cases h1 : rng (rd l (j : Int)) 1 4 <;> simp [h1]
    refine ⟨fun hp r hr => Ev.step (fun k => by rw [es, if_pos hp]) hr, fun hp => Ev.here (f := fun _ => some false) (fun k => by rw [es, if_neg (by simp [hp])]) (fun _ => rfl)⟩
  · exact Ev.here (f := fun _ => some true) (fun k => by simp only [spec_l05Rise.l0]; rw [if_neg (by omega)]) (fun _ => rfl)
theorem spec_conf (l : List Int) (hl : l.length ≤ 2000000) : Ev (fun k => spec_ConfOk.f k l) (confB l) := by
  unfold spec_ConfOk.f
  simp only [in_eq, Option.bind_some]
  cases hr : rng (l.length : Int) 1 4 with
  | false =>
    simp only [Bool.false_eq_true, if_false]
    have : confB l = false := by
      cases hc : confB l with
      | false => rfl
      | true =>
        have := conf_len hc
        have := rng_false.1 hr
        omega
    rw [this]
    exact Ev.now _
  | true =>
    have hh := rng_iff.1 hr
    have : confB l = riseB l := by unfold confB; simp; omega
    rw [this]
    simp only [if_true]
    refine Ev.bind (spec_rise l hl) ?_
    exact Ev.now _
theorem impl_rise (l : List Int) (hl : l.length ≤ 2000000) : Ev (fun k => impl_nodesOk.f k l) (riseB l) := by
  have h := all_ev (F := fun k j => impl_nodesOk.l0 k l l (l.length : Int) (j : Int)) (p := pC l) (R := true) (n := l.length) (fun j hj => ?_) ?_ l.length 0 (by omega) (by omega)
  · rw [Bool.and_true] at h
    exact h
  · have es : ∀ k, impl_nodesOk.l0 (k + 1) l l (l.length : Int) (j : Int) = if pC l j = true then impl_nodesOk.l0 k l l (l.length : Int) ((j + 1 : Nat) : Int) else some false := fun k => by
      simp only [impl_nodesOk.l0]
      rw [if_pos (by omega), if_pos (by omega), if_pos (by omega)]
      simp only [impl_isNode.f, within_eq, Option.bind_some]
      try simp only [impl_nodesOk.j1]
      rw [w64 (x := (j : Int) + 1) (by omega) (by omega), w64 (x := (j : Int) - 1) (by omega) (by omega)]
      unfold pC
      have e1 : ((j : Int) + 1) = ((j + 1 : Nat) : Int) := by omega
      rw [e1]
      by_cases h0 : (j : Int) > 0
      · simp only [h0, show (0 : Int) ≤ (j : Int) - 1 by omega, show (j : Int) - 1 < (l.length : Int) by omega, if_true]
        cases h1 : rng (rd l (j : Int)) 1 4 <;> by_cases h3 : rd l ((j : Int) - 1) ≥ rd l (j : Int) <;> simp [h1, h3]
      · simp only [h0, if_false]
        cases h1 : rng (rd l (j : Int)) 1 4 <;> simp [h1]
    refine ⟨fun hp r hr => Ev.step (fun k => by rw [es, if_pos hp]) hr, fun hp => Ev.here (f := fun _ => some false) (fun k => by rw [es, if_neg (by simp [hp])]) (fun _ => rfl)⟩
  · exact Ev.here (f := fun _ => some true) (fun k => by simp only [impl_nodesOk.l0]; rw [if_neg (by omega)]) (fun _ => rfl)
theorem impl_conf (l : List Int) (hl : l.length ≤ 2000000) : Ev (fun k => impl_ConfOk.f k l) (confB l) := by
  unfold impl_ConfOk.f
  by_cases h : (l.length : Int) > 0
  · have : confB l = riseB l := by unfold confB; simp; omega
    rw [this]
    simp only [if_pos h]
    refine Ev.bind (impl_rise l hl) ?_
    exact Ev.now _
  · have : confB l = false := by unfold confB; simp; omega
    rw [this]
    simp only [if_neg h]
    exact Ev.now _
def confR (s : ByteArray) : List Int × Bool := if confB (bytesOf s) = true then (bytesOf s, true) else ([], false)
theorem wbt (s : ByteArray) (j : Nat) (hj : j < s.size) : wrap64 (bt s (j : Int)) = (bytesOf s)[j]'(by rw [bytesOf_length]; exact hj) := by
  have hl : j < (bytesOf s).length := by rw [bytesOf_length]; exact hj
  have e : bt s (j : Int) = (bytesOf s)[j] := by rw [bt_bl]; unfold rd; simp [List.getD_eq_getElem?_getD, List.getElem?_eq_getElem hl]
  have := bl_range (s := s) _ (List.getElem_mem hl)
  rw [e, w64 (by omega) (by omega)]
theorem impl_rc_loop (s : ByteArray) (hs : s.size ≤ 2000000) : ∀ (d j : Nat), s.size - j = d → j ≤ s.size → Ev (fun k => impl_ReadConf.l0 k s ((bytesOf s).take j) (j : Int)) (confR s) := by
  intro d
  induction d with
  | zero =>
    intro j hd hj
    have hj' : (bytesOf s).take j = bytesOf s := List.take_of_length_le (by rw [bytesOf_length]; omega)
    rw [hj']
    refine Ev.step (fun k => by simp only [impl_ReadConf.l0]; rw [if_neg (by omega)]) ?_
    refine Ev.bind (impl_conf _ (by rw [bytesOf_length]; exact hs)) ?_
    unfold confR
    cases confB (bytesOf s) <;> exact Ev.now _
  | succ d ih =>
    intro j hd hj
    have hl : j < (bytesOf s).length := by rw [bytesOf_length]; omega
    refine Ev.step (fun k => by simp only [impl_ReadConf.l0]; rw [if_pos (by omega), if_pos (by omega), if_pos (by rw [List.length_take]; omega), w64 (x := (j : Int) + 1) (by omega) (by omega), wbt s j (by omega), List.take_append_getElem hl]) ?_
    exact ih (j + 1) (by omega) (by omega)
theorem impl_readconf (s : ByteArray) (hs : s.size ≤ 2000000) : Ev (fun k => impl_ReadConf.f k s) (confR s) := by
  have := impl_rc_loop s hs s.size 0 (by omega) (by omega)
  rw [List.take_zero] at this
  exact this
theorem spec_rc_loop (s : ByteArray) (hs : s.size ≤ 2000000) : ∀ (d j : Nat), 5 - j = d → j ≤ 5 → j ≤ s.size → Ev (fun k => spec_ReadConf.l0 k s ((bytesOf s).take j) (j : Int)) (confR s) := by
  have hend : ∀ j : Nat, j = s.size → Ev (fun k => spec_ReadConf.l0 k s ((bytesOf s).take j) (j : Int)) (confR s) := by
    intro j hj
    have hj' : (bytesOf s).take j = bytesOf s := List.take_of_length_le (by rw [bytesOf_length]; omega)
    rw [hj']
    have hlen := bytesOf_length s
    refine Ev.step (f := fun k => (spec_ConfOk.f k (bytesOf s)).bind fun v => if v = true then some (bytesOf s, true) else some ([], false)) (fun k => by
      simp only [spec_ReadConf.l0]; rw [if_neg (by omega)]
      try simp only [spec_ReadConf.j1]
      rw [if_pos (by omega)]) ?_
    refine Ev.bind (spec_conf _ (by rw [bytesOf_length]; exact hs)) ?_
    unfold confR
    cases confB (bytesOf s) <;> exact Ev.now _
  intro d
  induction d with
  | zero =>
    intro j hd hj hjs
    by_cases he : j = s.size
    · exact hend j he
    · have hlen := bytesOf_length s
      have hc : confR s = ([], false) := by
        unfold confR
        cases hc : confB (bytesOf s) with
        | false => simp
        | true =>
          have := conf_len hc
          omega
      rw [hc]
      refine Ev.here (f := fun _ => some ([], false)) (fun k => ?_) (fun _ => rfl)
      simp only [spec_ReadConf.l0]
      rw [if_pos (by omega), if_neg (by omega)]
      try simp only [spec_ReadConf.j1]
      rw [if_neg (by rw [List.length_take]; omega)]
  | succ d ih =>
    intro j hd hj hjs
    by_cases he : j = s.size
    · exact hend j he
    · have hl : j < (bytesOf s).length := by rw [bytesOf_length]; omega
      refine Ev.step (fun k => by simp only [spec_ReadConf.l0]; rw [if_pos (by omega), if_pos (by omega), if_pos (by omega), if_pos (by rw [List.length_take]; omega), w64 (x := (j : Int) + 1) (by omega) (by omega), wbt s j (by omega), List.take_append_getElem hl]) ?_
      exact ih (j + 1) (by omega) (by omega) (by omega)
theorem spec_readconf (s : ByteArray) (hs : s.size ≤ 2000000) : Ev (fun k => spec_ReadConf.f k s) (confR s) := by
  have := spec_rc_loop s hs 5 0 (by omega) (by omega) (by omega)
  rw [List.take_zero] at this
  exact this

/-! ### bytes -/

/-! ### conftext -/
def confT (l : List Int) : ByteArray := strOfNums (l.map (· % 256))
def confO (l : List Int) : ByteArray × Bool := if confB l = true then (confT l, true) else ((⟨#[]⟩ : ByteArray), false)
theorem confO_size (l : List Int) : (confO l).1.size ≤ 4 := by
  unfold confO
  by_cases h : confB l = true
  · rw [if_pos h]
    have := conf_len h
    show (confT l).size ≤ 4
    unfold confT
    rw [strOfNums_size, List.length_map]
    exact this.2
  · rw [if_neg h]
    show 0 ≤ 4
    omega
theorem conf_mod {l : List Int} (h : confB l = true) : l.map (· % 256) = l := by
  have := conf_rng h
  have e : l.map (· % 256) = l.map id := List.map_congr_left (fun x hx => by have := this x hx; show x % 256 = x; omega)
  rw [e, List.map_id]
theorem conf_back {l : List Int} (h : confB l = true) : bytesOf (confT l) = l := by
  unfold confT
  rw [conf_mod h, bl_str]
  intro x hx
  have := conf_rng h x hx
  omega
theorem spec_ct_loop (l : List Int) (hl : l.length ≤ 2000000) : ∀ (d j : Nat), l.length - j = d → j ≤ l.length → Ev (fun k => spec_ConfText.l0 k l ((l.map (· % 256)).take j) (j : Int)) (confT l, true) := by
  intro d
  induction d with
  | zero =>
    intro j hd hj
    rw [List.take_of_length_le (by rw [List.length_map]; omega)]
    exact Ev.step (f := fun _ => some (strOfNums (l.map (· % 256)), true)) (fun k => by simp only [spec_ConfText.l0]; rw [if_neg (by omega)]) (Ev.now _)
  | succ d ih =>
    intro j hd hj
    have hjl : j < l.length := by omega
    have hm : j < (l.map (· % 256)).length := by rw [List.length_map]; exact hjl
    have e : rd l (j : Int) % 256 = (l.map (· % 256))[j] := by
      rw [List.getElem_map]
      unfold rd
      simp [List.getD_eq_getElem?_getD, List.getElem?_eq_getElem hjl]
    refine Ev.step (fun k => by simp only [spec_ConfText.l0]; rw [if_pos (by omega), if_pos (by omega), if_pos (by rw [List.length_take, List.length_map]; omega), e, List.take_append_getElem hm, w64 (x := (j : Int) + 1) (by omega) (by omega)]) ?_
    exact ih (j + 1) (by omega) (by omega)
theorem spec_conftext (l : List Int) (hl : l.length ≤ 2000000) : Ev (fun k => spec_ConfText.f k l) (confO l) := by
  unfold spec_ConfText.f
  refine Ev.bind (spec_conf l hl) ?_
  unfold confO
  by_cases h : confB l = true
  · simp only [if_pos h]
    have := spec_ct_loop l hl l.length 0 (by omega) (by omega)
    rw [List.take_zero] at this
    exact this
  · simp only [if_neg h]
    exact Ev.now _

/-! ### var -/
def varL : Nat → Int → List Int
  | 0, x => [x % 256]
  | d + 1, x => if x > 127 then (x % 128 + 128) % 256 :: varL d (x / 128) else [x % 256]
theorem varL_length : ∀ d x, (varL d x).length ≤ d + 1 := by
  intro d
  induction d with
  | zero => intro x; simp [varL]
  | succ d ih =>
    intro x
    unfold varL
    split
    · have := ih (x / 128); simp only [List.length_cons]; omega
    · simp
def varT (x : Int) : ByteArray := strOfNums (varL 8 x)
theorem varT_size (x : Int) : (varT x).size ≤ 9 := by
  unfold varT
  rw [strOfNums_size]
  exact varL_length 8 x
theorem spec_var_loop : ∀ (d : Nat) (x : Int) (acc : List Int), 0 ≤ x → x < 128 ^ (d + 1) → x ≤ 9223372036854775807 → acc.length + d ≤ 1000 → ∀ k, d < k → spec_l01Var.l0 k x acc = some (strOfNums (acc ++ varL d x)) := by
  intro d
  induction d with
  | zero =>
    intro x acc h0 h1 h2 h3 k hk
    obtain ⟨k, rfl⟩ : ∃ m, k = m + 1 := ⟨k - 1, by omega⟩
    simp only [spec_l01Var.l0, varL]
    rw [if_neg (by omega), if_pos (by omega)]
  | succ d ih =>
    intro x acc h0 h1 h2 h3 k hk
    obtain ⟨k, rfl⟩ : ∃ m, k = m + 1 := ⟨k - 1, by omega⟩
    simp only [spec_l01Var.l0, varL]
    by_cases hx : x > 127
    · have hp : (128 : Int) ^ (d + 1 + 1) = 128 ^ (d + 1) * 128 := Int.pow_succ 128 (d + 1)
      rw [if_pos hx, if_pos (by omega), if_pos hx, Int.tdiv_eq_ediv_of_nonneg h0, Int.tmod_eq_emod_of_nonneg h0, w64 (x := x / 128) (by omega) (by omega), w64 (x := x % 128 + 128) (by omega) (by omega)]
      rw [ih (x / 128) (acc ++ [(x % 128 + 128) % 256]) (by omega) (by omega) (by omega) (by rw [List.length_append, List.length_singleton]; omega) k (by omega), List.append_assoc]
      rfl
    · rw [if_neg hx, if_pos (by omega), if_neg hx]
theorem spec_var (x : Int) (h0 : 0 ≤ x) (h1 : x ≤ 1000000000) : Ev (fun k => spec_l01Var.f k x) (varT x) := ⟨9, fun k hk => by
  exact spec_var_loop 8 x [] h0 (by omega) (by omega) (by simp) k (by omega)⟩
def shortT (s : ByteArray) : ByteArray := varT (s.size : Int) ++ s
theorem shortT_size (s : ByteArray) : (shortT s).size ≤ s.size + 9 := by
  have := varT_size (s.size : Int)
  unfold shortT
  rw [ByteArray.size_append]
  omega
theorem spec_short (s : ByteArray) (hs : s.size ≤ 1000000000) : Ev (fun k => spec_l16Short.f k s) (shortT s) := by
  unfold spec_l16Short.f
  refine Ev.bind (spec_var (s.size : Int) (by omega) (by omega)) ?_
  have := varT_size (s.size : Int)
  simp only [if_pos (show (varT (s.size : Int)).size + s.size ≤ 9223372036854775807 by omega)]
  exact Ev.now _
def catB {α : Type} (f : α → ByteArray) : List α → ByteArray
  | [] => (⟨#[]⟩ : ByteArray)
  | x :: l => f x ++ catB f l
theorem app_empty (s : ByteArray) : s ++ (⟨#[]⟩ : ByteArray) = s := bl_inj (by rw [bl_app, bl_empty, List.append_nil])
theorem empty_app (s : ByteArray) : (⟨#[]⟩ : ByteArray) ++ s = s := bl_inj (by rw [bl_app, bl_empty, List.nil_append])

/-! ### cmdspec -/
theorem toList_size {s : ByteArray} (h : s.toList = ([] : List UInt8)) : s.size = 0 := by
  have h1 := toList_nil.1 h
  have h2 := bytesOf_length s
  rw [h1] at h2
  simpa using h2.symm
theorem commandOk_rng (o t q : Int) (key val : ByteArray) (v : Int) (k : Nat) (h : spec_CommandOk.f (k + 2) o t q key val v = some true) : (0 ≤ t ∧ t ≤ 1000000) ∧ (0 ≤ q ∧ q ≤ 1000000) ∧ (0 ≤ v ∧ v ≤ 1000000000) ∧ (1 ≤ o ∧ o ≤ 5) ∧ key.size ≤ 8 ∧ val.size ≤ 20 := by
  unfold spec_CommandOk.f at h
  simp only [in_eq, Option.bind_some, spec_CommandOk.j0, spec_CommandOk.j1] at h
  cases ht : rng t 0 1000000 with
  | false => simp [ht] at h
  | true =>
    cases hq : rng q 0 1000000 with
    | false => simp [ht, hq] at h
    | true =>
      cases ho : rng o 1 5 with
      | false => simp [ht, hq, ho] at h
      | true =>
        refine ⟨rng_iff.1 ht, rng_iff.1 hq, ?_⟩
        simp only [ht, hq, ho, if_true, Bool.not_true, Bool.false_eq_true, if_false] at h
        by_cases h1 : o = 1
        · subst h1
          by_cases c : key.toList = []
          · by_cases d : val.toList = []
            · by_cases hv : v = 0
              · have := toList_size c
                have := toList_size d
                exact ⟨by omega, by omega, by omega, by omega⟩
              · exfalso
                revert h
                by_cases h7 : t = 0 <;> by_cases h8 : q = 0 <;> simp [h7, h8, hv, c, d]
            · simp [c, d] at h
          · simp [c] at h
        · simp only [if_neg h1] at h
          cases hk : rng (key.size : Int) 1 8 with
          | false => simp [hk] at h
          | true =>
            have hk' := rng_iff.1 hk
            simp only [hk, if_true, decide_eq_true_eq] at h
            by_cases hv20 : (val.size : Int) > 20
            · simp [hv20] at h
            · simp only [if_neg hv20] at h
              refine ⟨?_, rng_iff.1 ho, by omega, by omega⟩
              by_cases h2 : o = 2
              · simp only [if_pos h2, Option.some.injEq, beq_iff_eq] at h
                omega
              · by_cases h5 : o = 5
                · simp only [if_neg h2, if_pos h5, Option.some.injEq] at h
                  have := rng_iff.1 h
                  omega
                · by_cases d : val.toList = []
                  · simp only [if_neg h2, if_neg h5, if_pos d, Option.some.injEq, beq_iff_eq] at h
                    omega
                  · simp [h2, h5, d] at h
def cmdT (o t q : Int) (key val : ByteArray) (v : Int) : ByteArray := strOfNums [o % 256] ++ varT t ++ varT q ++ shortT key ++ shortT val ++ varT v
theorem spec_cmd_k (o t q : Int) (key val : ByteArray) (v : Int) (k : Nat) : spec_CommandOk.f (k + 3) o t q key val v = spec_CommandOk.f (0 + 3) o t q key val v := by
  unfold spec_CommandOk.f
  simp only [spec_CommandOk.j0, spec_CommandOk.j1]
theorem spec_cmd_ev (o t q : Int) (key val : ByteArray) (v : Int) : ∃ b, Ev (fun k => spec_CommandOk.f k o t q key val v) b ∧ (b = true → (0 ≤ t ∧ t ≤ 1000000) ∧ (0 ≤ q ∧ q ≤ 1000000) ∧ (0 ≤ v ∧ v ≤ 1000000000) ∧ (1 ≤ o ∧ o ≤ 5) ∧ key.size ≤ 8 ∧ val.size ≤ 20) := by
  have ht : (spec_CommandOk.f (0 + 3) o t q key val v).isSome = true := by
    unfold spec_CommandOk.f
    simp only [in_eq, Option.bind_some, spec_CommandOk.j0, spec_CommandOk.j1]
    repeat' split
    all_goals rfl
  obtain ⟨b, hb⟩ := Option.isSome_iff_exists.1 ht
  refine ⟨b, ⟨3, fun k hk => ?_⟩, fun h => ?_⟩
  · obtain ⟨m, rfl⟩ : ∃ m, k = m + 3 := ⟨k - 3, by omega⟩
    show spec_CommandOk.f (m + 3) o t q key val v = some b
    rw [spec_cmd_k]
    exact hb
  · subst h
    exact commandOk_rng o t q key val v 1 hb
theorem spec_cmdtext (o t q : Int) (key val : ByteArray) (v : Int) {b : Bool} (f1 : Ev (fun k => spec_CommandOk.f k o t q key val v) b) (hb : b = true → (0 ≤ t ∧ t ≤ 1000000) ∧ (0 ≤ q ∧ q ≤ 1000000) ∧ (0 ≤ v ∧ v ≤ 1000000000) ∧ (1 ≤ o ∧ o ≤ 5) ∧ key.size ≤ 8 ∧ val.size ≤ 20) :
    Ev (fun k => spec_CommandText.f k o t q key val v) (if b = true then (cmdT o t q key val v, true) else ((⟨#[]⟩ : ByteArray), false)) := by
  unfold spec_CommandText.f
  refine Ev.bind f1 ?_
  cases b with
  | false =>
    simp only [Bool.false_eq_true, if_false]
    exact Ev.now _
  | true =>
    obtain ⟨ht, hq, hv, ho, hk, hl⟩ := hb rfl
    have h1 : (strOfNums [o % 256]).size = 1 := by rw [strOfNums_size]; rfl
    have h2 := varT_size t
    have h3 := varT_size q
    have h4 := shortT_size key
    have h5 := shortT_size val
    have h6 := varT_size v
    simp only [if_true, Option.bind_some]
    refine Ev.bind (spec_var t ht.1 (by omega)) ?_
    simp only [if_pos (show (strOfNums [o % 256]).size + (varT t).size ≤ 9223372036854775807 by omega)]
    refine Ev.bind (spec_var q hq.1 (by omega)) ?_
    simp only [if_pos (show (strOfNums [o % 256] ++ varT t).size + (varT q).size ≤ 9223372036854775807 by rw [ByteArray.size_append]; omega)]
    refine Ev.bind (spec_short key (by omega)) ?_
    simp only [if_pos (show (strOfNums [o % 256] ++ varT t ++ varT q).size + (shortT key).size ≤ 9223372036854775807 by rw [ByteArray.size_append, ByteArray.size_append]; omega)]
    refine Ev.bind (spec_short val (by omega)) ?_
    simp only [if_pos (show (strOfNums [o % 256] ++ varT t ++ varT q ++ shortT key).size + (shortT val).size ≤ 9223372036854775807 by rw [ByteArray.size_append, ByteArray.size_append, ByteArray.size_append]; omega)]
    refine Ev.bind (spec_var v hv.1 hv.2) ?_
    simp only [if_pos (show (strOfNums [o % 256] ++ varT t ++ varT q ++ shortT key ++ shortT val).size + (varT v).size ≤ 9223372036854775807 by rw [ByteArray.size_append, ByteArray.size_append, ByteArray.size_append, ByteArray.size_append]; omega)]
    exact Ev.now _

/-! ### entrydraw -/
theorem tConf_loop {b : List Int} (hb : b.length ≤ 1048576) : ∀ (d : Nat) (l : List Int) (x i h : Int), 5 - x = d → x ≤ 5 → 1 ≤ x → (l.length : Int) ≤ x → Cur b i → Tot (fun k => spec_l05Conf.l0 k l x b i h) (fun r => r.1.length ≤ 5 ∧ Cur b r.2.1) := by
  intro d
  induction d with
  | zero =>
    intro l x i h hd h5 h1 hl hi
    refine Tot.step (fun k => rfl) ?_
    simp only [spec_l05Conf.l0, if_neg (show ¬ x ≤ 4 by omega)]
    by_cases h0 : (l.length : Int) = 0
    · simp only [if_pos h0, if_pos (show l.length < 17592186044416 by omega)]
      exact Tot.ret _ ⟨by show (l ++ [1]).length ≤ 5; rw [List.length_append, List.length_singleton]; omega, hi⟩
    · simp only [if_neg h0]
      exact Tot.ret _ ⟨by show l.length ≤ 5; omega, hi⟩
  | succ d ih =>
    intro l x i h hd h5 h1 hl hi
    refine Tot.step (fun k => rfl) ?_
    simp only [spec_l05Conf.l0, if_pos (show x ≤ 4 by omega)]
    refine Tot.bind (tOnce h 2 hb hi) fun r hr => ?_
    by_cases hr1 : r.1 = true
    · simp only [if_pos hr1, if_pos (show l.length < 17592186044416 by omega), w64 (x := x + 1) (by omega) (by omega)]
      exact ih _ _ _ _ (by omega) (by omega) (by omega) (by rw [List.length_append, List.length_singleton]; omega) hr
    · simp only [if_neg hr1, w64 (x := x + 1) (by omega) (by omega)]
      exact ih _ _ _ _ (by omega) (by omega) (by omega) (by omega) hr
theorem tConf {b : List Int} {i : Int} (h : Int) (hb : b.length ≤ 1048576) (hi : Cur b i) : Tot (fun k => spec_l05Conf.f k b i h) (fun r => r.1.length ≤ 5 ∧ Cur b r.2.1) :=
  tConf_loop hb 4 [] 1 i h (by omega) (by omega) (by omega) (by simp) hi
theorem item_tot (a : List S83) (l : List S81) (s : ByteArray) (hl : l.length ≤ 1048576) : ∀ (d j : Nat), l.length - j = d → j ≤ l.length → Tot (fun k => spec_ItemOf.l0 k s (j : Int) a l) (fun _ => True) := by
  intro d
  induction d with
  | zero =>
    intro j hd hj
    refine Tot.step (fun k => rfl) ?_
    simp only [spec_ItemOf.l0, if_neg (show ¬ (j : Int) < (l.length : Int) by omega)]
    exact Tot.ret _ trivial
  | succ d ih =>
    intro j hd hj
    refine Tot.step (fun k => rfl) ?_
    simp only [spec_ItemOf.l0, if_pos (show (j : Int) < (l.length : Int) by omega), if_pos (show (0 : Int) ≤ (j : Int) by omega), w64 (x := (j : Int) + 1) (by omega) (by omega)]
    by_cases h : (rd_T81 l (j : Int)).f0.toList = s.toList
    · simp only [if_pos h]
      exact Tot.ret _ trivial
    · simp only [if_neg h]
      exact ih (j + 1) (by omega) (by omega)
theorem tOf1 {b : List Int} {i : Int} (h : Int) (hb : b.length ≤ 1048576) (hi : Cur b i) (q : Bool) (o t s : Int) (k1 k2 : ByteArray) (v : Int) (y1 y2 : ByteArray) (y3 : Int) : Tot (fun k => spec_l15Of.j1 k q b i h o t s k1 k2 v y1 y2 y3) (fun r => Cur b r.2.2.2.2.2.2.1) := by
  refine Tot.step (fun k => rfl) ?_
  simp only [spec_l15Of.j1]
  by_cases h5 : o = 5
  · simp only [if_pos h5]
    refine Tot.bind (tBelow h 20 hb hi) fun r hr => ?_
    by_cases hq : q = true
    · simp only [if_pos hq]
      refine Tot.bind (tOnce _ 3 hb hr.2) fun u hu => ?_
      by_cases hu1 : u.1 = true
      · simp only [if_pos hu1]; exact Tot.ret _ hu
      · simp only [if_neg hu1]; exact Tot.ret _ hu
    · simp only [if_neg hq]
      exact Tot.ret _ hr.2
  · simp only [if_neg h5]
    exact Tot.ret _ hi
theorem tOf0 {b : List Int} {i : Int} (h : Int) (hb : b.length ≤ 1048576) (hi : Cur b i) (q w : Bool) (o t s : Int) (k1 k2 : ByteArray) (v : Int) (y1 y2 : ByteArray) (y3 : Int) : Tot (fun k => spec_l15Of.j0 k q w b i h o t s k1 k2 v y1 y2 y3) (fun r => Cur b r.2.2.2.2.2.2.1) := by
  refine Tot.step (fun k => rfl) ?_
  simp only [spec_l15Of.j0]
  by_cases hw : w = true
  · simp only [if_pos hw]
    refine Tot.bind (tPickT _ _ hb hi (by simp)) fun u hu => ?_
    exact tOf1 _ hb hu.2 _ _ _ _ _ _ _ _ _ _
  · simp only [if_neg hw]
    exact tOf1 _ hb hi _ _ _ _ _ _ _ _ _ _
theorem tOf {b : List Int} {i : Int} (h : Int) (hb : b.length ≤ 1048576) (hi : Cur b i) (x : List S83) (y : List S81) (hy : y.length ≤ 1048576) : Tot (fun k => spec_l15Of.f k b i h x y) (fun r => Cur b r.2.2.2.2.2.2.1) := by
  unfold spec_l15Of.f
  refine Tot.bind (tPick h _ hb hi (by simp)) fun r hr => ?_
  refine Tot.bind (tPickT _ _ hb hr.2 (by simp)) fun u hu => ?_
  refine Tot.bind (P := fun _ => True) (show Tot (fun k => spec_ItemOf.f k x y u.1) _ from item_tot x y u.1 hy y.length 0 (by omega) (by omega)) fun v _ => ?_
  by_cases h2 : r.1 = 2
  · simp only [if_pos h2]
    exact tOf0 _ hb hu.2 _ _ _ _ _ _ _ _ _ _ _
  · simp only [if_neg h2]
    exact tOf0 _ hb hu.2 _ _ _ _ _ _ _ _ _ _ _
theorem tCmd1 {b : List Int} {i : Int} (h : Int) (hb : b.length ≤ 1048576) (hi : Cur b i) (o t s : Int) (k1 k2 : ByteArray) (v y1 y2 : Int) (y3 : ByteArray) : Tot (fun k => spec_l15Command.j1 k b i h o t s k1 k2 v y1 y2 y3) (fun r => Cur b r.2.2.2.2.2.2.1) := by
  refine Tot.step (fun k => rfl) ?_
  simp only [spec_l15Command.j1]
  refine Tot.bind (tBelow h 16 hb hi) fun r hr => ?_
  by_cases h0 : r.1 = 0
  · simp only [if_pos h0]; exact Tot.ret _ hr.2
  · by_cases h1 : r.1 = 1
    · simp only [if_neg h0, if_pos h1]
      refine Tot.bind (tBelow _ 4 hb hr.2) fun u hu => ?_
      exact Tot.ret _ hu.2
    · by_cases h2 : r.1 = 2
      · simp only [if_neg h0, if_neg h1, if_pos h2]
        refine Tot.bind (tBelow _ 9 hb hr.2) fun u hu => ?_
        exact Tot.ret _ hu.2
      · simp only [if_neg h0, if_neg h1, if_neg h2]; exact Tot.ret _ hr.2
theorem tCmd {b : List Int} {i : Int} (h : Int) (hb : b.length ≤ 1048576) (hi : Cur b i) (x : List S83) (y : List S81) (hx : 0 < x.length ∧ x.length ≤ 1048576) (hy : y.length ≤ 1048576) : Tot (fun k => spec_l15Command.f k b i h x y) (fun r => Cur b r.2.2.2.2.2.2.1) := by
  unfold spec_l15Command.f
  simp only [if_neg (show ¬ (x.length : Int) = 0 by omega)]
  refine Tot.bind (tOnce h 16 hb hi) fun r hr => ?_
  refine Tot.step (fun k => rfl) ?_
  simp only [spec_l15Command.j0]
  by_cases hr1 : r.1 = true
  · simp only [if_pos hr1]
    exact Tot.ret _ hr
  · simp only [if_neg hr1]
    refine Tot.bind (tOf _ hb hr x y hy) fun u hu => ?_
    simp only [w64 (x := (x.length : Int) - 1) (by omega) (by omega), if_pos (show (0 : Int) ≤ (x.length : Int) - 1 by omega), if_pos (show (x.length : Int) - 1 < (x.length : Int) by omega)]
    refine Tot.bind (tOnce _ 4 hb hu) fun v hv => ?_
    by_cases hv1 : v.1 = true
    · simp only [if_pos hv1]
      refine Tot.bind (tBelow _ (x.length : Int) hb hv) fun w hw => ?_
      have hw1 := hw.1.2.1 (by omega)
      simp only [if_pos hw.1.1, if_pos hw1]
      exact tCmd1 _ hb hw.2 _ _ _ _ _ _ _ _ _
    · simp only [if_neg hv1]
      exact tCmd1 _ hb hv _ _ _ _ _ _ _ _ _
theorem tRight16 {b : List Int} {i : Int} (h : Int) (hb : b.length ≤ 1048576) (hi : Cur b i) : Tot (fun k => spec_l16Right.f k b i h) (fun r => Cur b r.2.2.2.2.2.2.1) := by
  unfold spec_l16Right.f spec_KeepNew.f
  simp only [Option.bind_some]
  refine Tot.bind (tBelow h 5 hb hi) fun r hr => ?_
  refine Tot.bind (tBelow _ 4 hb hr.2) fun q hq => ?_
  refine Tot.bind (tCmd _ hb hq.2 _ _ ⟨by simp, by simp⟩ (by simp)) fun u hu => ?_
  obtain ⟨c, hc, _⟩ := spec_cmd_ev u.1 u.2.1 u.2.2.1 u.2.2.2.1 u.2.2.2.2.1 u.2.2.2.2.2.1
  refine Tot.bind (P := fun _ => True) ⟨c, hc, trivial⟩ fun v _ => ?_
  by_cases hv : v = true
  · simp only [if_pos hv]; exact Tot.ret _ hu
  · simp only [if_neg hv]; exact Tot.ret _ hu
theorem tCmdText (o t q : Int) (key val : ByteArray) (v : Int) : Tot (fun k => spec_CommandText.f k o t q key val v) (fun r => r.1.size ≤ 1000) := by
  obtain ⟨c, hc, hb⟩ := spec_cmd_ev o t q key val v
  refine ⟨_, spec_cmdtext o t q key val v hc hb, ?_⟩
  cases c with
  | false => simp only [Bool.false_eq_true, if_false]; show 0 ≤ 1000; omega
  | true =>
    obtain ⟨_, _, _, _, hk, hl⟩ := hb rfl
    simp only [if_true]
    unfold cmdT
    have h1 : (strOfNums [o % 256]).size = 1 := by rw [strOfNums_size]; rfl
    have h2 := varT_size t
    have h3 := varT_size q
    have h4 := shortT_size key
    have h5 := shortT_size val
    have h6 := varT_size v
    simp only [ByteArray.size_append]
    omega
theorem tRight05 {b : List Int} {i : Int} (h t : Int) (hb : b.length ≤ 1048576) (hi : Cur b i) : Tot (fun k => spec_l05Right.f k b i h t) (fun r => r.2.2.1.size ≤ 1000 ∧ Cur b r.2.2.2.1) := by
  unfold spec_l05Right.f
  refine Tot.bind (tPick h _ hb hi (by simp)) fun r hr => ?_
  by_cases h2 : r.1 = 2
  · simp only [if_pos h2]
    refine Tot.bind (tConf _ hb hr.2) fun q hq => ?_
    refine Tot.bind (P := fun r => r.1.size ≤ 1000) ⟨_, spec_conftext q.1 (by have := hq.1; omega), by have := confO_size q.1; omega⟩ fun u hu => ?_
    exact Tot.ret _ ⟨hu, hq.2⟩
  · by_cases h3 : r.1 = 3
    · simp only [if_neg h2, if_pos h3]
      refine Tot.bind (tRight16 _ hb hr.2) fun q hq => ?_
      refine Tot.bind (tCmdText _ _ _ _ _ _) fun u hu => ?_
      exact Tot.ret _ ⟨hu, hq⟩
    · simp only [if_neg h2, if_neg h3]
      exact Tot.ret _ ⟨by show 0 ≤ 1000; omega, hr.2⟩
theorem tAny05 {b : List Int} {i : Int} (h : Int) (hb : b.length ≤ 1048576) (hi : Cur b i) : Tot (fun k => spec_l05Any.f k b i h) (fun r => r.2.2.1.size ≤ 1000 ∧ Cur b r.2.2.2.1) := by
  unfold spec_l05Any.f
  refine Tot.bind (tBelow h 9 hb hi) fun r hr => ?_
  refine Tot.bind (tRight05 _ _ hb hr.2) fun q hq => ?_
  refine Tot.bind (tBelow _ 30 hb hq.2) fun u hu => ?_
  by_cases h0 : u.1 = 0
  · simp only [if_pos h0]
    refine Tot.bind (tPick _ _ hb hu.2 (by simp)) fun v hv => ?_
    exact Tot.ret _ ⟨hq.1, hv.2⟩
  · by_cases h1 : u.1 = 1
    · simp only [if_neg h0, if_pos h1]
      refine Tot.bind (tPick _ _ hb hu.2 (by simp)) fun v hv => ?_
      exact Tot.ret _ ⟨hq.1, hv.2⟩
    · by_cases h2 : u.1 = 2
      · simp only [if_neg h0, if_neg h1, if_pos h2]
        refine Tot.bind (tBelow _ 2 hb hu.2) fun v hv => ?_
        have hv1 := hv.1.2.1 (by omega)
        have hv0 := hv.1.1
        rw [w64 (x := 120 + v.1) (by omega) (by omega)]
        refine Tot.bind (tLong (120 + v.1) 65 (by omega) (by omega)) fun w hw => ?_
        exact Tot.ret _ ⟨by show w.size ≤ 1000; omega, hv.2⟩
      · simp only [if_neg h0, if_neg h1, if_neg h2]
        exact Tot.ret _ ⟨hq.1, hu.2⟩

/-! ### logdraw -/
def LogD (b : List Int) (n : Nat) (r : Int × Int × List S28 × Int × Int) : Prop := (-10 ≤ r.1 ∧ r.1 ≤ 1000001) ∧ r.2.2.1.length ≤ n ∧ (∀ x ∈ r.2.2.1, x.f2.size ≤ 1000) ∧ Cur b r.2.2.2.1
theorem all_snoc {l : List S28} {e : S28} (h : ∀ x ∈ l, x.f2.size ≤ 1000) (he : e.f2.size ≤ 1000) : ∀ x ∈ l ++ [e], x.f2.size ≤ 1000 := by
  intro x hx
  rcases List.mem_append.1 hx with hx | hx
  · exact h x hx
  · rw [List.mem_singleton.1 hx]; exact he
theorem tRight06_loop {b : List Int} (hb : b.length ≤ 1048576) (st t0 : Int) (hs : -10 ≤ st ∧ st ≤ 1000001) : ∀ (d : Nat) (t x i h : Int) (l : List S28), 8 - x ≤ d → 0 ≤ x → x ≤ 8 → (l.length : Int) ≤ x → (∀ y ∈ l, y.f2.size ≤ 1000) → Cur b i → Tot (fun k => spec_l06Right.l0 k t x b i h st t0 l) (LogD b 8) := by
  intro d
  induction d with
  | zero =>
    intro t x i h l hd h0 h8 hl hx hi
    refine Tot.step (fun k => rfl) ?_
    simp only [spec_l06Right.l0]
    refine Tot.bind (tBelow h 8 hb hi) fun r hr => ?_
    have := hr.1.2.1 (by omega)
    simp only [if_neg (show ¬ x < r.1 by omega)]
    exact Tot.ret _ ⟨hs, by show l.length ≤ 8; omega, hx, hr.2⟩
  | succ d ih =>
    intro t x i h l hd h0 h8 hl hx hi
    refine Tot.step (fun k => rfl) ?_
    simp only [spec_l06Right.l0]
    refine Tot.bind (tBelow h 8 hb hi) fun r hr => ?_
    have hr1 := hr.1.2.1 (by omega)
    by_cases hxr : x < r.1
    · simp only [if_pos hxr]
      refine Tot.bind (tOnce _ 3 hb hr.2) fun q hq => ?_
      by_cases hq1 : q.1 = true
      · simp only [if_pos hq1]
        refine Tot.bind (tBelow _ 2 hb hq) fun u hu => ?_
        try simp only [spec_l06Right.j1]
        refine Tot.bind (tRight05 _ _ hb hu.2) fun v hv => ?_
        simp only [if_pos (show l.length < 4398046511104 by omega), w64 (x := x + 1) (by omega) (by omega)]
        exact ih _ _ _ _ _ (by omega) (by omega) (by omega) (by rw [List.length_append, List.length_singleton]; omega) (all_snoc hx hv.1) hv.2
      · simp only [if_neg hq1]
        try simp only [spec_l06Right.j1]
        refine Tot.bind (tRight05 _ _ hb hq) fun v hv => ?_
        simp only [if_pos (show l.length < 4398046511104 by omega), w64 (x := x + 1) (by omega) (by omega)]
        exact ih _ _ _ _ _ (by omega) (by omega) (by omega) (by rw [List.length_append, List.length_singleton]; omega) (all_snoc hx hv.1) hv.2
    · simp only [if_neg hxr]
      exact Tot.ret _ ⟨hs, by show l.length ≤ 8; omega, hx, hr.2⟩
theorem tRight06 {b : List Int} {i : Int} (h : Int) (hb : b.length ≤ 1048576) (hi : Cur b i) : Tot (fun k => spec_l06Right.f k b i h) (LogD b 8) := by
  unfold spec_l06Right.f
  refine Tot.bind (tBelow h 3 hb hi) fun r hr => ?_
  refine Tot.bind (tBelow _ 4 hb hr.2) fun q hq => ?_
  refine Tot.bind (tBelow _ 3 hb hq.2) fun u hu => ?_
  have h1 := hr.1.2.1 (by omega)
  have h2 := hq.1.2.1 (by omega)
  have h3 : 0 ≤ r.1 * q.1 := Int.mul_nonneg hr.1.1 hq.1.1
  have h4 : r.1 * q.1 ≤ 2 * 3 := Int.mul_le_mul (by omega) (by omega) hq.1.1 (by omega)
  rw [w64 (x := r.1 * q.1) (by omega) (by omega)]
  exact tRight06_loop hb (r.1 * q.1) u.1 (by omega) 8 u.1 0 _ _ [] (by omega) (by omega) (by omega) (by simp) (by simp) hu.2
theorem tAny06_loop {b : List Int} (hb : b.length ≤ 1048576) (big : Bool) (st t0 : Int) (hs : -10 ≤ st ∧ st ≤ 1000001) : ∀ (d : Nat) (x i h : Int) (l : List S28), 62 - x ≤ d → 0 ≤ x → x ≤ 62 → (l.length : Int) ≤ x → (∀ y ∈ l, y.f2.size ≤ 1000) → Cur b i → Tot (fun k => spec_l06Any.l0 k big x b i h st t0 l) (LogD b 62) := by
  intro d
  induction d with
  | zero =>
    intro x i h l hd h0 h8 hl hx hi
    refine Tot.step (fun k => rfl) ?_
    simp only [spec_l06Any.l0]
    refine Tot.bind (tBelow h 2 hb hi) fun r hr => ?_
    have := hr.1.2.1 (by omega)
    rw [w64 (x := 60 + r.1) (by omega) (by omega)]
    simp only [if_neg (show ¬ x < 60 + r.1 by omega)]
    exact Tot.ret _ ⟨hs, by show l.length ≤ 62; omega, hx, hr.2⟩
  | succ d ih =>
    intro x i h l hd h0 h8 hl hx hi
    refine Tot.step (fun k => rfl) ?_
    simp only [spec_l06Any.l0]
    refine Tot.bind (tBelow h 2 hb hi) fun r hr => ?_
    have hr1 := hr.1.2.1 (by omega)
    have hr0 := hr.1.1
    rw [w64 (x := 60 + r.1) (by omega) (by omega)]
    by_cases hxr : x < 60 + r.1
    · simp only [if_pos hxr]
      cases big with
      | true =>
        simp only [if_true]
        refine Tot.bind (tLong 120 66 (by omega) (by omega)) fun w hw => ?_
        simp only [if_pos (show l.length < 4398046511104 by omega), w64 (x := x + 1) (by omega) (by omega)]
        exact ih _ _ _ _ (by omega) (by omega) (by omega) (by rw [List.length_append, List.length_singleton]; omega) (all_snoc hx (by show w.size ≤ 1000; omega)) hr.2
      | false =>
        simp only [Bool.false_eq_true, if_false, if_pos (show l.length < 4398046511104 by omega), w64 (x := x + 1) (by omega) (by omega)]
        exact ih _ _ _ _ (by omega) (by omega) (by omega) (by rw [List.length_append, List.length_singleton]; omega) (all_snoc hx (by show 0 ≤ 1000; omega)) hr.2
    · simp only [if_neg hxr]
      exact Tot.ret _ ⟨hs, by show l.length ≤ 62; omega, hx, hr.2⟩
theorem tAny06 {b : List Int} {i : Int} (h : Int) (hb : b.length ≤ 1048576) (hi : Cur b i) : Tot (fun k => spec_l06Any.f k b i h) (LogD b 62) := by
  unfold spec_l06Any.f
  refine Tot.bind (tRight06 h hb hi) fun r hr => ?_
  obtain ⟨hs, hl, hx, hc⟩ := hr
  refine Tot.bind (tBelow _ 40 hb hc) fun q hq => ?_
  by_cases h0 : q.1 = 0
  · simp only [if_pos h0]
    refine Tot.bind (tPick _ _ hb hq.2 (by simp)) fun u hu => ?_
    have hu1 : u.1 = -1 ∨ u.1 = 1000000 ∨ u.1 = 1000001 ∨ u.1 = 999998 := by simpa using hu.1
    exact Tot.ret _ ⟨by show -10 ≤ u.1 ∧ u.1 ≤ 1000001; omega, by show r.2.2.1.length ≤ 62; omega, hx, hu.2⟩
  · by_cases h1 : q.1 = 1
    · simp only [if_neg h0, if_pos h1]
      refine Tot.bind (tPick _ _ hb hq.2 (by simp)) fun u hu => ?_
      exact Tot.ret _ ⟨hs, by show r.2.2.1.length ≤ 62; omega, hx, hu.2⟩
    · by_cases h2 : q.1 = 2
      · simp only [if_neg h0, if_neg h1, if_pos h2]
        refine Tot.bind (tAny05 _ hb hq.2) fun u hu => ?_
        simp only [if_pos (show r.2.2.1.length < 4398046511104 by omega)]
        exact Tot.ret _ ⟨hs, by show (r.2.2.1 ++ [_]).length ≤ 62; rw [List.length_append, List.length_singleton]; omega, all_snoc hx hu.1, hu.2⟩
      · by_cases h3 : q.1 = 3
        · simp only [if_neg h0, if_neg h1, if_neg h2, if_pos h3]
          refine Tot.bind (tOnce _ 2 hb hq.2) fun u hu => ?_
          exact tAny06_loop hb u.1 r.1 r.2.1 hs 62 0 _ _ [] (by omega) (by omega) (by omega) (by simp) (by simp) hu
        · simp only [if_neg h0, if_neg h1, if_neg h2, if_neg h3]
          exact Tot.ret _ ⟨hs, by show r.2.2.1.length ≤ 62; omega, hx, hq.2⟩
theorem tPlace {b : List Int} {i : Int} (h n : Int) (hb : b.length ≤ 1048576) (hi : Cur b i) : Tot (fun _ => spec_l01Place.f b i h n) (fun r => Cur b r.2.1) := by
  unfold spec_l01Place.f
  refine Tot.bind (tOnce h 15 hb hi) fun r hr => ?_
  by_cases h1 : r.1 = true
  · simp only [if_pos h1]
    refine Tot.bind (tPick _ _ hb hr (by simp)) fun q hq => ?_
    exact Tot.ret _ hq.2
  · simp only [if_neg h1]
    refine Tot.bind (tBelow _ n hb hr) fun q hq => ?_
    exact Tot.ret _ hq.2

/-! ### entryok -/
def entB (t c : Int) (s : ByteArray) : Bool :=
  rng t 0 100000 && (if c = 1 then decide (s.toList = ([] : List UInt8)) else if c = 2 then (confR s).2 else if c = 3 then decide ((s.size : Int) ≤ 120) else false)
theorem nil_dec (s : ByteArray) : (s.toList == ([] : List UInt8)) = decide (s.toList = ([] : List UInt8)) := by
  cases s.toList <;> simp
theorem spec_ent (t c : Int) (s : ByteArray) (hs : s.size ≤ 2000000) : Ev (fun k => spec_EntryOk.f k t c s) (entB t c s) := by
  unfold spec_EntryOk.f entB
  simp only [in_eq, Option.bind_some, nil_dec]
  cases rng t 0 100000 with
  | false => simpa using Ev.now false
  | true =>
    simp only [if_true, Bool.true_and]
    by_cases h1 : c = 1
    · simp only [if_pos h1]; exact Ev.now _
    · by_cases h2 : c = 2
      · simp only [if_neg h1, if_pos h2]
        exact Ev.bind (spec_readconf s hs) (Ev.now _)
      · by_cases h3 : c = 3
        · simp only [if_neg h1, if_neg h2, if_pos h3]; exact Ev.now _
        · simp only [if_neg h1, if_neg h2, if_neg h3]; exact Ev.now _
theorem impl_ent (t c : Int) (s : ByteArray) (hs : s.size ≤ 2000000) : Ev (fun k => impl_EntryOk.f k t c s) (entB t c s) := by
  unfold impl_EntryOk.f impl_isTerm.f entB
  simp only [within_eq, Option.bind_some, nil_dec]
  by_cases h1 : c = 1
  · simp only [if_pos h1]
    cases rng t 0 100000 <;> simpa using Ev.now _
  · by_cases h2 : c = 2
    · simp only [if_neg h1, if_pos h2]
      refine Ev.bind (impl_readconf s hs) ?_
      cases rng t 0 100000 <;> simpa using Ev.now _
    · by_cases h3 : c = 3
      · simp only [if_neg h1, if_neg h2, if_pos h3]
        cases rng t 0 100000 <;> simpa using Ev.now _
      · simp only [if_neg h1, if_neg h2, if_neg h3, Bool.and_false]; exact Ev.now _
theorem ent_iff {t c : Int} {s : ByteArray} (h : entB t c s = true) : (0 ≤ t ∧ t ≤ 100000) ∧ (1 ≤ c ∧ c ≤ 3) ∧ s.size ≤ 120 := by
  unfold entB at h
  rw [Bool.and_eq_true, rng_iff] at h
  obtain ⟨ht, h⟩ := h
  refine ⟨ht, ?_⟩
  by_cases h1 : c = 1
  · rw [if_pos h1, decide_eq_true_eq] at h
    have h2 := bytesOf_length s
    rw [toList_nil.1 h] at h2
    simp at h2
    omega
  · by_cases h2 : c = 2
    · rw [if_neg h1, if_pos h2] at h
      unfold confR at h
      cases hc : confB (bytesOf s) with
      | false => simp [hc] at h
      | true =>
        have := conf_len hc
        rw [bytesOf_length] at this
        omega
    · by_cases h3 : c = 3
      · rw [if_neg h1, if_neg h2, if_pos h3, decide_eq_true_eq] at h
        omega
      · simp [h1, h2, h3] at h

/-! ### log -/
def termsB : Int → List S28 → Bool
  | _, [] => true
  | t, e :: l => entB e.f0 e.f1 e.f2 && (decide (t ≤ e.f0) && termsB e.f0 l)
def restB (st t : Int) (l : List S28) : Bool := rng st 0 1000000 && (rng t 0 100000 && (decide ((l.length : Int) ≤ 60) && decide (st + l.length ≤ 1000000)))
def logB (st t : Int) (l : List S28) : Bool := restB st t l && termsB t l
theorem rdE_at {l : List S28} {j : Nat} (h : j < l.length) : rd_T28 l (j : Int) = l[j] := by unfold rd_T28; exact getD_at _ h
theorem spec_terms (l : List S28) (hl : l.length ≤ 2000000) (hx : ∀ x ∈ l, x.f2.size ≤ 2000000) (a b : Int) : ∀ (d j : Nat) (t : Int), l.length - j = d → j ≤ l.length → Ev (fun k => spec_LogOk.l0 k t (j : Int) a b l) (termsB t (l.drop j)) := by
  intro d
  induction d with
  | zero =>
    intro j t hd hj
    rw [List.drop_of_length_le (by omega)]
    exact Ev.step (f := fun _ => some true) (fun k => by simp only [spec_LogOk.l0]; rw [if_neg (by omega)]) (Ev.now _)
  | succ d ih =>
    intro j t hd hj
    have hjl : j < l.length := by omega
    refine Ev.step (fun k => by simp only [spec_LogOk.l0]; rw [if_pos (by omega), if_pos (by omega), rdE_at hjl, w64 (x := (j : Int) + 1) (by omega) (by omega)]) ?_
    refine Ev.bind (spec_ent l[j].f0 l[j].f1 l[j].f2 (hx _ (List.getElem_mem hjl))) ?_
    rw [List.drop_eq_getElem_cons hjl]
    unfold termsB
    cases he : entB l[j].f0 l[j].f1 l[j].f2 with
    | false => simp only [Bool.false_eq_true, if_false, Bool.false_and]; exact Ev.now _
    | true =>
      simp only [if_true, Bool.true_and]
      by_cases ht : l[j].f0 < t
      · simp only [if_pos ht, show decide (t ≤ l[j].f0) = false from decide_eq_false (by omega), Bool.false_and]
        exact Ev.now _
      · simp only [if_neg ht, show decide (t ≤ l[j].f0) = true from decide_eq_true (by omega), Bool.true_and]
        exact ih (j + 1) _ (by omega) (by omega)
theorem spec_log (st t : Int) (l : List S28) (hs : -1000 ≤ st ∧ st ≤ 2000000) (hl : l.length ≤ 2000000) (hx : ∀ x ∈ l, x.f2.size ≤ 2000000) : Ev (fun k => spec_LogOk.f k st t l) (logB st t l) := by
  unfold spec_LogOk.f logB restB
  simp only [in_eq, Option.bind_some, w64 (x := st + (l.length : Int)) (by omega) (by omega)]
  have hf : Ev (fun k => spec_LogOk.j0 k true st t l) false := Ev.step (f := fun _ => some false) (fun k => by simp only [spec_LogOk.j0, if_true]) (Ev.now _)
  cases rng st 0 1000000 with
  | false => simp only [Bool.false_eq_true, if_false, Bool.false_and]; exact hf
  | true =>
    cases rng t 0 100000 with
    | false => simp only [Bool.false_eq_true, if_false, if_true, Bool.false_and, Bool.true_and]; exact hf
    | true =>
      simp only [if_true, Bool.true_and]
      by_cases h6 : (l.length : Int) > 60
      · simp only [if_pos h6, show decide ((l.length : Int) ≤ 60) = false from decide_eq_false (by omega), Bool.false_and]
        exact hf
      · simp only [if_neg h6, show decide ((l.length : Int) ≤ 60) = true from decide_eq_true (by omega), Bool.true_and]
        by_cases h7 : st + (l.length : Int) > 1000000
        · simp only [show decide (st + (l.length : Int) > 1000000) = true from decide_eq_true h7, show decide (st + (l.length : Int) ≤ 1000000) = false from decide_eq_false (by omega), Bool.false_and]
          exact hf
        · simp only [show decide (st + (l.length : Int) > 1000000) = false from decide_eq_false h7, show decide (st + (l.length : Int) ≤ 1000000) = true from decide_eq_true (by omega), Bool.true_and]
          refine Ev.step (f := fun k => spec_LogOk.l0 k t 0 st t l) (fun k => by simp only [spec_LogOk.j0, Bool.false_eq_true, if_false]) ?_
          exact spec_terms l hl hx st t l.length 0 t (by omega) (by omega)
theorem impl_terms (l : List S28) (hl : l.length ≤ 2000000) (hx : ∀ x ∈ l, x.f2.size ≤ 2000000) (st t0 : Int) (hs : -1000 ≤ st ∧ st ≤ 2000000) : ∀ (d j : Nat) (t : Int), l.length - j = d → j ≤ l.length → Ev (fun k => impl_LogOk.l0 k t l (l.length : Int) (j : Int) st t0 l) (termsB t (l.drop j) && restB st t0 l) := by
  intro d
  induction d with
  | zero =>
    intro j t hd hj
    rw [List.drop_of_length_le (by omega)]
    refine Ev.step (f := fun _ => some (restB st t0 l)) (fun k => ?_) (Ev.now _)
    simp only [impl_LogOk.l0]
    rw [if_neg (by omega)]
    unfold impl_isIndex.f impl_isTerm.f restB
    simp only [within_eq, Option.bind_some, w64 (x := st + (l.length : Int)) (by omega) (by omega)]
    by_cases h6 : (l.length : Int) ≤ 60
    · simp only [if_pos h6, decide_eq_true h6]
      cases rng st 0 1000000 <;> cases rng t0 0 100000 <;> simp
    · simp only [if_neg h6, decide_eq_false h6]
      cases rng st 0 1000000 <;> cases rng t0 0 100000 <;> simp
  | succ d ih =>
    intro j t hd hj
    have hjl : j < l.length := by omega
    refine Ev.step (fun k => by simp only [impl_LogOk.l0]; rw [if_pos (by omega), if_pos (by omega), if_pos (by omega), rdE_at hjl, w64 (x := (j : Int) + 1) (by omega) (by omega)]) ?_
    refine Ev.bind (impl_ent l[j].f0 l[j].f1 l[j].f2 (hx _ (List.getElem_mem hjl))) ?_
    rw [List.drop_eq_getElem_cons hjl]
    unfold termsB
    cases he : entB l[j].f0 l[j].f1 l[j].f2 with
    | false => simp only [Bool.false_eq_true, if_false, Bool.false_and]; exact Ev.now _
    | true =>
      simp only [if_true, Bool.true_and]
      by_cases ht : l[j].f0 < t
      · simp only [if_pos ht, show decide (t ≤ l[j].f0) = false from decide_eq_false (by omega), Bool.false_and]
        exact Ev.now _
      · simp only [if_neg ht, show decide (t ≤ l[j].f0) = true from decide_eq_true (by omega), Bool.true_and]
        exact ih (j + 1) _ (by omega) (by omega)
theorem impl_log (st t : Int) (l : List S28) (hs : -1000 ≤ st ∧ st ≤ 2000000) (hl : l.length ≤ 2000000) (hx : ∀ x ∈ l, x.f2.size ≤ 2000000) : Ev (fun k => impl_LogOk.f k st t l) (logB st t l) := by
  have h := impl_terms l hl hx st t hs l.length 0 t (by omega) (by omega)
  rw [List.drop_zero, Bool.and_comm] at h
  exact h

/-! ### logput -/
def putL (st : Int) (l : List S28) (i : Int) (e0 e1 : Int) (e2 : ByteArray) : List S28 := l.take (i - st - 1).toNat ++ [(⟨e0, e1, e2⟩ : S28)]
def putB (st t : Int) (l : List S28) (i : Int) (e0 e1 : Int) (e2 : ByteArray) : Bool := logB st t l && (rng i (st + 1) (st + l.length + 1) && logB st t (putL st l i e0 e1 e2))
def putO (st t : Int) (l : List S28) (i : Int) (e0 e1 : Int) (e2 : ByteArray) : Int × Int × List S28 × Bool := if putB st t l i e0 e1 e2 = true then (st, t, putL st l i e0 e1 e2, true) else (0, 0, [], false)
theorem putL_mem {st : Int} {l : List S28} {i e0 e1 : Int} {e2 : ByteArray} {n : Nat} (hx : ∀ x ∈ l, x.f2.size ≤ n) (he : e2.size ≤ n) : ∀ x ∈ putL st l i e0 e1 e2, x.f2.size ≤ n := by
  intro x h
  rcases List.mem_append.1 h with h | h
  · exact hx x (List.mem_of_mem_take h)
  · rw [List.mem_singleton.1 h]; exact he
theorem last_eq (st t : Int) (l : List S28) (hs : -1000 ≤ st ∧ st ≤ 2000000) (hl : l.length ≤ 2000000) : ∃ q, impl_LogLast.f st t l = some (st + (l.length : Int), q) := by
  unfold impl_LogLast.f
  by_cases h : (l.length : Int) = 0
  · rw [if_pos h, h, Int.add_zero]; exact ⟨_, rfl⟩
  · rw [if_neg h, w64 (x := (l.length : Int) - 1) (by omega) (by omega), if_pos (by omega), if_pos (by omega), w64 (x := st + (l.length : Int)) (by omega) (by omega)]
    exact ⟨_, rfl⟩
theorem spec_put (st t : Int) (l : List S28) (i e0 e1 : Int) (e2 : ByteArray) (hs : -1000 ≤ st ∧ st ≤ 2000000) (hl : l.length ≤ 1000000) (hx : ∀ x ∈ l, x.f2.size ≤ 2000000) (he : e2.size ≤ 2000000) : Ev (fun k => spec_LogPut.f k st t l i e0 e1 e2) (putO st t l i e0 e1 e2) := by
  have hf : Ev (fun k => spec_LogPut.j0 k i true st t l e0 e1 e2) (0, 0, [], false) := Ev.step (f := fun _ => some (0, 0, [], false)) (fun k => by simp only [spec_LogPut.j0, if_true]) (Ev.now _)
  unfold spec_LogPut.f putO putB
  refine Ev.bind (spec_log st t l hs (by omega) hx) ?_
  cases logB st t l with
  | false => simp only [Bool.false_eq_true, if_false, Bool.false_and]; exact hf
  | true =>
    unfold spec_l06Last.f
    simp only [if_true, in_eq, Option.bind_some, Bool.true_and]
    rw [w64 (x := st + (l.length : Int)) (by omega) (by omega), w64 (x := st + 1) (by omega) (by omega), w64 (x := st + (l.length : Int) + 1) (by omega) (by omega)]
    cases hr : rng i (st + 1) (st + l.length + 1) with
    | false => simp only [Bool.not_false, Bool.false_eq_true, if_false, Bool.false_and]; exact hf
    | true =>
      rw [rng_iff] at hr
      simp only [Bool.not_true, Bool.true_and]
      have hll : (putL st l i e0 e1 e2).length ≤ 2000000 := by unfold putL; rw [List.length_append, List.length_take, List.length_singleton]; omega
      have hT : (l.take (i - st - 1).toNat).length ≤ 1000000 := by rw [List.length_take]; omega
      refine Ev.step (f := fun k => (spec_LogOk.f k st t (putL st l i e0 e1 e2)).bind fun t593 => if t593 = true then some (st, t, putL st l i e0 e1 e2, true) else some (0, 0, [], false)) (fun k => ?_) ?_
      · simp only [spec_LogPut.j0, Bool.false_eq_true, if_false, Option.bind_some]
        rw [w64 (x := i - st) (by omega) (by omega), w64 (x := i - st - 1) (by omega) (by omega), if_pos (by omega), if_pos (by omega)]
        rw [if_pos (by rw [List.length_nil]; omega), if_pos (by rw [List.length_append, List.length_nil, List.length_singleton]; omega)]
        rfl
      · refine Ev.bind (spec_log st t _ hs hll (putL_mem hx he)) ?_
        cases logB st t (putL st l i e0 e1 e2) with
        | false => simp only [Bool.false_eq_true, if_false]; exact Ev.now _
        | true => simp only [if_true]; exact Ev.now _
theorem impl_put (st t : Int) (l : List S28) (i e0 e1 : Int) (e2 : ByteArray) (hs : -1000 ≤ st ∧ st ≤ 2000000) (hl : l.length ≤ 1000000) (hx : ∀ x ∈ l, x.f2.size ≤ 2000000) (he : e2.size ≤ 2000000) : Ev (fun k => impl_LogPut.f k st t l i e0 e1 e2) (putO st t l i e0 e1 e2) := by
  have hf : Ev (fun k => impl_LogPut.j0 k i true st t l e0 e1 e2) (0, 0, [], false) := Ev.step (f := fun _ => some (0, 0, [], false)) (fun k => by simp only [impl_LogPut.j0, if_true]) (Ev.now _)
  obtain ⟨q, hq⟩ := last_eq st t l hs (by omega)
  unfold impl_LogPut.f putO putB
  simp only [hq, Option.bind_some]
  refine Ev.bind (impl_log st t l hs (by omega) hx) ?_
  cases logB st t l with
  | false => simp only [Bool.false_eq_true, if_false, Bool.false_and]; exact hf
  | true =>
    simp only [if_true, within_eq, Option.bind_some, Bool.true_and]
    rw [w64 (x := st + 1) (by omega) (by omega), w64 (x := st + (l.length : Int) + 1) (by omega) (by omega)]
    cases hr : rng i (st + 1) (st + l.length + 1) with
    | false => simp only [Bool.not_false, Bool.false_eq_true, if_false, Bool.false_and]; exact hf
    | true =>
      rw [rng_iff] at hr
      simp only [Bool.not_true, Bool.true_and]
      have hll : (putL st l i e0 e1 e2).length ≤ 2000000 := by unfold putL; rw [List.length_append, List.length_take, List.length_singleton]; omega
      have hT : (l.take (i - st - 1).toNat).length ≤ 1000000 := by rw [List.length_take]; omega
      refine Ev.step (f := fun k => (impl_LogOk.f k st t (putL st l i e0 e1 e2)).bind fun t593 => if t593 = true then some (st, t, putL st l i e0 e1 e2, true) else some (0, 0, [], false)) (fun k => ?_) ?_
      · simp only [impl_LogPut.j0, impl_copyLog.f, Bool.false_eq_true, if_false, Option.bind_some]
        rw [if_pos (by rw [List.length_nil]; omega)]
        simp only [Option.bind_some, List.nil_append]
        rw [w64 (x := i - st) (by omega) (by omega), w64 (x := i - st - 1) (by omega) (by omega), if_pos (by omega), if_pos (by omega)]
        rw [if_pos (by omega)]
        rfl
      · refine Ev.bind (impl_log st t _ hs hll (putL_mem hx he)) ?_
        cases logB st t (putL st l i e0 e1 e2) with
        | false => simp only [Bool.false_eq_true, if_false]; exact Ev.now _
        | true => simp only [if_true]; exact Ev.now _

/-! ### FnPuts -/
theorem puts_loop (st t : Int) (l : List S28) (a c : Int) (n : Nat) (e : S28) (hn : n ≤ l.length) (hl : l.length ≤ 1000) : ∀ (d j : Nat), n - j = d → j ≤ n → Ev (fun k => laws_FnPuts.l0 k (j : Int) a c l st t (l.take n ++ [e])) true := by
  have hlen : (l.take n ++ [e]).length = n + 1 := by rw [List.length_append, List.length_take, List.length_singleton]; omega
  intro d
  induction d with
  | zero =>
    intro j hd hj
    refine Ev.step (f := fun _ => some true) (fun k => ?_) (Ev.now _)
    simp only [laws_FnPuts.l0]
    rw [w64 (x := (j : Int) + 1) (by omega) (by omega), if_neg (by omega)]
  | succ d ih =>
    intro j hd hj
    have h1 : rd_T28 (l.take n ++ [e]) (j : Int) = l[j] := by
      rw [rdE_at (show j < (l.take n ++ [e]).length by omega), List.getElem_append_left (by rw [List.length_take]; omega), List.getElem_take]
    have h2 : rd_T28 l (j : Int) = l[j] := rdE_at (by omega)
    refine Ev.step (f := fun k => laws_FnPuts.l0 k ((j + 1 : Nat) : Int) a c l st t (l.take n ++ [e])) (fun k => ?_) (ih (j + 1) (by omega) (by omega))
    simp only [laws_FnPuts.l0]
    rw [w64 (x := (j : Int) + 1) (by omega) (by omega), if_pos (by omega), if_pos (by omega), if_pos (by omega), if_pos (by omega), h1, h2]
    simp only [beq_self_eq_true, Bool.not_true, Bool.or_false, Bool.false_eq_true, if_false]
    rfl
theorem FnPuts : StFnPuts.Pure := by
  intro b
  intros
  by_cases hbig : (b.length : Int) > 1048576
  · exact ⟨0, by unfold laws_FnPuts.f; rw [big_eq]; simp [hbig]⟩
  · have hbl : b.length ≤ 1048576 := by omega
    obtain ⟨h, hn⟩ := new_ok b
    obtain ⟨⟨st, t, l, i, e0, e1, e2⟩, e, hs, hl, hx, he⟩ : Tot (fun k => spec_DrawLogPut.f k b) (fun r => (-10 ≤ r.1 ∧ r.1 ≤ 1000001) ∧ r.2.2.1.length ≤ 62 ∧ (∀ x ∈ r.2.2.1, x.f2.size ≤ 1000) ∧ r.2.2.2.2.2.2.size ≤ 1000) := by
      unfold spec_DrawLogPut.f
      refine Tot.bind (P := fun r => r = (b, 0, h)) ⟨_, hn, rfl⟩ fun r hr => ?_
      subst hr
      refine Tot.bind (tAny06 h hbl (cur_zero b)) fun r hr => ?_
      obtain ⟨hs, hl, hx, hc⟩ := hr
      refine Tot.bind (P := fun _ => True) ?_ fun q _ => ?_
      · unfold spec_LogLast.f
        by_cases h0 : (r.2.2.1.length : Int) = 0
        · simp only [if_pos h0]; exact Tot.ret _ trivial
        · simp only [if_neg h0, w64 (x := (r.2.2.1.length : Int) - 1) (by omega) (by omega), if_pos (show 0 ≤ (r.2.2.1.length : Int) - 1 by omega), if_pos (show (r.2.2.1.length : Int) - 1 < (r.2.2.1.length : Int) by omega)]
          exact Tot.ret _ trivial
      · refine Tot.bind (tBelow _ 2 hbl hc) fun u hu => ?_
        refine Tot.bind (tRight05 _ _ hbl hu.2) fun v hv => ?_
        refine Tot.bind (tOnce _ 8 hbl hv.2) fun w hw => ?_
        by_cases hw1 : w.1 = true
        · simp only [if_pos hw1]
          refine Tot.bind (tAny05 _ hbl hw) fun x hx' => ?_
          try simp only [spec_DrawLogPut.j0]
          refine Tot.bind (tPlace _ _ hbl hx'.2) fun y hy => ?_
          exact Tot.ret _ ⟨hs, hl, hx, hx'.1⟩
        · simp only [if_neg hw1]
          try simp only [spec_DrawLogPut.j0]
          refine Tot.bind (tPlace _ _ hbl hw) fun y hy => ?_
          exact Tot.ret _ ⟨hs, hl, hx, hv.1⟩
    simp only at hs hl hx he
    have hx2 : ∀ x ∈ l, x.f2.size ≤ 2000000 := fun x h => by have := hx x h; omega
    have p1 := impl_put st t l i e0 e1 e2 (by omega) (by omega) hx2 (by omega)
    have p2 := spec_put st t l i e0 e1 e2 (by omega) (by omega) hx2 (by omega)
    refine Ev.ex ?_ (r := true)
    unfold laws_FnPuts.f
    rw [big_eq]
    simp only [Option.bind_some, decide_eq_true_eq, if_neg hbig]
    refine Ev.bind e ?_
    refine Ev.bind p1 ?_
    refine Ev.bind p2 ?_
    unfold putO
    cases hb : putB st t l i e0 e1 e2 with
    | false =>
      simp only [Bool.false_eq_true, if_false, bne_self_eq_false]
      exact Ev.now _
    | true =>
      simp only [if_true, bne_self_eq_false, Bool.false_eq_true, if_false]
      unfold putB at hb
      rw [Bool.and_eq_true, Bool.and_eq_true, rng_iff] at hb
      obtain ⟨_, hi, hlog⟩ := hb
      have hlen : (putL st l i e0 e1 e2).length = (i - st - 1).toNat + 1 := by unfold putL; rw [List.length_append, List.length_take, List.length_singleton]; omega
      have hlast : rd_T28 (putL st l i e0 e1 e2) (((putL st l i e0 e1 e2).length : Int) - 1) = (⟨e0, e1, e2⟩ : S28) := by
        have hq : (((putL st l i e0 e1 e2).length : Int) - 1) = ((i - st - 1).toNat : Int) := by rw [hlen]; omega
        rw [hq, rdE_at (show (i - st - 1).toNat < (putL st l i e0 e1 e2).length by omega)]
        unfold putL
        rw [List.getElem_append_right (by rw [List.length_take]; omega)]
        simp
      have hspec := spec_log st t (putL st l i e0 e1 e2) (by omega) (by omega) (putL_mem hx2 (by omega))
      rw [hlog] at hspec
      unfold laws_last.f
      simp only [Option.bind_some]
      have k1 : st + ((putL st l i e0 e1 e2).length : Int) = i := by omega
      have k2 : (0 : Int) ≤ ((putL st l i e0 e1 e2).length : Int) - 1 := by omega
      have k3 : ((putL st l i e0 e1 e2).length : Int) - 1 < ((putL st l i e0 e1 e2).length : Int) := by omega
      rw [w64 (x := st + ((putL st l i e0 e1 e2).length : Int)) (by omega) (by omega), w64 (x := ((putL st l i e0 e1 e2).length : Int) - 1) (by omega) (by omega)]
      simp only [if_pos k1, if_pos k2, if_pos k3, hlast]
      simp only [beq_self_eq_true, Bool.not_true, Bool.or_false, Bool.false_eq_true, if_false]
      refine Ev.bind hspec ?_
      simp only [Bool.not_true]
      refine Ev.step (f := fun k => laws_FnPuts.l0 k 0 st t l st t (putL st l i e0 e1 e2)) (fun k => by simp only [laws_FnPuts.j0, Bool.false_eq_true, if_false]) ?_
      exact puts_loop st t l st t (i - st - 1).toNat ⟨e0, e1, e2⟩ (by omega) (by omega) (i - st - 1).toNat 0 (by omega) (by omega)

end Go.Proofs.Ytgffdijodnpolaa.Pure
