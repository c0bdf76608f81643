/- The pure statement of the law 'FnExactEncode', proved: over numbers, lists and texts alone. No condition. -/
import Derived.Test.YthgjcijcmacpmaaStFnExactEncode
import Derived.Laws.BitsLemmas
namespace Go.Proofs.Ythgjcijcmacpmaa.Pure
open Go.RowKit Go.Proofs.Ythgjcijcmacpmaa.QFnExactEncode Go.Proofs.YthgjcijcmacpmaaW.PrintWords Go.Proofs.YthgjcijcmacpmaaW.PrintLast Go.Proofs.YthgjcijcmacpmaaW.PrintMore Go.Proofs.Ythgjcijcmacpmaa.StFnExactEncode Go.Proofs.Ythgjcijcmacpmaa.Opens
set_option linter.unusedVariables false
set_option linter.unusedSimpArgs false

/-! ### base -/
theorem w64 {x : Int} (h0 : -9223372036854775808 ≤ x) (h1 : x ≤ 9223372036854775807) : wrap64 x = x := by unfold wrap64; omega
theorem w64_range (x : Int) : -9223372036854775808 ≤ wrap64 x ∧ wrap64 x ≤ 9223372036854775807 := by unfold wrap64; omega
theorem ip {α : Type} {c : Prop} [Decidable c] {a b : α} (h : c) : (if c then a else b) = a := if_pos h
theorem ineg {α : Type} {c : Prop} [Decidable c] {a b : α} (h : ¬ c) : (if c then a else b) = b := if_neg h
theorem wf_range {n : Int} (h : (Lit.int .i64 n).wf = true) : -9223372036854775808 ≤ n ∧ n ≤ 9223372036854775807 := by
  simp only [Lit.wf, IntKind.min, IntKind.max, IntKind.signed, IntKind.bits, Bool.and_eq_true, decide_eq_true_eq, if_true] at h
  omega
theorem wf_u8 {n : Int} (h : (Lit.int .u8 n).wf = true) : 0 ≤ n ∧ n ≤ 255 := by
  simp [Lit.wf, IntKind.min, IntKind.max, IntKind.signed, IntKind.bits] at h
  omega
theorem and_low (x : Int) (i : Nat) (hi : i ≤ 62) : Go.bits .and .i64 x (2 ^ i - 1) = x % 2 ^ i := by
  have hpos : 0 < 2 ^ i := Nat.two_pow_pos i
  have hc : ((2 : Int) ^ i - 1) = ((2 ^ i - 1 : Nat) : Int) := by rw [Int.natCast_sub hpos]; simp
  have h62 : 2 ^ i ≤ 2 ^ 62 := Nat.pow_le_pow_right (by decide) hi
  have hlt : 2 ^ i - 1 < 2 ^ 64 := by omega
  have hd : (2 ^ i : Nat) ∣ 2 ^ 64 := Nat.pow_dvd_pow 2 (by omega)
  rw [hc]
  simp only [Go.bits, BitVec.ofInt_natCast, BitVec.toNat_and, BitVec.toNat_ofNat, BitVec.toNat_ofInt]
  simp only [show IntKind.i64.bits = 64 from rfl]
  rw [Nat.mod_eq_of_lt hlt, Nat.and_two_pow_sub_one_eq_mod]
  have h1 : (((x % ((2 ^ 64 : Nat) : Int)).toNat % 2 ^ i : Nat) : Int) = x % 2 ^ i := by
    rw [Int.natCast_emod, Int.toNat_of_nonneg (Int.emod_nonneg _ (by decide))]
    rw [Int.natCast_pow]
    exact Int.emod_emod_of_dvd _ (by
      have : (((2 ^ i : Nat) : Int)) ∣ ((2 ^ 64 : Nat) : Int) := Int.natCast_dvd_natCast.2 hd
      simpa using this)
  rw [h1]
  have h2 : 0 ≤ x % 2 ^ i := Int.emod_nonneg _ (by
    have : (0 : Int) < 2 ^ i := by exact_mod_cast hpos
    omega)
  have h3 : x % 2 ^ i < 2 ^ i := Int.emod_lt_of_pos _ (by exact_mod_cast hpos)
  have h4 : (2 : Int) ^ i ≤ 2 ^ 62 := by exact_mod_cast h62
  rw [IntKind.wrap_i64]
  omega
theorem and255 (x : Int) : Go.bits .and .i64 x 255 = x % 256 := and_low x 8 (by omega)
theorem and65535 (x : Int) : Go.bits .and .i64 x 65535 = x % 65536 := and_low x 16 (by omega)
theorem and30 (x : Int) : Go.bits .and .i64 x 1073741823 = x % 1073741824 := and_low x 30 (by omega)
theorem and1 (x : Int) : Go.bits .and .i64 x 1 = x % 2 := and_low x 1 (by omega)
/-- A law's last step: both are one. -/
theorem same_end {v : Bool} : (if (v != v) = true then some false else some true : Option Bool) = some true := by simp
theorem Ev.ex {α : Type} {g : Nat → Option α} {r : α} (h : Ev g r) : ∃ k, g k = some r := h.rounds
theorem Ev.from_ {α : Type} {g : Nat → Option α} {r : α} (K : Nat) (h : ∀ k, K ≤ k → g k = some r) : Ev g r := ⟨K, h⟩
theorem Ev.both {α β : Type} {g : Nat → Option α} {f : Nat → Option β} {r : α} {q : β} (h : Ev g r) (h' : Ev f q) : ∃ K, ∀ k, K ≤ k → g k = some r ∧ f k = some q := by
  obtain ⟨K, h⟩ := h
  obtain ⟨K', h'⟩ := h'
  exact ⟨K + K', fun k hk => ⟨h k (by omega), h' k (by omega)⟩⟩

/-! ### all -/
def allF (p : Nat → Bool) (j : Nat) : Nat → Bool
  | 0 => true
  | d + 1 => p j && allF p (j + 1) d
/-- A loop that asks the same of each place, one after the other, and then something more. -/
theorem all_ev {F : Nat → Nat → Option Bool} {n : Nat} {p : Nat → Bool} {R : Bool}
    (hs : ∀ j, j < n → (p j = true → ∀ r, Ev (fun k => F k (j + 1)) r → Ev (fun k => F k j) r) ∧ (p j = false → Ev (fun k => F k j) false))
    (he : Ev (fun k => F k n) R) : ∀ d j, n - j = d → j ≤ n → Ev (fun k => F k j) (allF p j d && R) := by
  intro d
  induction d with
  | zero =>
    intro j hd hj
    obtain rfl : j = n := by omega
    simpa [allF] using he
  | succ d ih =>
    intro j hd hj
    have h := hs j (by omega)
    cases hp : p j with
    | true =>
      have := ih (j + 1) (by omega) (by omega)
      simp only [allF, hp, Bool.true_and]
      exact h.1 hp _ this
    | false =>
      simp only [allF, hp, Bool.false_and]
      exact h.2 hp
theorem Ev.here {α : Type} {F f : Nat → Option α} {r : α} (hs : ∀ k, F (k + 1) = f k) (h : ∀ k, f k = some r) : Ev F r := Ev.step hs ⟨0, fun k _ => h k⟩

/-! ### in -/
def rng (a b c : Int) : Bool := decide (b ≤ a) && decide (a ≤ c)
theorem rng_iff {a b c : Int} : rng a b c = true ↔ b ≤ a ∧ a ≤ c := by simp [rng]
theorem rng_false {a b c : Int} : rng a b c = false ↔ ¬ (b ≤ a ∧ a ≤ c) := by rw [← rng_iff]; simp
theorem in_eq (a b c : Int) : spec_l01In.f a b c = some (rng a b c) := by
  unfold spec_l01In.f rng
  by_cases h : b ≤ a
  · rw [if_pos h]; simp [h]
  · rw [if_neg h]; simp [h]
theorem within_eq (a b c : Int) : impl_within.f a b c = some (rng a b c) := by
  unfold impl_within.f rng
  by_cases h : b ≤ a
  · rw [if_pos h]; simp [h]
  · rw [if_neg h]; simp [h]

/-! ### loops -/
/-- A loop upward whose rounds do nothing but go on. -/
theorem up_loop {β : Type} {F : Nat → Int → Option β} {n : Nat} {r : β} (hs : ∀ k (j : Nat), j < n → F (k + 1) (j : Int) = F k ((j + 1 : Nat) : Int)) (he : ∀ k, F (k + 1) (n : Int) = some r) :
    ∀ (d j : Nat), n - j = d → j ≤ n → ∀ k, d < k → F k (j : Int) = some r := by
  intro d
  induction d with
  | zero =>
    intro j hd hj k hk
    obtain ⟨k, rfl⟩ : ∃ m, k = m + 1 := ⟨k - 1, by omega⟩
    obtain rfl : j = n := by omega
    exact he k
  | succ d ih =>
    intro j hd hj k hk
    obtain ⟨k, rfl⟩ : ∃ m, k = m + 1 := ⟨k - 1, by omega⟩
    rw [hs k j (by omega)]
    exact ih (j + 1) (by omega) (by omega) k (by omega)
/-- A loop that turns each element of a list into one of a list that was made. -/
theorem map_loop {α β : Type} {F : Nat → List β → Int → Option (List β)} {g : α → β} {l : List α}
    (hs : ∀ k (acc : List β) (j : Nat) (hj : j < l.length), acc.length = l.length → F (k + 1) acc (j : Int) = F k (acc.set j (g l[j])) ((j + 1 : Nat) : Int))
    (he : ∀ k (acc : List β), F (k + 1) acc (l.length : Int) = some acc) :
    ∀ (d j : Nat) (acc : List β), l.length - j = d → j ≤ l.length → acc.length = l.length → (∀ i, i < j → acc[i]? = (l[i]?).map g) → ∀ k, d < k → F k acc (j : Int) = some (l.map g) := by
  intro d
  induction d with
  | zero =>
    intro j acc hd hj hl ha k hk
    obtain ⟨k, rfl⟩ : ∃ m, k = m + 1 := ⟨k - 1, by omega⟩
    obtain rfl : j = l.length := by omega
    rw [he]
    congr 1
    apply List.ext_getElem?
    intro i
    rw [List.getElem?_map]
    by_cases hi : i < l.length
    · exact ha i hi
    · rw [List.getElem?_eq_none (by omega), List.getElem?_eq_none (by omega)]; rfl
  | succ d ih =>
    intro j acc hd hj hl ha k hk
    obtain ⟨k, rfl⟩ : ∃ m, k = m + 1 := ⟨k - 1, by omega⟩
    have hjl : j < l.length := by omega
    rw [hs k acc j hjl hl]
    refine ih (j + 1) _ (by omega) (by omega) (by rw [List.length_set]; exact hl) (fun i hi => ?_) k (by omega)
    by_cases hij : i = j
    · subst hij
      rw [List.getElem?_set_self (by omega), List.getElem?_eq_getElem hjl]
      rfl
    · rw [List.getElem?_set_ne (fun h => hij h.symm)]
      exact ha i (by omega)
theorem getD_at {α : Type} {l : List α} {j : Nat} (z : α) (h : j < l.length) : l.getD (j : Int).toNat z = l[j] := by
  simp [List.getD_eq_getElem?_getD, List.getElem?_eq_getElem h]

/-! ### bl -/
theorem bl_inj {s t : ByteArray} (h : bytesOf s = bytesOf t) : s = t := by
  unfold bytesOf at h
  have h2 : s.data.toList = t.data.toList := by
    apply List.ext_getElem?
    intro i
    have h3 := congrArg (fun l => l[i]?) h
    simp only [List.getElem?_map] at h3
    cases h4 : s.data.toList[i]? <;> cases h5 : t.data.toList[i]? <;> rw [h4, h5] at h3 <;> simp at h3 ⊢
    exact UInt8.toNat_inj.1 (by omega)
  exact ByteArray.ext (by rw [← Array.toArray_toList (xs := s.data), h2])
theorem bl_app (s t : ByteArray) : bytesOf (s ++ t) = bytesOf s ++ bytesOf t := by
  unfold bytesOf
  rw [ByteArray.toList_data_append, List.map_append]
theorem bl_ext (s : ByteArray) (a b : Nat) : bytesOf (s.extract a b) = ((bytesOf s).drop a).take (b - a) := by
  unfold bytesOf
  rw [ByteArray.data_extract, Array.toList_extract, ← List.map_drop, ← List.map_take] <;> simp [List.extract_eq_drop_take]
theorem bl_range {s : ByteArray} : ∀ x ∈ bytesOf s, 0 ≤ x ∧ x ≤ 255 := by
  intro x hx
  obtain ⟨b, _, rfl⟩ := List.mem_map.1 hx
  have := b.toNat_lt
  omega
theorem bl_str {l : List Int} (h : ∀ x ∈ l, 0 ≤ x ∧ x ≤ 255) : bytesOf (strOfNums l) = l := by
  unfold bytesOf
  rw [strOfNums_data, List.map_map]
  have : ∀ x ∈ l, ((fun b : UInt8 => (b.toNat : Int)) ∘ fun n : Int => UInt8.ofNat n.toNat) x = x := by
    intro x hx
    have := h x hx
    simp only [Function.comp, UInt8.toNat_ofNat']
    omega
  rw [List.map_congr_left this, List.map_id']
theorem str_bl (s : ByteArray) : strOfNums (bytesOf s) = s := bl_inj (bl_str bl_range)
theorem bl_empty : bytesOf (⟨#[]⟩ : ByteArray) = [] := rfl
theorem bt_bl (s : ByteArray) (i : Int) : bt s i = rd (bytesOf s) i := (rd_bytesOf s i).symm
theorem toList_iff {s t : ByteArray} : s.toList = t.toList ↔ s = t := by
  rw [ByteArray.toList_eq, ByteArray.toList_eq]
  constructor
  · intro h; exact ByteArray.ext (by rw [← Array.toArray_toList (xs := s.data), h])
  · intro h; rw [h]
theorem toList_nil {s : ByteArray} : s.toList = ([] : List UInt8) ↔ bytesOf s = [] := by
  rw [ByteArray.toList_eq]
  unfold bytesOf
  simp

/-! ### conf -/
def pC (l : List Int) (j : Nat) : Bool := rng (rd l (j : Int)) 1 4 && (!decide ((j : Int) > 0) || !decide (rd l ((j : Int) - 1) ≥ rd l (j : Int)))
def riseB (l : List Int) : Bool := allF (pC l) 0 l.length
def confB (l : List Int) : Bool := decide (0 < l.length) && riseB l
theorem allF_all {p : Nat → Bool} : ∀ d j, allF p j d = true → ∀ i, j ≤ i → i < j + d → p i = true := by
  intro d
  induction d with
  | zero => intro j _ i h1 h2; omega
  | succ d ih =>
    intro j h i h1 h2
    unfold allF at h
    rw [Bool.and_eq_true] at h
    by_cases hij : i = j
    · subst hij; exact h.1
    · exact ih (j + 1) h.2 i (by omega) (by omega)
theorem rise_up {l : List Int} (h : riseB l = true) : ∀ i, i < l.length → (i : Int) + 1 ≤ rd l (i : Int) ∧ rd l (i : Int) ≤ 4 := by
  intro i
  induction i with
  | zero =>
    intro hi
    have := allF_all _ _ h 0 (by omega) (by omega)
    unfold pC at this
    simp only [Bool.and_eq_true, rng_iff] at this
    omega
  | succ i ih =>
    intro hi
    have h0 := ih (by omega)
    have := allF_all _ _ h (i + 1) (by omega) (by omega)
    unfold pC at this
    simp only [Bool.and_eq_true, Bool.or_eq_true, Bool.not_eq_true', decide_eq_false_iff_not, rng_iff] at this
    obtain ⟨h1, h2⟩ := this
    have e : ((i + 1 : Nat) : Int) - 1 = (i : Int) := by omega
    rw [e] at h2
    rcases h2 with h2 | h2
    · exact absurd (show ((i + 1 : Nat) : Int) > 0 by omega) h2
    · omega
theorem rise_len {l : List Int} (h : riseB l = true) : l.length ≤ 4 := by
  rcases Nat.lt_or_ge l.length 5 with h5 | h5
  · omega
  · have := rise_up h 4 (by omega)
    omega
theorem conf_len {l : List Int} (h : confB l = true) : 1 ≤ l.length ∧ l.length ≤ 4 := by
  unfold confB at h
  simp only [Bool.and_eq_true, decide_eq_true_eq] at h
  exact ⟨by omega, rise_len h.2⟩
theorem conf_rng {l : List Int} (h : confB l = true) : ∀ x ∈ l, 1 ≤ x ∧ x ≤ 4 := by
  intro x hx
  unfold confB at h
  simp only [Bool.and_eq_true, decide_eq_true_eq] at h
  obtain ⟨i, hi, rfl⟩ := List.mem_iff_getElem.1 hx
  have := rise_up h.2 i hi
  have e : rd l (i : Int) = l[i] := by unfold rd; simp [List.getD_eq_getElem?_getD, List.getElem?_eq_getElem hi]
  rw [e] at this
  omega
theorem spec_rise (l : List Int) (hl : l.length ≤ 2000000) : Ev (fun k => spec_l05Rise.f k l 1 4) (riseB l) := by
  have h := all_ev (F := fun k j => spec_l05Rise.l0 k l 1 4 (j : Int)) (p := pC l) (R := true) (n := l.length) (fun j hj => ?_) ?_ l.length 0 (by omega) (by omega)
  · rw [Bool.and_true] at h
    exact h
  · have es : ∀ k, spec_l05Rise.l0 (k + 1) l 1 4 (j : Int) = if pC l j = true then spec_l05Rise.l0 k l 1 4 ((j + 1 : Nat) : Int) else some false := fun k => by
      simp only [spec_l05Rise.l0]
      rw [if_pos (by omega), if_pos (by omega)]
      simp only [in_eq, Option.bind_some]
      rw [w64 (x := (j : Int) + 1) (by omega) (by omega), w64 (x := (j : Int) - 1) (by omega) (by omega)]
      unfold pC
      have e1 : ((j : Int) + 1) = ((j + 1 : Nat) : Int) := by omega
      rw [e1]
      by_cases h0 : (j : Int) > 0
      · simp only [h0, show (0 : Int) ≤ (j : Int) - 1 by omega, show (j : Int) - 1 < (l.length : Int) by omega, if_true]
        cases h1 : rng (rd l (j : Int)) 1 4 <;> by_cases h3 : rd l ((j : Int) - 1) ≥ rd l (j : Int) <;> simp [h1, h3]
      · simp only [h0, if_false]
        cases h1 : rng (rd l (j : Int)) 1 4 <;> simp [h1]
    refine ⟨fun hp r hr => Ev.step (fun k => by rw [es, if_pos hp]) hr, fun hp => Ev.here (f := fun _ => some false) (fun k => by rw [es, if_neg (by simp [hp])]) (fun _ => rfl)⟩
  · exact Ev.here (f := fun _ => some true) (fun k => by simp only [spec_l05Rise.l0]; rw [if_neg (by omega)]) (fun _ => rfl)
theorem spec_conf (l : List Int) (hl : l.length ≤ 2000000) : Ev (fun k => spec_ConfOk.f k l) (confB l) := by
  unfold spec_ConfOk.f
  simp only [in_eq, Option.bind_some]
  cases hr : rng (l.length : Int) 1 4 with
  | false =>
    simp only [Bool.false_eq_true, if_false]
    have : confB l = false := by
      cases hc : confB l with
      | false => rfl
      | true =>
        have := conf_len hc
        have := rng_false.1 hr
        omega
    rw [this]
    exact Ev.now _
  | true =>
    have hh := rng_iff.1 hr
    have : confB l = riseB l := by unfold confB; simp; omega
    rw [this]
    simp only [if_true]
    refine Ev.bind (spec_rise l hl) ?_
    exact Ev.now _
theorem impl_rise (l : List Int) (hl : l.length ≤ 2000000) : Ev (fun k => impl_nodesOk.f k l) (riseB l) := by
  have h := all_ev (F := fun k j => impl_nodesOk.l0 k l l (l.length : Int) (j : Int)) (p := pC l) (R := true) (n := l.length) (fun j hj => ?_) ?_ l.length 0 (by omega) (by omega)
  · rw [Bool.and_true] at h
    exact h
  · have es : ∀ k, impl_nodesOk.l0 (k + 1) l l (l.length : Int) (j : Int) = if pC l j = true then impl_nodesOk.l0 k l l (l.length : Int) ((j + 1 : Nat) : Int) else some false := fun k => by
      simp only [impl_nodesOk.l0]
      rw [if_pos (by omega), if_pos (by omega), if_pos (by omega)]
      simp only [impl_isNode.f, within_eq, Option.bind_some]
      rw [w64 (x := (j : Int) + 1) (by omega) (by omega), w64 (x := (j : Int) - 1) (by omega) (by omega)]
      unfold pC
      have e1 : ((j : Int) + 1) = ((j + 1 : Nat) : Int) := by omega
      rw [e1]
      by_cases h0 : (j : Int) > 0
      · simp only [h0, show (0 : Int) ≤ (j : Int) - 1 by omega, show (j : Int) - 1 < (l.length : Int) by omega, if_true]
        cases h1 : rng (rd l (j : Int)) 1 4 <;> by_cases h3 : rd l ((j : Int) - 1) ≥ rd l (j : Int) <;> simp [h1, h3]
      · simp only [h0, if_false]
        cases h1 : rng (rd l (j : Int)) 1 4 <;> simp [h1]
    refine ⟨fun hp r hr => Ev.step (fun k => by rw [es, if_pos hp]) hr, fun hp => Ev.here (f := fun _ => some false) (fun k => by rw [es, if_neg (by simp [hp])]) (fun _ => rfl)⟩
  · exact Ev.here (f := fun _ => some true) (fun k => by simp only [impl_nodesOk.l0]; rw [if_neg (by omega)]) (fun _ => rfl)
theorem impl_conf (l : List Int) (hl : l.length ≤ 2000000) : Ev (fun k => impl_ConfOk.f k l) (confB l) := by
  unfold impl_ConfOk.f
  by_cases h : (l.length : Int) > 0
  · have : confB l = riseB l := by unfold confB; simp; omega
    rw [this]
    simp only [if_pos h]
    refine Ev.bind (impl_rise l hl) ?_
    exact Ev.now _
  · have : confB l = false := by unfold confB; simp; omega
    rw [this]
    simp only [if_neg h]
    exact Ev.now _
def confR (s : ByteArray) : List Int × Bool := if confB (bytesOf s) = true then (bytesOf s, true) else ([], false)
theorem wbt (s : ByteArray) (j : Nat) (hj : j < s.size) : wrap64 (bt s (j : Int)) = (bytesOf s)[j]'(by rw [bytesOf_length]; exact hj) := by
  have hl : j < (bytesOf s).length := by rw [bytesOf_length]; exact hj
  have e : bt s (j : Int) = (bytesOf s)[j] := by rw [bt_bl]; unfold rd; simp [List.getD_eq_getElem?_getD, List.getElem?_eq_getElem hl]
  have := bl_range (s := s) _ (List.getElem_mem hl)
  rw [e, w64 (by omega) (by omega)]
theorem impl_rc_loop (s : ByteArray) (hs : s.size ≤ 2000000) : ∀ (d j : Nat), s.size - j = d → j ≤ s.size → Ev (fun k => impl_ReadConf.l0 k s ((bytesOf s).take j) (j : Int)) (confR s) := by
  intro d
  induction d with
  | zero =>
    intro j hd hj
    have hj' : (bytesOf s).take j = bytesOf s := List.take_of_length_le (by rw [bytesOf_length]; omega)
    rw [hj']
    refine Ev.step (fun k => by simp only [impl_ReadConf.l0]; rw [if_neg (by omega)]) ?_
    refine Ev.bind (impl_conf _ (by rw [bytesOf_length]; exact hs)) ?_
    unfold confR
    cases confB (bytesOf s) <;> exact Ev.now _
  | succ d ih =>
    intro j hd hj
    have hl : j < (bytesOf s).length := by rw [bytesOf_length]; omega
    refine Ev.step (fun k => by simp only [impl_ReadConf.l0]; rw [if_pos (by omega), if_pos (by omega), if_pos (by rw [List.length_take]; omega), w64 (x := (j : Int) + 1) (by omega) (by omega), wbt s j (by omega), List.take_append_getElem hl]) ?_
    exact ih (j + 1) (by omega) (by omega)
theorem impl_readconf (s : ByteArray) (hs : s.size ≤ 2000000) : Ev (fun k => impl_ReadConf.f k s) (confR s) := by
  have := impl_rc_loop s hs s.size 0 (by omega) (by omega)
  rw [List.take_zero] at this
  exact this
theorem spec_rc_loop (s : ByteArray) (hs : s.size ≤ 2000000) : ∀ (d j : Nat), 5 - j = d → j ≤ 5 → j ≤ s.size → Ev (fun k => spec_ReadConf.l0 k s ((bytesOf s).take j) (j : Int)) (confR s) := by
  have hend : ∀ j : Nat, j = s.size → Ev (fun k => spec_ReadConf.l0 k s ((bytesOf s).take j) (j : Int)) (confR s) := by
    intro j hj
    have hj' : (bytesOf s).take j = bytesOf s := List.take_of_length_le (by rw [bytesOf_length]; omega)
    rw [hj']
    have hlen := bytesOf_length s
    refine Ev.step (fun k => by simp only [spec_ReadConf.l0]; rw [if_neg (by omega), if_pos (by omega)]) ?_
    refine Ev.bind (spec_conf _ (by rw [bytesOf_length]; exact hs)) ?_
    unfold confR
    cases confB (bytesOf s) <;> exact Ev.now _
  intro d
  induction d with
  | zero =>
    intro j hd hj hjs
    by_cases he : j = s.size
    · exact hend j he
    · have hlen := bytesOf_length s
      have hc : confR s = ([], false) := by
        unfold confR
        cases hc : confB (bytesOf s) with
        | false => simp
        | true =>
          have := conf_len hc
          omega
      rw [hc]
      refine Ev.here (f := fun _ => some ([], false)) (fun k => ?_) (fun _ => rfl)
      simp only [spec_ReadConf.l0]
      rw [if_pos (by omega), if_neg (by omega), if_neg (by rw [List.length_take]; omega)]
  | succ d ih =>
    intro j hd hj hjs
    by_cases he : j = s.size
    · exact hend j he
    · have hl : j < (bytesOf s).length := by rw [bytesOf_length]; omega
      refine Ev.step (fun k => by simp only [spec_ReadConf.l0]; rw [if_pos (by omega), if_pos (by omega), if_pos (by omega), if_pos (by rw [List.length_take]; omega), w64 (x := (j : Int) + 1) (by omega) (by omega), wbt s j (by omega), List.take_append_getElem hl]) ?_
      exact ih (j + 1) (by omega) (by omega) (by omega)
theorem spec_readconf (s : ByteArray) (hs : s.size ≤ 2000000) : Ev (fun k => spec_ReadConf.f k s) (confR s) := by
  have := spec_rc_loop s hs 5 0 (by omega) (by omega) (by omega)
  rw [List.take_zero] at this
  exact this

/-! ### entryok -/
def entB (t c : Int) (s : ByteArray) : Bool :=
  rng t 0 100000 && (if c = 1 then decide (s.toList = ([] : List UInt8)) else if c = 2 then (confR s).2 else if c = 3 then decide ((s.size : Int) ≤ 120) else false)
theorem nil_dec (s : ByteArray) : (s.toList == ([] : List UInt8)) = decide (s.toList = ([] : List UInt8)) := by
  cases s.toList <;> simp
theorem spec_ent (t c : Int) (s : ByteArray) (hs : s.size ≤ 2000000) : Ev (fun k => spec_EntryOk.f k t c s) (entB t c s) := by
  unfold spec_EntryOk.f entB
  simp only [in_eq, Option.bind_some, nil_dec]
  cases rng t 0 100000 with
  | false => simpa using Ev.now false
  | true =>
    simp only [if_true, Bool.true_and]
    by_cases h1 : c = 1
    · simp only [if_pos h1]; exact Ev.now _
    · by_cases h2 : c = 2
      · simp only [if_neg h1, if_pos h2]
        exact Ev.bind (spec_readconf s hs) (Ev.now _)
      · by_cases h3 : c = 3
        · simp only [if_neg h1, if_neg h2, if_pos h3]; exact Ev.now _
        · simp only [if_neg h1, if_neg h2, if_neg h3]; exact Ev.now _
theorem impl_ent (t c : Int) (s : ByteArray) (hs : s.size ≤ 2000000) : Ev (fun k => impl_EntryOk.f k t c s) (entB t c s) := by
  unfold impl_EntryOk.f impl_isTerm.f entB
  simp only [within_eq, Option.bind_some, nil_dec]
  by_cases h1 : c = 1
  · simp only [if_pos h1]
    cases rng t 0 100000 <;> simpa using Ev.now _
  · by_cases h2 : c = 2
    · simp only [if_neg h1, if_pos h2]
      refine Ev.bind (impl_readconf s hs) ?_
      cases rng t 0 100000 <;> simpa using Ev.now _
    · by_cases h3 : c = 3
      · simp only [if_neg h1, if_neg h2, if_pos h3]
        cases rng t 0 100000 <;> simpa using Ev.now _
      · simp only [if_neg h1, if_neg h2, if_neg h3, Bool.and_false]; exact Ev.now _
theorem ent_iff {t c : Int} {s : ByteArray} (h : entB t c s = true) : (0 ≤ t ∧ t ≤ 100000) ∧ (1 ≤ c ∧ c ≤ 3) ∧ s.size ≤ 120 := by
  unfold entB at h
  rw [Bool.and_eq_true, rng_iff] at h
  obtain ⟨ht, h⟩ := h
  refine ⟨ht, ?_⟩
  by_cases h1 : c = 1
  · rw [if_pos h1, decide_eq_true_eq] at h
    have h2 := bytesOf_length s
    rw [toList_nil.1 h] at h2
    simp at h2
    omega
  · by_cases h2 : c = 2
    · rw [if_neg h1, if_pos h2] at h
      unfold confR at h
      cases hc : confB (bytesOf s) with
      | false => simp [hc] at h
      | true =>
        have := conf_len hc
        rw [bytesOf_length] at this
        omega
    · by_cases h3 : c = 3
      · rw [if_neg h1, if_neg h2, if_pos h3, decide_eq_true_eq] at h
        omega
      · simp [h1, h2, h3] at h

/-! ### sz -/
theorem sz_loop {α : Type} {F : Nat → Int → Int → Option Int} {g : α → Int → Option Int} {l : List α} {P : α → Prop}
    (hs : ∀ k (left : Int) (j : Nat) (hj : j < l.length), l.length ≤ 2000000 → F (k + 1) left (j : Int) = (g l[j] left).bind fun t => if t < 0 then some (-1) else F k t ((j + 1 : Nat) : Int))
    (he : ∀ k (left : Int), F (k + 1) left (l.length : Int) = some left)
    (hg : ∀ x ∈ l, ∀ left : Int, 0 ≤ left → left ≤ 1048576 → ∃ t, g x left = some t ∧ (t < 0 ∨ (0 ≤ t ∧ t ≤ left ∧ P x))) (hl : l.length ≤ 2000000) :
    ∀ (d j : Nat) (left : Int), l.length - j = d → j ≤ l.length → 0 ≤ left → left ≤ 1048576 → ∃ t, (∀ k, d < k → F k left (j : Int) = some t) ∧ (t < 0 ∨ (0 ≤ t ∧ t ≤ left ∧ ∀ i (hi : i < l.length), j ≤ i → P l[i])) := by
  intro d
  induction d with
  | zero =>
    intro j left hd hj h0 h1
    obtain rfl : j = l.length := by omega
    refine ⟨left, fun k hk => ?_, .inr ⟨h0, Int.le_refl _, fun i hi h => absurd hi (by omega)⟩⟩
    obtain ⟨k, rfl⟩ : ∃ m, k = m + 1 := ⟨k - 1, by omega⟩
    exact he k left
  | succ d ih =>
    intro j left hd hj h0 h1
    have hjl : j < l.length := by omega
    obtain ⟨t, ht, hc⟩ := hg l[j] (List.getElem_mem _) left h0 h1
    rcases hc with hc | ⟨h2, h3, hP⟩
    · refine ⟨-1, fun k hk => ?_, .inl (by omega)⟩
      obtain ⟨k, rfl⟩ : ∃ m, k = m + 1 := ⟨k - 1, by omega⟩
      rw [hs k left j hjl hl, ht]
      simp only [Option.bind_some]
      rw [if_pos hc]
    · obtain ⟨t2, ih1, ih2⟩ := ih (j + 1) t (by omega) (by omega) h2 (by omega)
      refine ⟨t2, fun k hk => ?_, ?_⟩
      · obtain ⟨k, rfl⟩ : ∃ m, k = m + 1 := ⟨k - 1, by omega⟩
        rw [hs k left j hjl hl, ht]
        simp only [Option.bind_some]
        rw [if_neg (by omega)]
        exact ih1 k (by omega)
      · rcases ih2 with h4 | ⟨h4, h5, h6⟩
        · exact .inl h4
        · refine .inr ⟨h4, by omega, fun i hi hji => ?_⟩
          by_cases hij : i = j
          · subst hij; exact hP
          · exact h6 i hi (by omega)

/-! ### c_Entry -/
def conEntry (x : S142) : S51 := ⟨x.f0, x.f1, x.f2⟩
theorem toEntryS_ok (l : List S142) (hl : l.length ≤ 1048576) : ∀ k, l.length < k → laws_toEntryS.f k l = some (l.map conEntry) := by
  intro k hk
  unfold laws_toEntryS.f
  rw [if_pos (by omega), if_pos (by omega)]
  refine map_loop (F := fun k acc j => laws_toEntryS.l0 k l acc j) ?_ ?_ l.length 0 _ (by omega) (by omega) (by simp) (fun i hi => absurd hi (by omega)) k hk
  · intro k acc j hj ha
    simp only [laws_toEntryS.l0, laws_toEntry.f, Option.bind_some]
    rw [if_pos (by omega), if_pos (by omega), if_pos (by omega), w64 (by omega) (by omega)]
    unfold rd_T142
    rw [getD_at _ hj]
    rfl
  · intro k acc
    simp only [laws_toEntryS.l0]
    rw [if_neg (by omega)]
theorem szEntryS_ok (l : List S142) (hl : l.length ≤ maxLen) (hw : ∀ x ∈ l, wf142 x) (left : Int) (h0 : 0 ≤ left) (h1 : left ≤ 1048576) :
    ∃ t, (∀ k, l.length < k → laws_szEntryS.f k l left = some t) ∧ (t < 0 ∨ (0 ≤ t ∧ t ≤ left ∧ l.length ≤ 1048576 ∧ ∀ x ∈ l, x.f2.size ≤ 1048576)) := by
  simp only [maxLen] at hl
  unfold laws_szEntryS.f
  rw [w64 (by omega) (by omega)]
  by_cases hc : left - (l.length : Int) < 0
  · exact ⟨-1, fun k _ => by rw [if_pos hc], .inl (by omega)⟩
  · simp only [if_neg hc]
    have hgg : ∀ x ∈ l, ∀ left : Int, 0 ≤ left → left ≤ 1048576 → ∃ t, laws_szEntry.f x.f0 x.f1 x.f2 left = some t ∧ (t < 0 ∨ (0 ≤ t ∧ t ≤ left ∧ x.f2.size ≤ 1048576)) := by
      intro x hx left h0 h1
      have hw := hw x hx
      have h2 : x.f2.size ≤ 140737488351232 := hw.2.2
      unfold laws_szEntry.f
      rw [w64 (by omega) (by omega)]
      by_cases hc : left - (x.f2.size : Int) < 0
      · rw [if_pos hc]; exact ⟨-1, rfl, .inl (by omega)⟩
      · rw [if_neg hc]; exact ⟨_, rfl, .inr ⟨by omega, by omega, by omega⟩⟩
    obtain ⟨t, ht, hr⟩ := sz_loop (F := fun k left j => laws_szEntryS.l0 k l left j) (g := fun x left => laws_szEntry.f x.f0 x.f1 x.f2 left) (P := fun x : S142 => x.f2.size ≤ 1048576) (l := l) (fun k left j hj hl => by
      simp only [laws_szEntryS.l0]
      rw [if_pos (by omega), if_pos (by omega), w64 (x := (j : Int) + 1) (by omega) (by omega)]
      unfold rd_T142
      rw [getD_at _ hj]
      rfl) (fun k left => by simp only [laws_szEntryS.l0]; rw [if_neg (by omega)]) hgg (by omega) l.length 0 (left - (l.length : Int)) (by omega) (by omega) (by omega) (by omega)
    · refine ⟨t, ht, ?_⟩
      rcases hr with hr | ⟨h2, h3, h4⟩
      · exact .inl hr
      · refine .inr ⟨h2, by omega, by omega, fun x hx => ?_⟩
        obtain ⟨i, hi, rfl⟩ := List.mem_iff_getElem.1 hx
        exact h4 i hi (by omega)

/-! ### mark -/
theorem mark_loop {α : Type} {F : Nat → List α → Int → Int → Option (Int × List α)} {G : Int → α} {w : Nat}
    (hs : ∀ k (l : List α) (c : Int) (j : Nat), j < l.length → l.length ≤ 2000000 → 20 ≤ k → 0 ≤ c → c ≤ 100000000000000 → F (k + 1) l c (j : Int) = F k (l.set j (G c)) (c + w) ((j + 1 : Nat) : Int))
    (he : ∀ k (l : List α) (c : Int), F (k + 1) l c (l.length : Int) = some (c, l)) :
    ∀ (d j : Nat) (l : List α) (c : Int), l.length - j = d → j ≤ l.length → l.length ≤ 2000000 → 0 ≤ c → c + w * d ≤ 100000000000000 →
    ∃ l' : List α, l'.length = l.length ∧ (∀ i, i < j → l'[i]? = l[i]?) ∧ (∀ i, j ≤ i → i < l.length → l'[i]? = some (G (c + w * ((i - j : Nat) : Int)))) ∧ ∀ k, d + 20 < k → F k l c (j : Int) = some (c + w * d, l') := by
  intro d
  induction d with
  | zero =>
    intro j l c hd hj hl h0 h1
    obtain rfl : j = l.length := by omega
    refine ⟨l, rfl, fun _ _ => rfl, fun i h2 h3 => by omega, fun k hk => ?_⟩
    obtain ⟨k, rfl⟩ : ∃ m, k = m + 1 := ⟨k - 1, by omega⟩
    rw [he]
    simp
  | succ d ih =>
    intro j l c hd hj hl h0 h1
    have hmul : (w : Int) * ((d + 1 : Nat) : Int) = w + w * d := by rw [Int.natCast_succ, Int.mul_add, Int.mul_one, Int.add_comm]
    have hwd : 0 ≤ (w : Int) * (d : Int) := Int.mul_nonneg (by omega) (by omega)
    obtain ⟨l', hl', h2, h3, h4⟩ := ih (j + 1) (l.set j (G c)) (c + w) (by rw [List.length_set]; omega) (by rw [List.length_set]; omega) (by rw [List.length_set]; exact hl) (by omega) (by omega)
    rw [List.length_set] at hl' h3
    refine ⟨l', hl', fun i hi => ?_, fun i hi1 hi2 => ?_, fun k hk => ?_⟩
    · rw [h2 i (by omega), List.getElem?_set_ne (by omega)]
    · by_cases hij : i = j
      · subst hij
        rw [h2 i (by omega), List.getElem?_set_self (by omega)]
        simp
      · rw [h3 i (by omega) hi2]
        congr 2
        have : ((i - j : Nat) : Int) = ((i - (j + 1) : Nat) : Int) + 1 := by omega
        rw [this, Int.mul_add, Int.mul_one]
        omega
    · obtain ⟨k, rfl⟩ : ∃ m, k = m + 1 := ⟨k - 1, by omega⟩
      rw [hs k l c j (by omega) hl (by omega) h0 (by omega), h4 k (by omega), hmul]
      congr 2
      omega
theorem held_loop {α : Type} {F : Nat → List α → Int → Int → Option Int} {G : Int → α} {w : Nat} {l : List α}
    (hs : ∀ k (c : Int) (j : Nat) (hj : j < l.length), l.length ≤ 2000000 → 20 ≤ k → 0 ≤ c → c ≤ 100000000000000 → l[j] = G c → F (k + 1) l c (j : Int) = F k l (c + w) ((j + 1 : Nat) : Int))
    (he : ∀ k (c : Int), F (k + 1) l c (l.length : Int) = some c) (hl : l.length ≤ 2000000) :
    ∀ (d j : Nat) (c : Int), l.length - j = d → j ≤ l.length → 0 ≤ c → c + w * d ≤ 100000000000000 → (∀ i, j ≤ i → i < l.length → l[i]? = some (G (c + w * ((i - j : Nat) : Int)))) → ∀ k, d + 20 < k → F k l c (j : Int) = some (c + w * d) := by
  intro d
  induction d with
  | zero =>
    intro j c hd hj h0 h1 hG k hk
    obtain rfl : j = l.length := by omega
    obtain ⟨k, rfl⟩ : ∃ m, k = m + 1 := ⟨k - 1, by omega⟩
    rw [he]
    simp
  | succ d ih =>
    intro j c hd hj h0 h1 hG k hk
    obtain ⟨k, rfl⟩ : ∃ m, k = m + 1 := ⟨k - 1, by omega⟩
    have hjl : j < l.length := by omega
    have hmul : (w : Int) * ((d + 1 : Nat) : Int) = w + w * d := by rw [Int.natCast_succ, Int.mul_add, Int.mul_one, Int.add_comm]
    have hwd : 0 ≤ (w : Int) * (d : Int) := Int.mul_nonneg (by omega) (by omega)
    have hj0 : l[j] = G c := by
      have := hG j (Nat.le_refl _) hjl
      rw [List.getElem?_eq_getElem hjl] at this
      simpa using this
    rw [hs k c j hjl hl (by omega) h0 (by omega) hj0, ih (j + 1) (c + w) (by omega) (by omega) (by omega) (by omega) (fun i h2 h3 => ?_) k (by omega), hmul]
    · congr 1; omega
    · rw [hG i (by omega) h3]
      congr 2
      have : ((i - j : Nat) : Int) = ((i - (j + 1) : Nat) : Int) + 1 := by omega
      rw [this, Int.mul_add, Int.mul_one]
      omega

/-! ### m_Entry -/
theorem eqEntryS_ok (l : List S51) (hl : l.length ≤ 2000000) : ∀ k, l.length < k → laws_eqEntryS.f k l l = some true := by
  intro k hk
  unfold laws_eqEntryS.f
  rw [if_pos rfl]
  refine up_loop (F := fun k j => laws_eqEntryS.l0 k l l j) (n := l.length) ?_ ?_ l.length 0 (by omega) (by omega) k hk
  · intro k j hj
    simp (disch := omega) only [laws_eqEntryS.l0, laws_eqEntry.f, ip, w64, Option.bind_some, if_true, bne_self_eq_false, Bool.false_eq_true, if_false]
    rfl
  · intro k
    simp only [laws_eqEntryS.l0]
    rw [if_neg (by omega)]

/-! ### message -/
def prevE (l : List S51) (lt : Int) (j : Nat) : Int := if j = 0 then lt else (rd_T51 l ((j : Int) - 1)).f0
def pM (l : List S51) (lt tm : Int) (j : Nat) : Bool :=
  entB (rd_T51 l (j : Int)).f0 (rd_T51 l (j : Int)).f1 (rd_T51 l (j : Int)).f2 && (!decide ((rd_T51 l (j : Int)).f0 < prevE l lt j) && !decide ((rd_T51 l (j : Int)).f0 > tm))
def tailB (kd : Int) (n : Nat) (c : List Int) (s : ByteArray) (b : Bool) : Bool :=
  if kd = 5 then confB c && decide ((s.size : Int) ≤ 60) else decide ((c.length : Int) = 0) && (decide (s.toList = ([] : List UInt8)) && !b)
def cntB (kd : Int) (n : Nat) : Bool := decide ((n : Int) = 0) || (decide (kd = 3) && decide ((n : Int) ≤ 4))
def msgB (a0 a1 a2 a3 a4 a5 a6 : Int) (l : List S51) (c : List Int) (s : ByteArray) (b : Bool) : Bool :=
  (rng a0 1 6 && (rng a1 1 4 && (rng a2 1 4 && (!decide (a1 = a2) && (rng a3 0 100000 && rng a5 0 100000))))) && ((rng a4 0 1000000 && rng a6 0 1000000) && (cntB a0 l.length && (allF (pM l a5 a3) 0 l.length && tailB a0 l.length c s b)))
theorem prev_succ (l : List S51) (lt : Int) (j : Nat) : prevE l lt (j + 1) = (rd_T51 l (j : Int)).f0 := by
  unfold prevE
  rw [if_neg (by omega), show ((j + 1 : Nat) : Int) - 1 = (j : Int) by omega]
theorem spec_msg_loop (a0 a1 a2 a3 a4 a5 a6 : Int) (a7 : Bool) (l : List S51) (c : List Int) (s : ByteArray) (b : Bool) (hl : l.length ≤ 2000000) (hc : c.length ≤ 2000000) (hs : ∀ x ∈ l, x.f2.size ≤ 2000000) :
    Ev (fun k => spec_MessageOk.l0 k a5 0 a0 a1 a2 a3 a4 a5 a6 a7 l c s b) (allF (pM l a5 a3) 0 l.length && tailB a0 l.length c s b) := by
  refine all_ev (F := fun k j => spec_MessageOk.l0 k (prevE l a5 j) (j : Int) a0 a1 a2 a3 a4 a5 a6 a7 l c s b) (n := l.length) (fun j hj => ?_) ?_ l.length 0 (by omega) (by omega)
  · have hget : rd_T51 l (j : Int) = l[j] := by unfold rd_T51; exact getD_at _ hj
    have he := spec_ent (rd_T51 l (j : Int)).f0 (rd_T51 l (j : Int)).f1 (rd_T51 l (j : Int)).f2 (by rw [hget]; exact hs _ (List.getElem_mem hj))
    have e1 : ((j : Int) + 1) = ((j + 1 : Nat) : Int) := by omega
    refine ⟨fun hp r hr => ?_, fun hp => ?_⟩
    · unfold pM at hp
      simp only [Bool.and_eq_true, Bool.not_eq_true', decide_eq_false_iff_not] at hp
      refine Ev.step (fun k => by simp only [spec_MessageOk.l0]; rw [if_pos (by omega), if_pos (by omega), w64 (x := (j : Int) + 1) (by omega) (by omega), e1]) ?_
      refine Ev.bind he ?_
      simp only [hp.1, if_true, if_neg hp.2.1, if_neg hp.2.2]
      simp only [prev_succ] at hr
      exact hr
    · refine Ev.step (fun k => by simp only [spec_MessageOk.l0]; rw [if_pos (by omega), if_pos (by omega), w64 (x := (j : Int) + 1) (by omega) (by omega), e1]) ?_
      refine Ev.bind he ?_
      unfold pM at hp
      cases h1 : entB (rd_T51 l (j : Int)).f0 (rd_T51 l (j : Int)).f1 (rd_T51 l (j : Int)).f2 with
      | false => simp only [Bool.false_eq_true, if_false]; exact Ev.now _
      | true =>
        by_cases h2 : (rd_T51 l (j : Int)).f0 < prevE l a5 j
        · simp only [if_true, if_pos h2]; exact Ev.now _
        · by_cases h3 : (rd_T51 l (j : Int)).f0 > a3
          · simp only [if_true, if_neg h2, if_pos h3]; exact Ev.now _
          · simp [h1, h2, h3] at hp
  · refine Ev.step (fun k => by simp only [spec_MessageOk.l0]; rw [if_neg (by omega)]) ?_
    unfold tailB
    by_cases h5 : a0 = 5
    · simp only [if_pos h5]
      refine Ev.bind (spec_conf c hc) ?_
      cases confB c <;> simpa using Ev.now _
    · simp only [if_neg h5]
      by_cases h0 : (c.length : Int) = 0 <;> by_cases h1 : s.toList = ([] : List UInt8) <;> simp only [h0, h1, if_true, if_false, decide_true, decide_false, Bool.true_and, Bool.false_and] <;> exact Ev.now _
theorem spec_msg (a0 a1 a2 a3 a4 a5 a6 : Int) (a7 : Bool) (l : List S51) (c : List Int) (s : ByteArray) (b : Bool) (hl : l.length ≤ 2000000) (hc : c.length ≤ 2000000) (hs : ∀ x ∈ l, x.f2.size ≤ 2000000) :
    Ev (fun k => spec_MessageOk.f k a0 a1 a2 a3 a4 a5 a6 a7 l c s b) (msgB a0 a1 a2 a3 a4 a5 a6 l c s b) := by
  have hT0 : Ev (fun k => spec_MessageOk.j0 k true a0 a1 a2 a3 a4 a5 a6 a7 l c s b) false := Ev.here (f := fun _ => some false) (fun k => by simp [spec_MessageOk.j0]) (fun _ => rfl)
  have hT1 : Ev (fun k => spec_MessageOk.j1 k true a0 a1 a2 a3 a4 a5 a6 a7 l c s b) false := Ev.here (f := fun _ => some false) (fun k => by simp [spec_MessageOk.j1]) (fun _ => rfl)
  have hT2 : Ev (fun k => spec_MessageOk.j2 k true a0 a1 a2 a3 a4 a5 a6 a7 l c s b) false := Ev.here (f := fun _ => some false) (fun k => by simp [spec_MessageOk.j2]) (fun _ => rfl)
  have hF2 : Ev (fun k => spec_MessageOk.j2 k false a0 a1 a2 a3 a4 a5 a6 a7 l c s b) (allF (pM l a5 a3) 0 l.length && tailB a0 l.length c s b) :=
    Ev.step (fun k => by simp [spec_MessageOk.j2]) (spec_msg_loop a0 a1 a2 a3 a4 a5 a6 a7 l c s b hl hc hs)
  have hF1 : Ev (fun k => spec_MessageOk.j1 k false a0 a1 a2 a3 a4 a5 a6 a7 l c s b) (cntB a0 l.length && (allF (pM l a5 a3) 0 l.length && tailB a0 l.length c s b)) := by
    refine Ev.step (fun k => by simp only [spec_MessageOk.j1, Bool.false_eq_true, if_false]; rfl) ?_
    unfold cntB
    by_cases h4 : (l.length : Int) > 4
    · simp only [if_pos h4, show ¬ (l.length : Int) = 0 by omega, show ¬ (l.length : Int) ≤ 4 by omega, decide_false, Bool.and_false, Bool.or_self, Bool.false_and]
      exact hT2
    · by_cases h0 : (l.length : Int) > 0
      · by_cases h3 : a0 = 3
        · subst h3
          simp only [if_neg h4, if_pos h0, show (l.length : Int) ≤ 4 by omega, bne_self_eq_false, decide_true, Bool.and_true, Bool.or_true, Bool.true_and]
          exact hF2
        · have hb : (a0 != 3) = true := by simpa using h3
          simp only [if_neg h4, if_pos h0, hb, show ¬ (l.length : Int) = 0 by omega, h3, decide_false, Bool.false_and, Bool.or_self]
          exact hT2
      · simp only [if_neg h4, if_neg h0, show (l.length : Int) = 0 by omega, decide_true, Bool.true_or, Bool.true_and]
        exact hF2
  have hF0 : Ev (fun k => spec_MessageOk.j0 k false a0 a1 a2 a3 a4 a5 a6 a7 l c s b) ((rng a3 0 100000 && rng a5 0 100000) && ((rng a4 0 1000000 && rng a6 0 1000000) && (cntB a0 l.length && (allF (pM l a5 a3) 0 l.length && tailB a0 l.length c s b)))) := by
    refine Ev.step (fun k => by simp only [spec_MessageOk.j0, Bool.false_eq_true, if_false, in_eq, Option.bind_some]; rfl) ?_
    cases rng a3 0 100000 <;> cases rng a5 0 100000 <;> cases rng a4 0 1000000 <;> cases rng a6 0 1000000 <;>
      simp only [Bool.false_eq_true, if_false, if_true, Bool.not_true, Bool.not_false, Bool.true_and, Bool.false_and, Bool.and_false, Bool.and_self] <;> first | exact hT1 | exact hF1
  unfold spec_MessageOk.f msgB
  simp only [in_eq, Option.bind_some]
  cases rng a0 1 6 <;> cases rng a1 1 4 <;> cases rng a2 1 4 <;> simp only [Bool.false_eq_true, if_false, if_true, Bool.true_and, Bool.false_and]
  iterate 7 (first | exact hT0 | skip)
  by_cases h : a1 = a2
  · subst h
    simp only [beq_self_eq_true, decide_true, Bool.not_true, Bool.false_and]
    exact hT0
  · have hb : (a1 == a2) = false := by simpa using h
    simp only [hb, h, decide_false, Bool.not_false, Bool.true_and]
    exact hF0
theorem impl_msg_loop (a0 a1 a2 a3 a4 a5 a6 : Int) (a7 : Bool) (l : List S51) (c : List Int) (s : ByteArray) (b : Bool) (hl : l.length ≤ 2000000) (hc : c.length ≤ 2000000) (hs : ∀ x ∈ l, x.f2.size ≤ 2000000) :
    Ev (fun k => impl_MessageOk.l0 k a5 l (l.length : Int) 0 a0 a1 a2 a3 a4 a5 a6 a7 l c s b) (allF (pM l a5 a3) 0 l.length && ((rng a4 0 1000000 && rng a6 0 1000000) && (cntB a0 l.length && tailB a0 l.length c s b))) := by
  refine all_ev (F := fun k j => impl_MessageOk.l0 k (prevE l a5 j) l (l.length : Int) (j : Int) a0 a1 a2 a3 a4 a5 a6 a7 l c s b) (n := l.length) (fun j hj => ?_) ?_ l.length 0 (by omega) (by omega)
  · have hget : rd_T51 l (j : Int) = l[j] := by unfold rd_T51; exact getD_at _ hj
    have he := impl_ent (rd_T51 l (j : Int)).f0 (rd_T51 l (j : Int)).f1 (rd_T51 l (j : Int)).f2 (by rw [hget]; exact hs _ (List.getElem_mem hj))
    have e1 : ((j : Int) + 1) = ((j + 1 : Nat) : Int) := by omega
    refine ⟨fun hp r hr => ?_, fun hp => ?_⟩
    · unfold pM at hp
      simp only [Bool.and_eq_true, Bool.not_eq_true', decide_eq_false_iff_not] at hp
      refine Ev.step (fun k => by simp only [impl_MessageOk.l0]; rw [if_pos (by omega), if_pos (by omega), if_pos (by omega), w64 (x := (j : Int) + 1) (by omega) (by omega), e1]) ?_
      refine Ev.bind he ?_
      simp only [hp.1, if_true, if_neg hp.2.1, if_neg hp.2.2]
      simp only [prev_succ] at hr
      exact hr
    · refine Ev.step (fun k => by simp only [impl_MessageOk.l0]; rw [if_pos (by omega), if_pos (by omega), if_pos (by omega), w64 (x := (j : Int) + 1) (by omega) (by omega), e1]) ?_
      refine Ev.bind he ?_
      unfold pM at hp
      cases h1 : entB (rd_T51 l (j : Int)).f0 (rd_T51 l (j : Int)).f1 (rd_T51 l (j : Int)).f2 with
      | false => simp only [Bool.false_eq_true, if_false]; exact Ev.now _
      | true =>
        by_cases h2 : (rd_T51 l (j : Int)).f0 < prevE l a5 j
        · simp only [if_true, if_pos h2]; exact Ev.now _
        · by_cases h3 : (rd_T51 l (j : Int)).f0 > a3
          · simp only [if_true, if_neg h2, if_pos h3]; exact Ev.now _
          · simp [h1, h2, h3] at hp
  · refine Ev.step (fun k => by simp only [impl_MessageOk.l0]; rw [if_neg (by omega)]) ?_
    simp only [impl_isIndex.f, within_eq, Option.bind_some]
    unfold tailB cntB
    by_cases h5 : a0 = 5
    · have h3 : ¬ a0 = 3 := by omega
      simp only [if_pos h5, if_neg h3, h3, decide_false, Bool.false_and, Bool.or_false]
      refine Ev.bind (impl_conf c hc) ?_
      by_cases h0 : (l.length : Int) = 0 <;> by_cases h6 : (s.size : Int) ≤ 60 <;> cases confB c <;> cases rng a4 0 1000000 <;> cases rng a6 0 1000000 <;> simp only [h0, h6, if_true, if_false, Bool.false_eq_true, decide_true, decide_false, Bool.true_and, Bool.false_and, Bool.and_true, Bool.and_false, Bool.and_self] <;> exact Ev.now _
    · simp only [if_neg h5]
      by_cases h0 : (c.length : Int) = 0
      · by_cases h1 : s.toList = ([] : List UInt8)
        · by_cases h2 : (l.length : Int) = 0
          · cases rng a4 0 1000000 <;> cases rng a6 0 1000000 <;> simp only [h0, h1, h2, if_true, if_false, Bool.false_eq_true, decide_true, decide_false, Bool.true_and, Bool.false_and, Bool.and_true, Bool.and_false, Bool.and_self, Bool.true_or] <;> exact Ev.now _
          · by_cases h3 : a0 = 3 <;> by_cases h4 : (l.length : Int) ≤ 4 <;> cases rng a4 0 1000000 <;> cases rng a6 0 1000000 <;> simp only [h0, h1, h2, h3, h4, if_true, if_false, Bool.false_eq_true, decide_true, decide_false, Bool.true_and, Bool.false_and, Bool.and_true, Bool.and_false, Bool.and_self, Bool.false_or] <;> exact Ev.now _
        · by_cases h2 : (l.length : Int) = 0
          · cases rng a4 0 1000000 <;> cases rng a6 0 1000000 <;> simp only [h0, h1, h2, if_true, if_false, Bool.false_eq_true, decide_true, decide_false, Bool.true_and, Bool.false_and, Bool.and_true, Bool.and_false, Bool.and_self, Bool.true_or] <;> exact Ev.now _
          · by_cases h3 : a0 = 3 <;> by_cases h4 : (l.length : Int) ≤ 4 <;> cases rng a4 0 1000000 <;> cases rng a6 0 1000000 <;> simp only [h0, h1, h2, h3, h4, if_true, if_false, Bool.false_eq_true, decide_true, decide_false, Bool.true_and, Bool.false_and, Bool.and_true, Bool.and_false, Bool.and_self, Bool.false_or] <;> exact Ev.now _
      · by_cases h2 : (l.length : Int) = 0
        · cases rng a4 0 1000000 <;> cases rng a6 0 1000000 <;> simp only [h0, h2, if_true, if_false, Bool.false_eq_true, decide_true, decide_false, Bool.true_and, Bool.false_and, Bool.and_true, Bool.and_false, Bool.and_self, Bool.true_or] <;> exact Ev.now _
        · by_cases h3 : a0 = 3 <;> by_cases h4 : (l.length : Int) ≤ 4 <;> cases rng a4 0 1000000 <;> cases rng a6 0 1000000 <;> simp only [h0, h2, h3, h4, if_true, if_false, Bool.false_eq_true, decide_true, decide_false, Bool.true_and, Bool.false_and, Bool.and_true, Bool.and_false, Bool.and_self, Bool.false_or] <;> exact Ev.now _
theorem impl_msg (a0 a1 a2 a3 a4 a5 a6 : Int) (a7 : Bool) (l : List S51) (c : List Int) (s : ByteArray) (b : Bool) (hl : l.length ≤ 2000000) (hc : c.length ≤ 2000000) (hs : ∀ x ∈ l, x.f2.size ≤ 2000000) :
    Ev (fun k => impl_MessageOk.f k a0 a1 a2 a3 a4 a5 a6 a7 l c s b) (msgB a0 a1 a2 a3 a4 a5 a6 l c s b) := by
  have hT0 : Ev (fun k => impl_MessageOk.j0 k true a0 a1 a2 a3 a4 a5 a6 a7 l c s b) false := Ev.here (f := fun _ => some false) (fun k => by simp [impl_MessageOk.j0]) (fun _ => rfl)
  have hF0 : Ev (fun k => impl_MessageOk.j0 k false a0 a1 a2 a3 a4 a5 a6 a7 l c s b) ((rng a4 0 1000000 && rng a6 0 1000000) && (cntB a0 l.length && (allF (pM l a5 a3) 0 l.length && tailB a0 l.length c s b))) := by
    have h := impl_msg_loop a0 a1 a2 a3 a4 a5 a6 a7 l c s b hl hc hs
    have e : (allF (pM l a5 a3) 0 l.length && ((rng a4 0 1000000 && rng a6 0 1000000) && (cntB a0 l.length && tailB a0 l.length c s b))) = ((rng a4 0 1000000 && rng a6 0 1000000) && (cntB a0 l.length && (allF (pM l a5 a3) 0 l.length && tailB a0 l.length c s b))) := by
      cases allF (pM l a5 a3) 0 l.length <;> simp
    rw [e] at h
    exact Ev.step (fun k => by simp [impl_MessageOk.j0]) h
  unfold impl_MessageOk.f impl_isNode.f impl_isTerm.f msgB
  simp only [within_eq, Option.bind_some]
  cases rng a0 1 6 <;> cases rng a1 1 4 <;> cases rng a2 1 4 <;> simp only [Bool.false_eq_true, if_false, if_true, Bool.true_and, Bool.false_and]
  iterate 7 (first | exact hT0 | skip)
  by_cases h : a1 = a2
  · simp only [if_pos h, h, decide_true, Bool.not_true, Bool.false_and]
    rw [h] at hT0
    exact hT0
  · simp only [if_neg h, h, decide_false, Bool.not_false, Bool.true_and]
    cases rng a3 0 100000 <;> cases rng a5 0 100000 <;> simp only [Bool.false_eq_true, if_false, if_true, Bool.not_true, Bool.not_false, Bool.true_and, Bool.false_and, Bool.and_false, Bool.and_self] <;> first | exact hT0 | exact hF0
theorem toInts_ok (l : List Int) (hl : l.length ≤ 1048576) : ∀ k, l.length < k → laws_toIntS.f k l = some l := by
  intro k hk
  unfold laws_toIntS.f
  rw [if_pos (by omega), if_pos (by omega)]
  have := map_loop (F := fun k acc j => laws_toIntS.l0 k l acc j) (g := fun x : Int => x) (l := l) ?_ ?_ l.length 0 (List.replicate ((l.length : Int) : Int).toNat 0) (by omega) (by omega) (by simp) (fun i hi => absurd hi (by omega)) k hk
  · simpa using this
  · intro k acc j hj ha
    simp only [laws_toIntS.l0]
    rw [if_pos (by omega), if_pos (by omega), if_pos (by omega), w64 (by omega) (by omega)]
    unfold rd
    rw [getD_at _ hj]
    rfl
  · intro k acc
    simp only [laws_toIntS.l0]
    rw [if_neg (by omega)]
theorem eqInts_ok (l : List Int) (hl : l.length ≤ 2000000) : ∀ k, l.length < k → laws_eqIntS.f k l l = some true := by
  intro k hk
  unfold laws_eqIntS.f
  rw [if_pos rfl]
  refine up_loop (F := fun k j => laws_eqIntS.l0 k l l j) (n := l.length) ?_ ?_ l.length 0 (by omega) (by omega) k hk
  · intro k j hj
    simp (disch := omega) only [laws_eqIntS.l0, ip, w64, if_true]
    rfl
  · intro k
    simp only [laws_eqIntS.l0]
    rw [if_neg (by omega)]
theorem szMessage_ok (a0 a1 a2 a3 a4 a5 a6 : Int) (a7 : Bool) (l : List S142) (c : List Int) (s : ByteArray) (b : Bool) (hl : l.length ≤ maxLen) (hw : ∀ x ∈ l, wf142 x) (hc : c.length ≤ maxLen) (hs : s.size ≤ 140737488351232) :
    ∃ t, (∀ k, l.length < k → laws_szMessage.f k a0 a1 a2 a3 a4 a5 a6 a7 l c s b 1048576 = some t) ∧ (t < 0 ∨ (l.length ≤ 1048576 ∧ (∀ x ∈ l, x.f2.size ≤ 1048576) ∧ c.length ≤ 1048576 ∧ s.size ≤ 1048576)) := by
  obtain ⟨t, h1, h2⟩ := szEntryS_ok l hl hw 1048576 (by omega) (by omega)
  simp only [maxLen] at hc
  rcases h2 with h2 | ⟨h2, h3, h4, h5⟩
  · refine ⟨-1, fun k hk => ?_, .inl (by omega)⟩
    unfold laws_szMessage.f
    rw [h1 k hk]
    simp only [Option.bind_some]
    rw [if_pos h2]
  · by_cases hu : t - (c.length : Int) < 0
    · refine ⟨-1, fun k hk => ?_, .inl (by omega)⟩
      unfold laws_szMessage.f laws_szIntS.f
      rw [h1 k hk]
      simp only [Option.bind_some]
      rw [if_neg (by omega), w64 (x := t - (c.length : Int)) (by omega) (by omega), if_pos hu]
      simp
    · by_cases hv : t - (c.length : Int) - (s.size : Int) < 0
      · refine ⟨-1, fun k hk => ?_, .inl (by omega)⟩
        unfold laws_szMessage.f laws_szIntS.f
        rw [h1 k hk]
        simp only [Option.bind_some]
        rw [if_neg (by omega), w64 (x := t - (c.length : Int)) (by omega) (by omega), if_neg hu]
        simp only [Option.bind_some]
        rw [if_neg hu, w64 (x := t - (c.length : Int) - (s.size : Int)) (by omega) (by omega), if_pos hv]
      · refine ⟨t - (c.length : Int) - (s.size : Int), fun k hk => ?_, .inr ⟨h4, h5, by omega, by omega⟩⟩
        unfold laws_szMessage.f laws_szIntS.f
        rw [h1 k hk]
        simp only [Option.bind_some]
        rw [if_neg (by omega), w64 (x := t - (c.length : Int)) (by omega) (by omega), if_neg hu]
        simp only [Option.bind_some]
        rw [if_neg hu, w64 (x := t - (c.length : Int) - (s.size : Int)) (by omega) (by omega), if_neg hv]
theorem toMessage_ok (a0 a1 a2 a3 a4 a5 a6 : Int) (a7 : Bool) (l : List S142) (c : List Int) (s : ByteArray) (b : Bool) (hl : l.length ≤ 1048576) (hc : c.length ≤ 1048576) :
    ∀ k, l.length + c.length < k → laws_toMessage.f k a0 a1 a2 a3 a4 a5 a6 a7 l c s b = some (a0, a1, a2, a3, a4, a5, a6, a7, l.map conEntry, c, s, b) := by
  intro k hk
  unfold laws_toMessage.f
  rw [toEntryS_ok l hl k (by omega), toInts_ok c hc k (by omega)]
  rfl
theorem eqMessage_ok (a0 a1 a2 a3 a4 a5 a6 : Int) (a7 : Bool) (l : List S51) (c : List Int) (s : ByteArray) (b : Bool) (hl : l.length ≤ 2000000) (hc : c.length ≤ 2000000) :
    ∀ k, l.length + c.length < k → laws_eqMessage.f k a0 a1 a2 a3 a4 a5 a6 a7 l c s b a0 a1 a2 a3 a4 a5 a6 a7 l c s b = some true := by
  intro k hk
  unfold laws_eqMessage.f
  rw [eqEntryS_ok l hl k (by omega), eqInts_ok c hc k (by omega)]
  simp

/-! ### var -/
def varL : Nat → Int → List Int
  | 0, x => [x % 256]
  | d + 1, x => if x > 127 then (x % 128 + 128) % 256 :: varL d (x / 128) else [x % 256]
theorem varL_length : ∀ d x, (varL d x).length ≤ d + 1 := by
  intro d
  induction d with
  | zero => intro x; simp [varL]
  | succ d ih =>
    intro x
    unfold varL
    split
    · have := ih (x / 128); simp only [List.length_cons]; omega
    · simp
def varT (x : Int) : ByteArray := strOfNums (varL 8 x)
theorem varT_size (x : Int) : (varT x).size ≤ 9 := by
  unfold varT
  rw [strOfNums_size]
  exact varL_length 8 x
theorem spec_var_loop : ∀ (d : Nat) (x : Int) (acc : List Int), 0 ≤ x → x < 128 ^ (d + 1) → x ≤ 9223372036854775807 → acc.length + d ≤ 1000 → ∀ k, d < k → spec_l01Var.l0 k x acc = some (strOfNums (acc ++ varL d x)) := by
  intro d
  induction d with
  | zero =>
    intro x acc h0 h1 h2 h3 k hk
    obtain ⟨k, rfl⟩ : ∃ m, k = m + 1 := ⟨k - 1, by omega⟩
    simp only [spec_l01Var.l0, varL]
    rw [if_neg (by omega), if_pos (by omega)]
  | succ d ih =>
    intro x acc h0 h1 h2 h3 k hk
    obtain ⟨k, rfl⟩ : ∃ m, k = m + 1 := ⟨k - 1, by omega⟩
    simp only [spec_l01Var.l0, varL]
    by_cases hx : x > 127
    · have hp : (128 : Int) ^ (d + 1 + 1) = 128 ^ (d + 1) * 128 := Int.pow_succ 128 (d + 1)
      rw [if_pos hx, if_pos (by omega), if_pos hx, Int.tdiv_eq_ediv_of_nonneg h0, Int.tmod_eq_emod_of_nonneg h0, w64 (x := x / 128) (by omega) (by omega), w64 (x := x % 128 + 128) (by omega) (by omega)]
      rw [ih (x / 128) (acc ++ [(x % 128 + 128) % 256]) (by omega) (by omega) (by omega) (by rw [List.length_append, List.length_singleton]; omega) k (by omega), List.append_assoc]
      rfl
    · rw [if_neg hx, if_pos (by omega), if_neg hx]
theorem spec_var (x : Int) (h0 : 0 ≤ x) (h1 : x ≤ 1000000000) : Ev (fun k => spec_l01Var.f k x) (varT x) := ⟨9, fun k hk => by
  exact spec_var_loop 8 x [] h0 (by omega) (by omega) (by simp) k (by omega)⟩
theorem impl_var_loop : ∀ (d : Nat) (x : Int) (acc : List Int), 0 ≤ x → x < 128 ^ (d + 1) → x ≤ 9223372036854775807 → acc.length + d ≤ 1000 → ∀ k, d < k → impl_VarText.l0 k x acc = some (strOfNums (acc ++ varL d x), true) := by
  intro d
  induction d with
  | zero =>
    intro x acc h0 h1 h2 h3 k hk
    obtain ⟨k, rfl⟩ : ∃ m, k = m + 1 := ⟨k - 1, by omega⟩
    simp only [impl_VarText.l0, varL]
    rw [if_neg (by omega), if_pos (by omega)]
  | succ d ih =>
    intro x acc h0 h1 h2 h3 k hk
    obtain ⟨k, rfl⟩ : ∃ m, k = m + 1 := ⟨k - 1, by omega⟩
    simp only [impl_VarText.l0, varL]
    by_cases hx : x > 127
    · have hp : (128 : Int) ^ (d + 1 + 1) = 128 ^ (d + 1) * 128 := Int.pow_succ 128 (d + 1)
      rw [if_pos hx, if_pos (by omega), if_pos hx, Int.tdiv_eq_ediv_of_nonneg h0, Int.tmod_eq_emod_of_nonneg h0, w64 (x := x / 128) (by omega) (by omega), w64 (x := x % 128 + 128) (by omega) (by omega)]
      rw [ih (x / 128) (acc ++ [(x % 128 + 128) % 256]) (by omega) (by omega) (by omega) (by rw [List.length_append, List.length_singleton]; omega) k (by omega), List.append_assoc]
      rfl
    · rw [if_neg hx, if_pos (by omega), if_neg hx]
theorem impl_var (x : Int) (h0 : 0 ≤ x) (h1 : x ≤ 1000000000) : Ev (fun k => impl_VarText.f k x) (varT x, true) := ⟨9, fun k hk => by
  unfold impl_VarText.f
  have hr : rng x 0 1000000000 = true := rng_iff.2 ⟨h0, h1⟩
  simp only [within_eq, hr, Option.bind_some, if_true]
  exact impl_var_loop 8 x [] h0 (by omega) (by omega) (by simp) k (by omega)⟩
def shortT (s : ByteArray) : ByteArray := varT (s.size : Int) ++ s
theorem shortT_size (s : ByteArray) : (shortT s).size ≤ s.size + 9 := by
  have := varT_size (s.size : Int)
  unfold shortT
  rw [ByteArray.size_append]
  omega
theorem impl_short (s : ByteArray) (hs : s.size ≤ 20000) : Ev (fun k => impl_ShortText.f k s) (shortT s, true) := by
  unfold impl_ShortText.f
  simp only [if_neg (show ¬ (s.size : Int) > 20000 by omega)]
  refine Ev.bind (impl_var (s.size : Int) (by omega) (by omega)) ?_
  have := varT_size (s.size : Int)
  simp only [if_pos (show (varT (s.size : Int)).size + s.size ≤ 9223372036854775807 by omega)]
  exact Ev.now _
def catB {α : Type} (f : α → ByteArray) : List α → ByteArray
  | [] => (⟨#[]⟩ : ByteArray)
  | x :: l => f x ++ catB f l
theorem app_empty (s : ByteArray) : s ++ (⟨#[]⟩ : ByteArray) = s := bl_inj (by rw [bl_app, bl_empty, List.append_nil])
theorem empty_app (s : ByteArray) : (⟨#[]⟩ : ByteArray) ++ s = s := bl_inj (by rw [bl_app, bl_empty, List.nil_append])
theorem varTexts_loop (l : List Int) (hl : l.length ≤ 1000000) (hr : ∀ x ∈ l, 0 ≤ x ∧ x ≤ 1000000000) : ∀ (d j : Nat) (acc : ByteArray), l.length - j = d → j ≤ l.length → acc.size ≤ 100 * j → Ev (fun k => impl_varTexts.l0 k acc l (l.length : Int) (j : Int)) (acc ++ catB varT (l.drop j)) := by
  intro d
  induction d with
  | zero =>
    intro j acc hd hj ha
    rw [List.drop_of_length_le (by omega)]
    simp only [catB, app_empty]
    exact Ev.step (f := fun _ => some acc) (fun k => by simp only [impl_varTexts.l0]; rw [if_neg (by omega)]) (Ev.now _)
  | succ d ih =>
    intro j acc hd hj ha
    have hjl : j < l.length := by omega
    have hget : rd l (j : Int) = l[j] := by unfold rd; rw [List.getD_eq_getElem?_getD, Int.toNat_natCast, List.getElem?_eq_getElem hjl]; rfl
    have hx := hr l[j] (List.getElem_mem _)
    refine Ev.step (f := fun k => (impl_VarText.f k l[j]).bind fun bt => if acc.size + bt.1.size ≤ 9223372036854775807 then impl_varTexts.l0 k (acc ++ bt.1) l (l.length : Int) ((j + 1 : Nat) : Int) else none) (fun k => ?_) ?_
    · simp only [impl_varTexts.l0]
      rw [if_pos (by omega), if_pos (by omega), if_pos (by omega), hget, w64 (x := (j : Int) + 1) (by omega) (by omega)]
      rfl
    · refine Ev.bind (impl_var _ hx.1 hx.2) ?_
      have h9 := varT_size l[j]
      simp only [if_pos (show acc.size + (varT l[j]).size ≤ 9223372036854775807 by omega)]
      have := ih (j + 1) (acc ++ varT l[j]) (by omega) (by omega) (by rw [ByteArray.size_append]; omega)
      rw [List.drop_eq_getElem_cons hjl, catB, ← ByteArray.append_assoc]
      exact this
theorem varTexts_ok (l : List Int) (hl : l.length ≤ 1000000) (hr : ∀ x ∈ l, 0 ≤ x ∧ x ≤ 1000000000) : Ev (fun k => impl_varTexts.f k l) (catB varT l) := by
  have := varTexts_loop l hl hr l.length 0 (⟨#[]⟩ : ByteArray) (by omega) (by omega) (by show 0 ≤ _; omega)
  rw [empty_app] at this
  exact this
theorem shortTexts_loop (l : List ByteArray) (hl : l.length ≤ 1000000) (hr : ∀ x ∈ l, x.size ≤ 20000) : ∀ (d j : Nat) (acc : ByteArray), l.length - j = d → j ≤ l.length → acc.size ≤ 30000 * j → Ev (fun k => impl_shortTexts.l0 k acc l (l.length : Int) (j : Int)) (acc ++ catB shortT (l.drop j)) := by
  intro d
  induction d with
  | zero =>
    intro j acc hd hj ha
    rw [List.drop_of_length_le (by omega)]
    simp only [catB, app_empty]
    exact Ev.step (f := fun _ => some acc) (fun k => by simp only [impl_shortTexts.l0]; rw [if_neg (by omega)]) (Ev.now _)
  | succ d ih =>
    intro j acc hd hj ha
    have hjl : j < l.length := by omega
    have hget : rdOf ByteArray.empty l (j : Int) = l[j] := by unfold rdOf; rw [List.getD_eq_getElem?_getD, Int.toNat_natCast, List.getElem?_eq_getElem hjl]; rfl
    have hx := hr l[j] (List.getElem_mem _)
    refine Ev.step (f := fun k => (impl_ShortText.f k l[j]).bind fun bt => if acc.size + bt.1.size ≤ 9223372036854775807 then impl_shortTexts.l0 k (acc ++ bt.1) l (l.length : Int) ((j + 1 : Nat) : Int) else none) (fun k => ?_) ?_
    · simp only [impl_shortTexts.l0]
      rw [if_pos (by omega), if_pos (by omega), if_pos (by omega), hget, w64 (x := (j : Int) + 1) (by omega) (by omega)]
      rfl
    · refine Ev.bind (impl_short _ hx) ?_
      have h9 := shortT_size l[j]
      simp only [if_pos (show acc.size + (shortT l[j]).size ≤ 9223372036854775807 by omega)]
      have := ih (j + 1) (acc ++ shortT l[j]) (by omega) (by omega) (by rw [ByteArray.size_append]; omega)
      rw [List.drop_eq_getElem_cons hjl, catB, ← ByteArray.append_assoc]
      exact this
theorem shortTexts_ok (l : List ByteArray) (hl : l.length ≤ 1000000) (hr : ∀ x ∈ l, x.size ≤ 20000) : Ev (fun k => impl_shortTexts.f k l) (catB shortT l) := by
  have := shortTexts_loop l hl hr l.length 0 (⟨#[]⟩ : ByteArray) (by omega) (by omega) (by show 0 ≤ _; omega)
  rw [empty_app] at this
  exact this

/-! ### bytes -/
theorem bytes_loop (l : List Int) (hl : l.length ≤ 2000000) : ∀ (d j : Nat) (acc : List Int), l.length - j = d → j ≤ l.length → acc.length = j → ∀ k, d < k → impl_byteTexts.l0 k acc l (l.length : Int) (j : Int) = some (strOfNums (acc ++ (l.drop j).map (· % 256))) := by
  intro d
  induction d with
  | zero =>
    intro j acc hd hj ha k hk
    obtain ⟨k, rfl⟩ : ∃ m, k = m + 1 := ⟨k - 1, by omega⟩
    simp only [impl_byteTexts.l0]
    rw [if_neg (by omega), List.drop_of_length_le (by omega)]
    simp
  | succ d ih =>
    intro j acc hd hj ha k hk
    obtain ⟨k, rfl⟩ : ∃ m, k = m + 1 := ⟨k - 1, by omega⟩
    have hjl : j < l.length := by omega
    have hget : rd l (j : Int) = l[j] := by unfold rd; simp [List.getD_eq_getElem?_getD, List.getElem?_eq_getElem hjl]
    have hdrop : l.drop j = l[j] :: l.drop (j + 1) := List.drop_eq_getElem_cons hjl
    simp only [impl_byteTexts.l0]
    rw [if_pos (by omega), if_pos (by omega), if_pos (by omega), if_pos (by omega), hget, w64 (x := (j : Int) + 1) (by omega) (by omega), hdrop]
    have := ih (j + 1) (acc ++ [l[j] % 256]) (by omega) (by omega) (by rw [List.length_append, List.length_singleton]; omega) k (by omega)
    rw [List.append_assoc] at this
    exact this
theorem bytes_ok (l : List Int) (hl : l.length ≤ 2000000) : ∀ k, l.length < k → impl_byteTexts.f k l = some (strOfNums (l.map (· % 256))) := fun k hk =>
  bytes_loop l hl l.length 0 [] (by omega) (by omega) rfl k hk

/-! ### entrytext -/
def entT (i t c : Int) (s : ByteArray) : ByteArray := (⟨#[69]⟩ : ByteArray) ++ varT i ++ varT t ++ strOfNums [c % 256] ++ s
def entO (i t c : Int) (s : ByteArray) : ByteArray × Bool := if (entB t c s && rng i 1 1000000) = true then (entT i t c s, true) else ((⟨#[]⟩ : ByteArray), false)
theorem lit69 : (⟨#[69]⟩ : ByteArray).size = 1 := rfl
theorem ent_size {i t c : Int} {s : ByteArray} : (entO i t c s).1.size ≤ 140 := by
  unfold entO
  by_cases h : (entB t c s && rng i 1 1000000) = true
  · rw [if_pos h]
    rw [Bool.and_eq_true] at h
    have h1 := (ent_iff h.1).2.2
    have h2 := varT_size i
    have h3 := varT_size t
    show (entT i t c s).size ≤ 140
    unfold entT
    simp only [ByteArray.size_append, lit69, strOfNums_size, List.length_cons, List.length_nil]
    omega
  · rw [if_neg h]
    show 0 ≤ 140
    omega
theorem spec_enttext (i t c : Int) (s : ByteArray) (hs : s.size ≤ 2000000) : Ev (fun k => spec_EntryText.f k i t c s) (entO i t c s) := by
  have hT : Ev (fun k => spec_EntryText.j0 k i true t c s) ((⟨#[]⟩ : ByteArray), false) := Ev.here (f := fun _ => some ((⟨#[]⟩ : ByteArray), false)) (fun k => by simp only [spec_EntryText.j0, if_true]) (fun _ => rfl)
  unfold spec_EntryText.f
  refine Ev.bind (spec_ent t c s hs) ?_
  unfold entO
  cases he : entB t c s with
  | false =>
    simp only [Bool.false_eq_true, if_false, Bool.false_and]
    exact hT
  | true =>
    simp only [if_true, in_eq, Option.bind_some, Bool.true_and]
    cases hr : rng i 1 1000000 with
    | false =>
      simp only [Bool.not_false, Bool.false_eq_true, if_false]
      exact hT
    | true =>
      have hi := rng_iff.1 hr
      have ht := (ent_iff he).1
      have h1 := varT_size i
      have h2 := varT_size t
      simp only [Bool.not_true, if_true]
      refine Ev.step (fun k => by simp only [spec_EntryText.j0, Bool.false_eq_true, if_false]; rfl) ?_
      refine Ev.bind (spec_var i (by omega) (by omega)) ?_
      simp only [if_pos (show 1 + (varT i).size ≤ 9223372036854775807 by omega)]
      refine Ev.bind (spec_var t (by omega) (by omega)) ?_
      simp only [if_pos (show ((⟨#[69]⟩ : ByteArray) ++ varT i).size + (varT t).size ≤ 9223372036854775807 by rw [ByteArray.size_append, lit69]; omega), Option.bind_some,
        if_pos (show ((⟨#[69]⟩ : ByteArray) ++ varT i ++ varT t).size + (strOfNums [c % 256]).size ≤ 9223372036854775807 by simp only [ByteArray.size_append, lit69, strOfNums_size, List.length_cons, List.length_nil]; omega),
        if_pos (show ((⟨#[69]⟩ : ByteArray) ++ varT i ++ varT t ++ strOfNums [c % 256]).size + s.size ≤ 9223372036854775807 by simp only [ByteArray.size_append, lit69, strOfNums_size, List.length_cons, List.length_nil]; omega)]
      exact Ev.now _
theorem impl_enttext (i t c : Int) (s : ByteArray) (hs : s.size ≤ 2000000) : Ev (fun k => impl_EntryText.f k i t c s) (entO i t c s) := by
  have hT : Ev (fun k => impl_EntryText.j0 k i true t c s) ((⟨#[]⟩ : ByteArray), false) := Ev.here (f := fun _ => some ((⟨#[]⟩ : ByteArray), false)) (fun k => by simp only [impl_EntryText.j0, if_true]) (fun _ => rfl)
  unfold impl_EntryText.f
  refine Ev.bind (impl_ent t c s hs) ?_
  unfold entO
  cases he : entB t c s with
  | false =>
    simp only [Bool.false_eq_true, if_false, Bool.false_and]
    exact hT
  | true =>
    simp only [if_true, within_eq, Option.bind_some, Bool.true_and]
    cases hr : rng i 1 1000000 with
    | false =>
      simp only [Bool.not_false, Bool.false_eq_true, if_false]
      exact hT
    | true =>
      have hi := rng_iff.1 hr
      have ht := (ent_iff he).1
      have h1 := varT_size i
      have h2 := varT_size t
      simp only [Bool.not_true, if_true]
      refine Ev.step (fun k => by simp only [impl_EntryText.j0, Bool.false_eq_true, if_false]; rfl) ?_
      refine Ev.bind (varTexts_ok [i, t] (by simp) (by simp only [List.mem_cons, List.not_mem_nil, or_false]; rintro x (rfl | rfl) <;> omega)) ?_
      simp only [catB, app_empty, if_pos (show 1 + (varT i ++ varT t).size ≤ 9223372036854775807 by rw [ByteArray.size_append]; omega)]
      refine Ev.bind ⟨2, fun k hk => bytes_ok [c] (by simp) k (by simp only [List.length_cons, List.length_nil]; omega)⟩ ?_
      simp only [List.map_cons, List.map_nil, if_pos (show ((⟨#[69]⟩ : ByteArray) ++ (varT i ++ varT t)).size + (strOfNums [c % 256]).size ≤ 9223372036854775807 by simp only [ByteArray.size_append, lit69, strOfNums_size, List.length_cons, List.length_nil]; omega),
        if_pos (show ((⟨#[69]⟩ : ByteArray) ++ (varT i ++ varT t) ++ strOfNums [c % 256]).size + s.size ≤ 9223372036854775807 by simp only [ByteArray.size_append, lit69, strOfNums_size, List.length_cons, List.length_nil]; omega)]
      have e : (⟨#[69]⟩ : ByteArray) ++ (varT i ++ varT t) ++ strOfNums [c % 256] ++ s = entT i t c s := by unfold entT; simp only [ByteArray.append_assoc]
      rw [e]
      exact Ev.now _

/-! ### encode -/
def flagT (b : Bool) : ByteArray := if b = true then (⟨#[1]⟩ : ByteArray) else (⟨#[0]⟩ : ByteArray)
theorem flagT_size (b : Bool) : (flagT b).size = 1 := by cases b <;> rfl
theorem flags_eq (a b : Bool) : strOfNums ([if a = true then (1 : Int) else 0, if b = true then (1 : Int) else 0].map (· % 256)) = flagT a ++ flagT b := by
  apply bl_inj
  rw [bl_app, bl_str (by cases a <;> cases b <;> simp)]
  cases a <;> cases b <;> rfl
def encE (e : S51) : ByteArray := shortT (entO 1 e.f0 e.f1 e.f2).1
theorem encE_size (e : S51) : (encE e).size ≤ 149 := by
  unfold encE
  have h1 := shortT_size (entO 1 e.f0 e.f1 e.f2).1
  have h2 := @ent_size 1 e.f0 e.f1 e.f2
  omega
def msgH (a0 a1 a2 a3 a4 a5 a6 : Int) (a7 b : Bool) (n : Nat) : ByteArray :=
  strOfNums [a0 % 256, a1 % 256, a2 % 256] ++ varT a3 ++ varT a4 ++ varT a5 ++ varT a6 ++ flagT a7 ++ flagT b ++ varT (n : Int)
def msgE (l : List S51) (c : List Int) (s : ByteArray) : ByteArray := catB encE l ++ (shortT (strOfNums (c.map (· % 256))) ++ shortT s)
theorem msg_iff {a0 a1 a2 a3 a4 a5 a6 : Int} {l : List S51} {c : List Int} {s : ByteArray} {b : Bool} (h : msgB a0 a1 a2 a3 a4 a5 a6 l c s b = true) :
    (0 ≤ a3 ∧ a3 ≤ 100000) ∧ (0 ≤ a5 ∧ a5 ≤ 100000) ∧ (0 ≤ a4 ∧ a4 ≤ 1000000) ∧ (0 ≤ a6 ∧ a6 ≤ 1000000) ∧ l.length ≤ 4 ∧ c.length ≤ 4 ∧ s.size ≤ 60 ∧ (confB c = true ∨ c = []) := by
  unfold msgB at h
  simp only [Bool.and_eq_true, rng_iff] at h
  obtain ⟨⟨_, _, _, _, h3, h5⟩, ⟨h4, h6⟩, hc, _, ht⟩ := h
  refine ⟨h3, h5, h4, h6, ?_, ?_⟩
  · unfold cntB at hc
    simp only [Bool.or_eq_true, Bool.and_eq_true, decide_eq_true_eq] at hc
    omega
  · unfold tailB at ht
    by_cases hk : a0 = 5
    · rw [if_pos hk, Bool.and_eq_true, decide_eq_true_eq] at ht
      have := conf_len ht.1
      exact ⟨this.2, by omega, .inl ht.1⟩
    · rw [if_neg hk, Bool.and_eq_true, Bool.and_eq_true, decide_eq_true_eq, decide_eq_true_eq] at ht
      have h0 : c = [] := List.length_eq_zero_iff.1 (by omega)
      have h2 := bytesOf_length s
      rw [toList_nil.1 ht.2.1] at h2
      simp at h2
      subst h0
      exact ⟨by simp, by omega, .inr rfl⟩
theorem spec_ct_loop (l : List Int) (hl : l.length ≤ 2000000) : ∀ (d j : Nat) (acc : List Int), l.length - j = d → j ≤ l.length → acc.length = j → ∀ k, d < k → spec_ConfText.l0 k l acc (j : Int) = some (strOfNums (acc ++ (l.drop j).map (· % 256)), true) := by
  intro d
  induction d with
  | zero =>
    intro j acc hd hj ha k hk
    obtain ⟨k, rfl⟩ : ∃ m, k = m + 1 := ⟨k - 1, by omega⟩
    simp only [spec_ConfText.l0]
    rw [if_neg (by omega), List.drop_of_length_le (by omega)]
    simp
  | succ d ih =>
    intro j acc hd hj ha k hk
    obtain ⟨k, rfl⟩ : ∃ m, k = m + 1 := ⟨k - 1, by omega⟩
    have hjl : j < l.length := by omega
    have hget : rd l (j : Int) = l[j] := by unfold rd; simp [List.getD_eq_getElem?_getD, List.getElem?_eq_getElem hjl]
    have hdrop : l.drop j = l[j] :: l.drop (j + 1) := List.drop_eq_getElem_cons hjl
    simp only [spec_ConfText.l0]
    rw [if_pos (by omega), if_pos (by omega), if_pos (by omega), hget, w64 (x := (j : Int) + 1) (by omega) (by omega), hdrop]
    have := ih (j + 1) (acc ++ [l[j] % 256]) (by omega) (by omega) (by rw [List.length_append, List.length_singleton]; omega) k (by omega)
    rw [List.append_assoc] at this
    exact this
theorem spec_conftext (c : List Int) (hl : c.length ≤ 2000000) : Ev (fun k => spec_ConfText.f k c) (if confB c = true then (strOfNums (c.map (· % 256)), true) else ((⟨#[]⟩ : ByteArray), false)) := by
  unfold spec_ConfText.f
  refine Ev.bind (spec_conf c hl) ?_
  cases confB c with
  | false => simp only [Bool.false_eq_true, if_false]; exact Ev.now _
  | true =>
    simp only [if_true]
    exact ⟨c.length + 1, fun k hk => spec_ct_loop c hl c.length 0 [] (by omega) (by omega) rfl k (by omega)⟩
theorem spec_short5 (s : ByteArray) (hs : s.size ≤ 1000000000) : Ev (fun k => spec_l05Short.f k s) (shortT s) := by
  unfold spec_l05Short.f
  refine Ev.bind (spec_var (s.size : Int) (by omega) (by omega)) ?_
  have := varT_size (s.size : Int)
  simp only [if_pos (show (varT (s.size : Int)).size + s.size ≤ 9223372036854775807 by omega)]
  exact Ev.now _
theorem ctext {c : List Int} (h : confB c = true ∨ c = []) : (if confB c = true then (strOfNums (c.map (· % 256)), true) else ((⟨#[]⟩ : ByteArray), false)).1 = strOfNums (c.map (· % 256)) := by
  rcases h with h | h
  · rw [if_pos h]
  · subst h
    rw [if_neg (by unfold confB; simp)]
    rfl
theorem spec_enc_loop (a0 a1 a2 a3 a4 a5 a6 : Int) (a7 : Bool) (l : List S51) (c : List Int) (s : ByteArray) (b : Bool) (hl : l.length ≤ 4) (hx : ∀ x ∈ l, x.f2.size ≤ 2000000) (hc : c.length ≤ 4) (hs : s.size ≤ 60) (hcc : confB c = true ∨ c = []) :
    ∀ (d j : Nat) (acc : ByteArray), l.length - j = d → j ≤ l.length → acc.size ≤ 1000 + 200 * j → Ev (fun k => spec_Encode.l0 k acc (j : Int) a0 a1 a2 a3 a4 a5 a6 a7 l c s b) (acc ++ msgE (l.drop j) c s, true) := by
  intro d
  induction d with
  | zero =>
    intro j acc hd hj ha
    rw [List.drop_of_length_le (by omega)]
    unfold msgE
    simp only [catB, empty_app]
    have h1 := shortT_size (strOfNums (c.map (· % 256)))
    have h2 := shortT_size s
    rw [strOfNums_size, List.length_map] at h1
    refine Ev.step (fun k => by simp only [spec_Encode.l0]; rw [if_neg (by omega)]) ?_
    refine Ev.bind (spec_conftext c (by omega)) ?_
    rw [ctext hcc]
    refine Ev.bind (spec_short5 _ (by rw [strOfNums_size, List.length_map]; omega)) ?_
    simp only [if_pos (show acc.size + (shortT (strOfNums (c.map (· % 256)))).size ≤ 9223372036854775807 by omega)]
    refine Ev.bind (spec_short5 s (by omega)) ?_
    simp only [if_pos (show (acc ++ shortT (strOfNums (c.map (· % 256)))).size + (shortT s).size ≤ 9223372036854775807 by rw [ByteArray.size_append]; omega)]
    rw [ByteArray.append_assoc]
    exact Ev.now _
  | succ d ih =>
    intro j acc hd hj ha
    have hjl : j < l.length := by omega
    have hget : rd_T51 l (j : Int) = l[j] := by unfold rd_T51; exact getD_at _ hjl
    have h9 := encE_size l[j]
    have h8 := @ent_size 1 l[j].f0 l[j].f1 l[j].f2
    refine Ev.step (fun k => by simp only [spec_Encode.l0]; rw [if_pos (by omega), if_pos (by omega), hget, w64 (x := (j : Int) + 1) (by omega) (by omega)]) ?_
    refine Ev.bind (spec_enttext 1 l[j].f0 l[j].f1 l[j].f2 (hx _ (List.getElem_mem hjl))) ?_
    refine Ev.bind (spec_short5 (entO 1 l[j].f0 l[j].f1 l[j].f2).1 (by omega)) ?_
    have e0 : shortT (entO 1 l[j].f0 l[j].f1 l[j].f2).1 = encE l[j] := rfl
    simp only [e0, if_pos (show acc.size + (encE l[j]).size ≤ 9223372036854775807 by omega)]
    have := ih (j + 1) (acc ++ encE l[j]) (by omega) (by omega) (by rw [ByteArray.size_append]; omega)
    rw [List.drop_eq_getElem_cons hjl]
    unfold msgE at this ⊢
    rw [catB, ByteArray.append_assoc, ← ByteArray.append_assoc]
    exact this
theorem spec_encode (a0 a1 a2 a3 a4 a5 a6 : Int) (a7 : Bool) (l : List S51) (c : List Int) (s : ByteArray) (b : Bool) (hl : l.length ≤ 2000000) (hc : c.length ≤ 2000000) (hs : ∀ x ∈ l, x.f2.size ≤ 2000000) :
    Ev (fun k => spec_Encode.f k a0 a1 a2 a3 a4 a5 a6 a7 l c s b) (if msgB a0 a1 a2 a3 a4 a5 a6 l c s b = true then (msgH a0 a1 a2 a3 a4 a5 a6 a7 b l.length ++ msgE l c s, true) else ((⟨#[]⟩ : ByteArray), false)) := by
  unfold spec_Encode.f
  refine Ev.bind (spec_msg a0 a1 a2 a3 a4 a5 a6 a7 l c s b hl hc hs) ?_
  cases hm : msgB a0 a1 a2 a3 a4 a5 a6 l c s b with
  | false => simp only [Bool.false_eq_true, if_false]; exact Ev.now _
  | true =>
    obtain ⟨h3, h5, h4, h6, h7, h8, h9, h10⟩ := msg_iff hm
    have v3 := varT_size a3
    have v4 := varT_size a4
    have v5 := varT_size a5
    have v6 := varT_size a6
    have v7 := varT_size (l.length : Int)
    have f1 := flagT_size a7
    have f2 := flagT_size b
    have hz : (strOfNums [a0 % 256, a1 % 256, a2 % 256]).size = 3 := by rw [strOfNums_size]; rfl
    have hf : ∀ x, spec_l17Flag.f x = some (flagT x) := fun x => by unfold spec_l17Flag.f flagT; cases x <;> rfl
    simp only [if_true, Option.bind_some, hf]
    refine Ev.bind (spec_var a3 (by omega) (by omega)) ?_
    simp only [if_pos (show (strOfNums [a0 % 256, a1 % 256, a2 % 256]).size + (varT a3).size ≤ 9223372036854775807 by omega)]
    refine Ev.bind (spec_var a4 (by omega) (by omega)) ?_
    simp only [if_pos (show (strOfNums [a0 % 256, a1 % 256, a2 % 256] ++ varT a3).size + (varT a4).size ≤ 9223372036854775807 by simp only [ByteArray.size_append]; omega)]
    refine Ev.bind (spec_var a5 (by omega) (by omega)) ?_
    simp only [if_pos (show (strOfNums [a0 % 256, a1 % 256, a2 % 256] ++ varT a3 ++ varT a4).size + (varT a5).size ≤ 9223372036854775807 by simp only [ByteArray.size_append]; omega)]
    refine Ev.bind (spec_var a6 (by omega) (by omega)) ?_
    simp only [if_pos (show (strOfNums [a0 % 256, a1 % 256, a2 % 256] ++ varT a3 ++ varT a4 ++ varT a5).size + (varT a6).size ≤ 9223372036854775807 by simp only [ByteArray.size_append]; omega)]
    simp only [if_pos (show (strOfNums [a0 % 256, a1 % 256, a2 % 256] ++ varT a3 ++ varT a4 ++ varT a5 ++ varT a6).size + (flagT a7).size ≤ 9223372036854775807 by simp only [ByteArray.size_append]; omega),
      if_pos (show (strOfNums [a0 % 256, a1 % 256, a2 % 256] ++ varT a3 ++ varT a4 ++ varT a5 ++ varT a6 ++ flagT a7).size + (flagT b).size ≤ 9223372036854775807 by simp only [ByteArray.size_append]; omega)]
    refine Ev.bind (spec_var (l.length : Int) (by omega) (by omega)) ?_
    simp only [if_pos (show (strOfNums [a0 % 256, a1 % 256, a2 % 256] ++ varT a3 ++ varT a4 ++ varT a5 ++ varT a6 ++ flagT a7 ++ flagT b).size + (varT (l.length : Int)).size ≤ 9223372036854775807 by simp only [ByteArray.size_append]; omega)]
    have := spec_enc_loop a0 a1 a2 a3 a4 a5 a6 a7 l c s b h7 hs h8 h9 h10 l.length 0 (msgH a0 a1 a2 a3 a4 a5 a6 a7 b l.length) (by omega) (by omega) (by unfold msgH; simp only [ByteArray.size_append]; omega)
    rw [List.drop_zero] at this
    exact this
theorem impl_enc_loop (a0 a1 a2 a3 a4 a5 a6 : Int) (a7 : Bool) (l : List S51) (c : List Int) (s : ByteArray) (b : Bool) (hl : l.length ≤ 4) (hx : ∀ x ∈ l, x.f2.size ≤ 2000000) (hc : c.length ≤ 4) (hs : s.size ≤ 60) :
    ∀ (d j : Nat) (acc : ByteArray), l.length - j = d → j ≤ l.length → acc.size ≤ 1000 + 200 * j → Ev (fun k => impl_Encode.l0 k acc l (l.length : Int) (j : Int) a0 a1 a2 a3 a4 a5 a6 a7 l c s b) (acc ++ msgE (l.drop j) c s, true) := by
  intro d
  induction d with
  | zero =>
    intro j acc hd hj ha
    rw [List.drop_of_length_le (by omega)]
    unfold msgE
    simp only [catB, empty_app]
    have h1 := shortT_size (strOfNums (c.map (· % 256)))
    have h2 := shortT_size s
    rw [strOfNums_size, List.length_map] at h1
    refine Ev.step (fun k => by simp only [impl_Encode.l0]; rw [if_neg (by omega)]) ?_
    refine Ev.bind ⟨c.length + 1, fun k hk => bytes_ok c (by omega) k (by omega)⟩ ?_
    refine Ev.bind (shortTexts_ok [strOfNums (c.map (· % 256)), s] (by simp) (by
      simp only [List.mem_cons, List.not_mem_nil, or_false]
      rintro x (rfl | rfl)
      · rw [strOfNums_size, List.length_map]; omega
      · omega)) ?_
    simp only [catB, app_empty, if_pos (show acc.size + (shortT (strOfNums (c.map (· % 256))) ++ shortT s).size ≤ 9223372036854775807 by rw [ByteArray.size_append]; omega)]
    exact Ev.now _
  | succ d ih =>
    intro j acc hd hj ha
    have hjl : j < l.length := by omega
    have hget : rd_T51 l (j : Int) = l[j] := by unfold rd_T51; exact getD_at _ hjl
    have h9 := encE_size l[j]
    have h8 := @ent_size 1 l[j].f0 l[j].f1 l[j].f2
    refine Ev.step (fun k => by simp only [impl_Encode.l0]; rw [if_pos (by omega), if_pos (by omega), if_pos (by omega), hget, w64 (x := (j : Int) + 1) (by omega) (by omega)]) ?_
    refine Ev.bind (impl_enttext 1 l[j].f0 l[j].f1 l[j].f2 (hx _ (List.getElem_mem hjl))) ?_
    refine Ev.bind (shortTexts_ok [(entO 1 l[j].f0 l[j].f1 l[j].f2).1] (by simp) (by
      simp only [List.mem_cons, List.not_mem_nil, or_false]
      rintro x rfl
      omega)) ?_
    have e0 : shortT (entO 1 l[j].f0 l[j].f1 l[j].f2).1 = encE l[j] := rfl
    simp only [catB, app_empty, e0, if_pos (show acc.size + (encE l[j]).size ≤ 9223372036854775807 by omega)]
    have := ih (j + 1) (acc ++ encE l[j]) (by omega) (by omega) (by rw [ByteArray.size_append]; omega)
    rw [List.drop_eq_getElem_cons hjl]
    unfold msgE at this ⊢
    rw [catB, ByteArray.append_assoc, ← ByteArray.append_assoc]
    exact this
theorem impl_encode (a0 a1 a2 a3 a4 a5 a6 : Int) (a7 : Bool) (l : List S51) (c : List Int) (s : ByteArray) (b : Bool) (hl : l.length ≤ 2000000) (hc : c.length ≤ 2000000) (hs : ∀ x ∈ l, x.f2.size ≤ 2000000) :
    Ev (fun k => impl_Encode.f k a0 a1 a2 a3 a4 a5 a6 a7 l c s b) (if msgB a0 a1 a2 a3 a4 a5 a6 l c s b = true then (msgH a0 a1 a2 a3 a4 a5 a6 a7 b l.length ++ msgE l c s, true) else ((⟨#[]⟩ : ByteArray), false)) := by
  unfold impl_Encode.f
  refine Ev.bind (impl_msg a0 a1 a2 a3 a4 a5 a6 a7 l c s b hl hc hs) ?_
  cases hm : msgB a0 a1 a2 a3 a4 a5 a6 l c s b with
  | false => simp only [Bool.false_eq_true, if_false]; exact Ev.now _
  | true =>
    obtain ⟨h3, h5, h4, h6, h7, h8, h9, h10⟩ := msg_iff hm
    have v3 := varT_size a3
    have v4 := varT_size a4
    have v5 := varT_size a5
    have v6 := varT_size a6
    have v7 := varT_size (l.length : Int)
    have f1 := flagT_size a7
    have f2 := flagT_size b
    have hz : (strOfNums [a0 % 256, a1 % 256, a2 % 256]).size = 3 := by rw [strOfNums_size]; rfl
    have hf : ∀ x, impl_flag.f x = some (if x = true then 1 else 0) := fun x => by unfold impl_flag.f; cases x <;> rfl
    simp only [if_true, Option.bind_some, hf]
    refine Ev.bind ⟨4, fun k hk => bytes_ok [a0, a1, a2] (by simp) k (by simp only [List.length_cons, List.length_nil]; omega)⟩ ?_
    refine Ev.bind (varTexts_ok [a3, a4, a5, a6] (by simp) (by simp only [List.mem_cons, List.not_mem_nil, or_false]; rintro x (rfl | rfl | rfl | rfl) <;> omega)) ?_
    simp only [catB, app_empty, List.map_cons, List.map_nil, if_pos (show (strOfNums [a0 % 256, a1 % 256, a2 % 256]).size + (varT a3 ++ (varT a4 ++ (varT a5 ++ varT a6))).size ≤ 9223372036854775807 by simp only [ByteArray.size_append]; omega)]
    refine Ev.bind ⟨3, fun k hk => bytes_ok [if a7 = true then (1 : Int) else 0, if b = true then (1 : Int) else 0] (by simp) k (by simp only [List.length_cons, List.length_nil]; omega)⟩ ?_
    rw [flags_eq]
    simp only [if_pos (show (strOfNums [a0 % 256, a1 % 256, a2 % 256] ++ (varT a3 ++ (varT a4 ++ (varT a5 ++ varT a6)))).size + (flagT a7 ++ flagT b).size ≤ 9223372036854775807 by simp only [ByteArray.size_append]; omega)]
    refine Ev.bind (varTexts_ok [(l.length : Int)] (by simp) (by simp only [List.mem_cons, List.not_mem_nil, or_false]; rintro x rfl; omega)) ?_
    simp only [catB, app_empty, if_pos (show (strOfNums [a0 % 256, a1 % 256, a2 % 256] ++ (varT a3 ++ (varT a4 ++ (varT a5 ++ varT a6))) ++ (flagT a7 ++ flagT b)).size + (varT (l.length : Int)).size ≤ 9223372036854775807 by simp only [ByteArray.size_append]; omega)]
    have e : strOfNums [a0 % 256, a1 % 256, a2 % 256] ++ (varT a3 ++ (varT a4 ++ (varT a5 ++ varT a6))) ++ (flagT a7 ++ flagT b) ++ varT (l.length : Int) = msgH a0 a1 a2 a3 a4 a5 a6 a7 b l.length := by
      unfold msgH
      simp only [ByteArray.append_assoc]
    rw [e]
    have := impl_enc_loop a0 a1 a2 a3 a4 a5 a6 a7 l c s b h7 hs h8 h9 l.length 0 (msgH a0 a1 a2 a3 a4 a5 a6 a7 b l.length) (by omega) (by omega) (by unfold msgH; simp only [ByteArray.size_append]; omega)
    rw [List.drop_zero] at this
    exact this

/-! ### FnExactEncode -/
theorem FnExactEncode : StFnExactEncode.Pure := by
  intro a0 a1 a2 a3 a4 a5 a6 a7 l c s b _ _ _ _ _ _ _ _ wl wc ws _
  obtain ⟨t, ht, hq⟩ := szMessage_ok a0 a1 a2 a3 a4 a5 a6 a7 l c s b wl.1 wl.2.2 wc.1 ws
  by_cases hn : t < 0
  · refine ⟨l.length + 1, ?_⟩
    unfold laws_FnExactEncode.f
    rw [ht _ (by omega)]
    simp only [Option.bind_some]
    rw [if_pos hn]
  · obtain ⟨hl, hx, hc, hs⟩ := hq.resolve_left hn
    have lm : (l.map conEntry).length = l.length := List.length_map _
    have hx' : ∀ x ∈ l.map conEntry, x.f2.size ≤ 2000000 := by
      intro x hx0
      obtain ⟨y, hy, rfl⟩ := List.mem_map.1 hx0
      have := hx y hy
      show y.f2.size ≤ 2000000
      omega
    obtain ⟨K, hK⟩ := Ev.both (spec_encode a0 a1 a2 a3 a4 a5 a6 a7 (l.map conEntry) c s b (by omega) (by omega) hx') (impl_encode a0 a1 a2 a3 a4 a5 a6 a7 (l.map conEntry) c s b (by omega) (by omega) hx')
    refine ⟨K + l.length + c.length + 3, ?_⟩
    obtain ⟨h1, h2⟩ := hK (K + l.length + c.length + 3) (by omega)
    have hto : ∀ k, l.length + c.length < k → laws_toMessage.f k a0 a1 a2 a3 a4 a5 a6 a7 l c s b = some (a0, a1, a2, a3, a4, a5, a6, a7, l.map conEntry, c, s, b) := toMessage_ok a0 a1 a2 a3 a4 a5 a6 a7 l c s b hl hc
    unfold laws_FnExactEncode.f
    rw [ht _ (by omega)]
    simp only [Option.bind_some]
    rw [if_neg hn, hto _ (by omega)]
    simp only [Option.bind_some, h1, h2, bne_self_eq_false, if_true, laws_FnExactEncode.j0, Bool.false_eq_true, if_false]
    rw [hto _ (by omega)]
    simp only [Option.bind_some]
    rw [eqMessage_ok _ _ _ _ _ _ _ _ _ _ _ _ (by omega) (by omega) _ (by omega)]
    simp

end Go.Proofs.Ythgjcijcmacpmaa.Pure
