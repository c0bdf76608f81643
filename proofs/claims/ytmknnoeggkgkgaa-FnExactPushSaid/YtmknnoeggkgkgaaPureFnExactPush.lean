/- The pure statement of the law 'FnExactPush', proved: over numbers, lists and texts alone. No condition. -/
import Derived.Test.YtmknnoeggkgkgaaStFnExactPush
import Derived.Laws.BitsLemmas
namespace Go.Proofs.Ytmknnoeggkgkgaa.Pure
open Go.RowKit Go.Proofs.Ytmknnoeggkgkgaa.QFnExactPush Go.Proofs.YtmknnoeggkgkgaaW.PrintWords Go.Proofs.YtmknnoeggkgkgaaW.PrintLast Go.Proofs.YtmknnoeggkgkgaaW.PrintMore Go.Proofs.Ytmknnoeggkgkgaa.StFnExactPush Go.Proofs.Ytmknnoeggkgkgaa.Opens
set_option linter.unusedVariables false
set_option linter.unusedSimpArgs false

/-! ### base -/
theorem w64 {x : Int} (h0 : -9223372036854775808 ≤ x) (h1 : x ≤ 9223372036854775807) : wrap64 x = x := by unfold wrap64; omega
theorem w64_range (x : Int) : -9223372036854775808 ≤ wrap64 x ∧ wrap64 x ≤ 9223372036854775807 := by unfold wrap64; omega
theorem ip {α : Type} {c : Prop} [Decidable c] {a b : α} (h : c) : (if c then a else b) = a := if_pos h
theorem ineg {α : Type} {c : Prop} [Decidable c] {a b : α} (h : ¬ c) : (if c then a else b) = b := if_neg h
theorem wf_range {n : Int} (h : (Lit.int .i64 n).wf = true) : -9223372036854775808 ≤ n ∧ n ≤ 9223372036854775807 := by
  simp only [Lit.wf, IntKind.min, IntKind.max, IntKind.signed, IntKind.bits, Bool.and_eq_true, decide_eq_true_eq, if_true] at h
  omega
theorem wf_u8 {n : Int} (h : (Lit.int .u8 n).wf = true) : 0 ≤ n ∧ n ≤ 255 := by
  simp [Lit.wf, IntKind.min, IntKind.max, IntKind.signed, IntKind.bits] at h
  omega
theorem and_low (x : Int) (i : Nat) (hi : i ≤ 62) : Go.bits .and .i64 x (2 ^ i - 1) = x % 2 ^ i := by
  have hpos : 0 < 2 ^ i := Nat.two_pow_pos i
  have hc : ((2 : Int) ^ i - 1) = ((2 ^ i - 1 : Nat) : Int) := by rw [Int.natCast_sub hpos]; simp
  have h62 : 2 ^ i ≤ 2 ^ 62 := Nat.pow_le_pow_right (by decide) hi
  have hlt : 2 ^ i - 1 < 2 ^ 64 := by omega
  have hd : (2 ^ i : Nat) ∣ 2 ^ 64 := Nat.pow_dvd_pow 2 (by omega)
  rw [hc]
  simp only [Go.bits, BitVec.ofInt_natCast, BitVec.toNat_and, BitVec.toNat_ofNat, BitVec.toNat_ofInt]
  simp only [show IntKind.i64.bits = 64 from rfl]
  rw [Nat.mod_eq_of_lt hlt, Nat.and_two_pow_sub_one_eq_mod]
  have h1 : (((x % ((2 ^ 64 : Nat) : Int)).toNat % 2 ^ i : Nat) : Int) = x % 2 ^ i := by
    rw [Int.natCast_emod, Int.toNat_of_nonneg (Int.emod_nonneg _ (by decide))]
    rw [Int.natCast_pow]
    exact Int.emod_emod_of_dvd _ (by
      have : (((2 ^ i : Nat) : Int)) ∣ ((2 ^ 64 : Nat) : Int) := Int.natCast_dvd_natCast.2 hd
      simpa using this)
  rw [h1]
  have h2 : 0 ≤ x % 2 ^ i := Int.emod_nonneg _ (by
    have : (0 : Int) < 2 ^ i := by exact_mod_cast hpos
    omega)
  have h3 : x % 2 ^ i < 2 ^ i := Int.emod_lt_of_pos _ (by exact_mod_cast hpos)
  have h4 : (2 : Int) ^ i ≤ 2 ^ 62 := by exact_mod_cast h62
  rw [IntKind.wrap_i64]
  omega
theorem and255 (x : Int) : Go.bits .and .i64 x 255 = x % 256 := and_low x 8 (by omega)
theorem and65535 (x : Int) : Go.bits .and .i64 x 65535 = x % 65536 := and_low x 16 (by omega)
theorem and30 (x : Int) : Go.bits .and .i64 x 1073741823 = x % 1073741824 := and_low x 30 (by omega)
theorem and1 (x : Int) : Go.bits .and .i64 x 1 = x % 2 := and_low x 1 (by omega)
/-- A law's last step: both are one. -/
theorem same_end {v : Bool} : (if (v != v) = true then some false else some true : Option Bool) = some true := by simp
theorem Ev.ex {α : Type} {g : Nat → Option α} {r : α} (h : Ev g r) : ∃ k, g k = some r := h.rounds
theorem Ev.from_ {α : Type} {g : Nat → Option α} {r : α} (K : Nat) (h : ∀ k, K ≤ k → g k = some r) : Ev g r := ⟨K, h⟩
theorem Ev.both {α β : Type} {g : Nat → Option α} {f : Nat → Option β} {r : α} {q : β} (h : Ev g r) (h' : Ev f q) : ∃ K, ∀ k, K ≤ k → g k = some r ∧ f k = some q := by
  obtain ⟨K, h⟩ := h
  obtain ⟨K', h'⟩ := h'
  exact ⟨K + K', fun k hk => ⟨h k (by omega), h' k (by omega)⟩⟩

/-! ### in -/
def rng (a b c : Int) : Bool := decide (b ≤ a) && decide (a ≤ c)
theorem rng_iff {a b c : Int} : rng a b c = true ↔ b ≤ a ∧ a ≤ c := by simp [rng]
theorem rng_false {a b c : Int} : rng a b c = false ↔ ¬ (b ≤ a ∧ a ≤ c) := by rw [← rng_iff]; simp
theorem in_eq (a b c : Int) : spec_l01In.f a b c = some (rng a b c) := by
  unfold spec_l01In.f rng
  by_cases h : b ≤ a
  · rw [if_pos h]; simp [h]
  · rw [if_neg h]; simp [h]
theorem within_eq (a b c : Int) : impl_within.f a b c = some (rng a b c) := by
  unfold impl_within.f rng
  by_cases h : b ≤ a
  · rw [if_pos h]; simp [h]
  · rw [if_neg h]; simp [h]

/-! ### loops -/
/-- A loop upward whose rounds do nothing but go on. -/
theorem up_loop {β : Type} {F : Nat → Int → Option β} {n : Nat} {r : β} (hs : ∀ k (j : Nat), j < n → F (k + 1) (j : Int) = F k ((j + 1 : Nat) : Int)) (he : ∀ k, F (k + 1) (n : Int) = some r) :
    ∀ (d j : Nat), n - j = d → j ≤ n → ∀ k, d < k → F k (j : Int) = some r := by
  intro d
  induction d with
  | zero =>
    intro j hd hj k hk
    obtain ⟨k, rfl⟩ : ∃ m, k = m + 1 := ⟨k - 1, by omega⟩
    obtain rfl : j = n := by omega
    exact he k
  | succ d ih =>
    intro j hd hj k hk
    obtain ⟨k, rfl⟩ : ∃ m, k = m + 1 := ⟨k - 1, by omega⟩
    rw [hs k j (by omega)]
    exact ih (j + 1) (by omega) (by omega) k (by omega)
/-- A loop that turns each element of a list into one of a list that was made. -/
theorem map_loop {α β : Type} {F : Nat → List β → Int → Option (List β)} {g : α → β} {l : List α}
    (hs : ∀ k (acc : List β) (j : Nat) (hj : j < l.length), acc.length = l.length → F (k + 1) acc (j : Int) = F k (acc.set j (g l[j])) ((j + 1 : Nat) : Int))
    (he : ∀ k (acc : List β), F (k + 1) acc (l.length : Int) = some acc) :
    ∀ (d j : Nat) (acc : List β), l.length - j = d → j ≤ l.length → acc.length = l.length → (∀ i, i < j → acc[i]? = (l[i]?).map g) → ∀ k, d < k → F k acc (j : Int) = some (l.map g) := by
  intro d
  induction d with
  | zero =>
    intro j acc hd hj hl ha k hk
    obtain ⟨k, rfl⟩ : ∃ m, k = m + 1 := ⟨k - 1, by omega⟩
    obtain rfl : j = l.length := by omega
    rw [he]
    congr 1
    apply List.ext_getElem?
    intro i
    rw [List.getElem?_map]
    by_cases hi : i < l.length
    · exact ha i hi
    · rw [List.getElem?_eq_none (by omega), List.getElem?_eq_none (by omega)]; rfl
  | succ d ih =>
    intro j acc hd hj hl ha k hk
    obtain ⟨k, rfl⟩ : ∃ m, k = m + 1 := ⟨k - 1, by omega⟩
    have hjl : j < l.length := by omega
    rw [hs k acc j hjl hl]
    refine ih (j + 1) _ (by omega) (by omega) (by rw [List.length_set]; exact hl) (fun i hi => ?_) k (by omega)
    by_cases hij : i = j
    · subst hij
      rw [List.getElem?_set_self (by omega), List.getElem?_eq_getElem hjl]
      rfl
    · rw [List.getElem?_set_ne (fun h => hij h.symm)]
      exact ha i (by omega)
theorem getD_at {α : Type} {l : List α} {j : Nat} (z : α) (h : j < l.length) : l.getD (j : Int).toNat z = l[j] := by
  simp [List.getD_eq_getElem?_getD, List.getElem?_eq_getElem h]

/-! ### streamok -/
def lateB (l : List S143) : Bool := l.all (fun x => rng x.f0 0 65535 && rng (x.f1.size : Int) 1 8)
def midB (wait : ByteArray) (sent fin : Int) (inn : ByteArray) (n : Nat) (due times : Int) : Bool :=
  (!decide (fin = 2) || decide (sent = (wait.size : Int))) && (!decide (fin = 3) || decide (wait.toList = [])) && decide (inn.size ≤ 1000) && decide (n ≤ 8) && rng due 0 1000000000 && rng times 0 12
def hdrB (st iss una rcv : Int) (wait : ByteArray) (sent fin : Int) : Bool :=
  rng st 0 4 && rng iss 0 65535 && rng una 0 65535 && rng rcv 0 65535 && decide (wait.size ≤ 200) && rng sent 0 (min (wait.size : Int) 24) && rng fin 0 3
def streamB (st iss una rcv : Int) (wait : ByteArray) (sent fin : Int) (pf : Bool) (inn : ByteArray) (late : List S143) (owe : Bool) (due times : Int) : Bool :=
  hdrB st iss una rcv wait sent fin && midB wait sent fin inn late.length due times && lateB late
theorem spec_late_ok (st iss una rcv : Int) (wait : ByteArray) (sent fin : Int) (pf : Bool) (inn : ByteArray) (late : List S143) (owe : Bool) (due times : Int) (hl : late.length ≤ 2000000) :
    ∀ (d j : Nat), late.length - j = d → j ≤ late.length → ∀ k, d < k → spec_StreamOk.l0 k (j : Int) st iss una rcv wait sent fin pf inn late owe due times = some (lateB (late.drop j)) := by
  intro d
  induction d with
  | zero =>
    intro j hd hj k hk
    obtain ⟨k, rfl⟩ : ∃ m, k = m + 1 := ⟨k - 1, by omega⟩
    simp only [spec_StreamOk.l0]
    rw [if_neg (by omega), List.drop_of_length_le (by omega)]
    rfl
  | succ d ih =>
    intro j hd hj k hk
    obtain ⟨k, rfl⟩ : ∃ m, k = m + 1 := ⟨k - 1, by omega⟩
    have hjl : j < late.length := by omega
    have hget : rd_T143 late (j : Int) = late[j] := by unfold rd_T143; exact getD_at _ hjl
    have hdrop : late.drop j = late[j] :: late.drop (j + 1) := List.drop_eq_getElem_cons hjl
    have ih := ih (j + 1) (by omega) (by omega) k (by omega)
    simp only [spec_StreamOk.l0, in_eq, Option.bind_some]
    rw [if_pos (by omega), if_pos (by omega), hget, w64 (x := (j : Int) + 1) (by omega) (by omega), hdrop]
    rw [show ((j : Int) + 1) = ((j + 1 : Nat) : Int) from rfl, ih]
    unfold lateB
    rw [List.all_cons]
    cases rng late[j].f0 0 65535 <;> cases rng (late[j].f1.size : Int) 1 8 <;> simp
theorem spec_mid_ok (st iss una rcv : Int) (wait : ByteArray) (sent fin : Int) (pf : Bool) (inn : ByteArray) (late : List S143) (owe : Bool) (due times : Int) (k : Nat) :
    spec_StreamOk.j0 (k + 1) false st iss una rcv wait sent fin pf inn late owe due times = spec_StreamOk.j1 k (!midB wait sent fin inn late.length due times) st iss una rcv wait sent fin pf inn late owe due times := by
  simp only [spec_StreamOk.j0, in_eq, Option.bind_some]
  unfold midB
  have h1 : ((inn.size : Int) > 1000) ↔ ¬ (inn.size ≤ 1000) := by omega
  have h2 : ((late.length : Int) > 8) ↔ ¬ (late.length ≤ 8) := by omega
  by_cases a1 : fin = 2 <;> by_cases a2 : fin = 3 <;> by_cases a3 : sent = (wait.size : Int) <;> by_cases a4 : wait.toList = [] <;> by_cases a5 : inn.size ≤ 1000 <;> by_cases a6 : late.length ≤ 8 <;>
    first
    | (exfalso; omega)
    | (cases rng due 0 1000000000 <;> simp [a1, a2, a3, a4, a5, a6, h1, h2])
theorem spec_streamOk_eq (st iss una rcv : Int) (wait : ByteArray) (sent fin : Int) (pf : Bool) (inn : ByteArray) (late : List S143) (owe : Bool) (due times : Int) (hl : late.length ≤ 2000000) :
    ∀ k, late.length + 3 < k → spec_StreamOk.f k st iss una rcv wait sent fin pf inn late owe due times = some (streamB st iss una rcv wait sent fin pf inn late owe due times) := by
  intro k hk
  obtain ⟨k, rfl⟩ : ∃ m, k = m + 2 := ⟨k - 2, by omega⟩
  have hT : ∀ m, 0 < m → spec_StreamOk.j0 m true st iss una rcv wait sent fin pf inn late owe due times = some false := by
    intro m hm
    obtain ⟨m, rfl⟩ : ∃ q, m = q + 1 := ⟨m - 1, by omega⟩
    simp [spec_StreamOk.j0]
  have hF : spec_StreamOk.j0 (k + 2) false st iss una rcv wait sent fin pf inn late owe due times = some (midB wait sent fin inn late.length due times && lateB late) := by
    rw [spec_mid_ok]
    simp only [spec_StreamOk.j1]
    cases midB wait sent fin inn late.length due times
    · simp
    · have := spec_late_ok st iss una rcv wait sent fin pf inn late owe due times hl late.length 0 (by omega) (by omega) k (by omega)
      rw [List.drop_zero] at this
      rw [show ((0 : Nat) : Int) = 0 from rfl] at this
      simp [this]
  have hm : spec_l13Less.f (wait.size : Int) 24 = some (min (wait.size : Int) 24) := by
    unfold spec_l13Less.f
    by_cases h : (wait.size : Int) < 24
    · rw [if_pos h]; congr 1; omega
    · rw [if_neg h]; congr 1; omega
  unfold spec_StreamOk.f streamB hdrB
  simp only [in_eq, Option.bind_some, hm, hT (k + 2) (by omega)]
  have h1 : ((wait.size : Int) > 200) ↔ ¬ (wait.size ≤ 200) := by omega
  cases rng st 0 4 <;> cases rng iss 0 65535 <;> cases rng una 0 65535 <;> cases rng rcv 0 65535 <;> by_cases h : wait.size ≤ 200 <;> simp only [if_true, if_false, Bool.false_eq_true, Bool.false_and, Bool.true_and, h1, h, not_true, not_false_iff, decide_true, decide_false, Bool.and_false, Bool.and_true]
  cases rng sent 0 (min (wait.size : Int) 24) <;> cases rng fin 0 3 <;> simp [hF, hT (k + 2) (by omega)]
theorem impl_mid_ok (st iss una rcv : Int) (wait : ByteArray) (sent fin : Int) (pf : Bool) (inn : ByteArray) (late : List S143) (owe : Bool) (due times : Int) (k : Nat) :
    impl_StreamOk.j1 (k + 1) false st iss una rcv wait sent fin pf inn late owe due times = some (rng fin 0 3 && rng sent 0 (min (wait.size : Int) 24) && midB wait sent fin inn late.length due times) := by
  have hmn : mn (wait.size : Int) 24 = min (wait.size : Int) 24 := by unfold mn; split <;> omega
  simp only [impl_StreamOk.j1, within_eq, Option.bind_some, hmn]
  unfold midB
  have h1 : ((inn.size : Int) ≤ 1000) ↔ (inn.size ≤ 1000) := by omega
  have h2 : ((late.length : Int) ≤ 8) ↔ (late.length ≤ 8) := by omega
  cases rng fin 0 3
  · simp
  cases rng sent 0 (min (wait.size : Int) 24)
  · by_cases a1 : fin = 2 <;> by_cases a2 : fin = 3 <;> by_cases a3 : sent = (wait.size : Int) <;> by_cases a5 : inn.size ≤ 1000 <;> simp [a1, a2, a3, a5, h1]
  by_cases a1 : fin = 2 <;> by_cases a2 : fin = 3 <;> by_cases a3 : sent = (wait.size : Int) <;> by_cases a4 : wait.toList = [] <;> by_cases a5 : inn.size ≤ 1000 <;> by_cases a6 : late.length ≤ 8 <;>
    first
    | (exfalso; omega)
    | (cases rng due 0 1000000000 <;> simp [a1, a2, a3, a4, a5, a6, h1, h2])
theorem impl_end_ok (st iss una rcv : Int) (wait : ByteArray) (sent fin : Int) (pf : Bool) (inn : ByteArray) (late : List S143) (owe : Bool) (due times : Int) (k : Nat) :
    ((impl_within.f st 0 4).bind fun t148 => (if t148 = true then ((impl_isWord.f iss).bind fun t149 => (if t149 = true then ((impl_isWord.f una).bind fun t150 => (if t150 = true then ((impl_isWord.f rcv).bind fun t151 => (if t151 = true then (impl_StreamOk.j1 (k + 1) (decide ((wait.size : Int) > 200)) st iss una rcv wait sent fin pf inn late owe due times) else (impl_StreamOk.j1 (k + 1) true st iss una rcv wait sent fin pf inn late owe due times))) else (impl_StreamOk.j1 (k + 1) true st iss una rcv wait sent fin pf inn late owe due times))) else (impl_StreamOk.j1 (k + 1) true st iss una rcv wait sent fin pf inn late owe due times))) else (impl_StreamOk.j1 (k + 1) true st iss una rcv wait sent fin pf inn late owe due times))) =
    some (hdrB st iss una rcv wait sent fin && midB wait sent fin inn late.length due times) := by
  have hT : impl_StreamOk.j1 (k + 1) true st iss una rcv wait sent fin pf inn late owe due times = some false := by simp [impl_StreamOk.j1]
  have h1 : ((wait.size : Int) > 200) ↔ ¬ (wait.size ≤ 200) := by omega
  unfold hdrB impl_isWord.f
  simp only [within_eq, Option.bind_some, hT]
  cases rng st 0 4
  · simp
  cases rng iss 0 65535
  · simp
  cases rng una 0 65535
  · simp
  cases rng rcv 0 65535
  · simp
  by_cases h : wait.size ≤ 200
  · simp only [h1, h, not_true, decide_false, impl_mid_ok, if_true]
    cases rng fin 0 3 <;> cases rng sent 0 (min (wait.size : Int) 24) <;> simp
  · simp [h1, h, hT]
theorem impl_streamOk_loop (st iss una rcv : Int) (wait : ByteArray) (sent fin : Int) (pf : Bool) (inn : ByteArray) (late : List S143) (owe : Bool) (due times : Int) (hl : late.length ≤ 2000000) :
    ∀ (d j : Nat), late.length - j = d → j ≤ late.length → ∀ k, d + 2 < k → impl_StreamOk.l0 k late (late.length : Int) (j : Int) st iss una rcv wait sent fin pf inn late owe due times = some (lateB (late.drop j) && (hdrB st iss una rcv wait sent fin && midB wait sent fin inn late.length due times)) := by
  intro d
  induction d with
  | zero =>
    intro j hd hj k hk
    obtain ⟨k, rfl⟩ : ∃ m, k = m + 2 := ⟨k - 2, by omega⟩
    simp only [impl_StreamOk.l0]
    rw [if_neg (by omega), List.drop_of_length_le (by omega), impl_end_ok]
    rfl
  | succ d ih =>
    intro j hd hj k hk
    obtain ⟨k, rfl⟩ : ∃ m, k = m + 1 := ⟨k - 1, by omega⟩
    have hjl : j < late.length := by omega
    have hget : rd_T143 late (j : Int) = late[j] := by unfold rd_T143; exact getD_at _ hjl
    have hdrop : late.drop j = late[j] :: late.drop (j + 1) := List.drop_eq_getElem_cons hjl
    have ih := ih (j + 1) (by omega) (by omega) k (by omega)
    simp only [impl_StreamOk.l0, impl_isWord.f, within_eq, Option.bind_some]
    rw [if_pos (by omega), if_pos (by omega), if_pos (by omega), hget, w64 (x := (j : Int) + 1) (by omega) (by omega), hdrop]
    rw [show ((j : Int) + 1) = ((j + 1 : Nat) : Int) from rfl, ih]
    unfold lateB
    rw [List.all_cons]
    cases rng late[j].f0 0 65535 <;> cases rng (late[j].f1.size : Int) 1 8 <;> simp
theorem impl_streamOk_eq (st iss una rcv : Int) (wait : ByteArray) (sent fin : Int) (pf : Bool) (inn : ByteArray) (late : List S143) (owe : Bool) (due times : Int) (hl : late.length ≤ 2000000) :
    ∀ k, late.length + 3 < k → impl_StreamOk.f k st iss una rcv wait sent fin pf inn late owe due times = some (streamB st iss una rcv wait sent fin pf inn late owe due times) := by
  intro k hk
  unfold impl_StreamOk.f
  have := impl_streamOk_loop st iss una rcv wait sent fin pf inn late owe due times hl late.length 0 (by omega) (by omega) k (by omega)
  rw [List.drop_zero] at this
  rw [show ((0 : Nat) : Int) = 0 from rfl] at this
  rw [this]
  unfold streamB
  rw [Bool.and_comm]

/-! ### sz -/
theorem sz_loop {α : Type} {F : Nat → Int → Int → Option Int} {g : α → Int → Option Int} {l : List α} {P : α → Prop}
    (hs : ∀ k (left : Int) (j : Nat) (hj : j < l.length), l.length ≤ 2000000 → F (k + 1) left (j : Int) = (g l[j] left).bind fun t => if t < 0 then some (-1) else F k t ((j + 1 : Nat) : Int))
    (he : ∀ k (left : Int), F (k + 1) left (l.length : Int) = some left)
    (hg : ∀ x ∈ l, ∀ left : Int, 0 ≤ left → left ≤ 1048576 → ∃ t, g x left = some t ∧ (t < 0 ∨ (0 ≤ t ∧ t ≤ left ∧ P x))) (hl : l.length ≤ 2000000) :
    ∀ (d j : Nat) (left : Int), l.length - j = d → j ≤ l.length → 0 ≤ left → left ≤ 1048576 → ∃ t, (∀ k, d < k → F k left (j : Int) = some t) ∧ (t < 0 ∨ (0 ≤ t ∧ t ≤ left ∧ ∀ i (hi : i < l.length), j ≤ i → P l[i])) := by
  intro d
  induction d with
  | zero =>
    intro j left hd hj h0 h1
    obtain rfl : j = l.length := by omega
    refine ⟨left, fun k hk => ?_, .inr ⟨h0, Int.le_refl _, fun i hi h => absurd hi (by omega)⟩⟩
    obtain ⟨k, rfl⟩ : ∃ m, k = m + 1 := ⟨k - 1, by omega⟩
    exact he k left
  | succ d ih =>
    intro j left hd hj h0 h1
    have hjl : j < l.length := by omega
    obtain ⟨t, ht, hc⟩ := hg l[j] (List.getElem_mem _) left h0 h1
    rcases hc with hc | ⟨h2, h3, hP⟩
    · refine ⟨-1, fun k hk => ?_, .inl (by omega)⟩
      obtain ⟨k, rfl⟩ : ∃ m, k = m + 1 := ⟨k - 1, by omega⟩
      rw [hs k left j hjl hl, ht]
      simp only [Option.bind_some]
      rw [if_pos hc]
    · obtain ⟨t2, ih1, ih2⟩ := ih (j + 1) t (by omega) (by omega) h2 (by omega)
      refine ⟨t2, fun k hk => ?_, ?_⟩
      · obtain ⟨k, rfl⟩ : ∃ m, k = m + 1 := ⟨k - 1, by omega⟩
        rw [hs k left j hjl hl, ht]
        simp only [Option.bind_some]
        rw [if_neg (by omega)]
        exact ih1 k (by omega)
      · rcases ih2 with h4 | ⟨h4, h5, h6⟩
        · exact .inl h4
        · refine .inr ⟨h4, by omega, fun i hi hji => ?_⟩
          by_cases hij : i = j
          · subst hij; exact hP
          · exact h6 i hi (by omega)

/-! ### c_Late -/
def conLate (x : S152) : S143 := ⟨x.f0, x.f1⟩
theorem toLateS_ok (l : List S152) (hl : l.length ≤ 1048576) : ∀ k, l.length < k → laws_toLateS.f k l = some (l.map conLate) := by
  intro k hk
  unfold laws_toLateS.f
  rw [if_pos (by omega), if_pos (by omega)]
  refine map_loop (F := fun k acc j => laws_toLateS.l0 k l acc j) ?_ ?_ l.length 0 _ (by omega) (by omega) (by simp) (fun i hi => absurd hi (by omega)) k hk
  · intro k acc j hj ha
    simp only [laws_toLateS.l0, laws_toLate.f, Option.bind_some]
    rw [if_pos (by omega), if_pos (by omega), if_pos (by omega), w64 (by omega) (by omega)]
    unfold rd_T152
    rw [getD_at _ hj]
    rfl
  · intro k acc
    simp only [laws_toLateS.l0]
    rw [if_neg (by omega)]
theorem szLateS_ok (l : List S152) (hl : l.length ≤ maxLen) (hw : ∀ x ∈ l, wf152 x) (left : Int) (h0 : 0 ≤ left) (h1 : left ≤ 1048576) :
    ∃ t, (∀ k, l.length < k → laws_szLateS.f k l left = some t) ∧ (t < 0 ∨ (0 ≤ t ∧ t ≤ left ∧ l.length ≤ 1048576 ∧ ∀ x ∈ l, x.f1.size ≤ 1048576)) := by
  simp only [maxLen] at hl
  unfold laws_szLateS.f
  rw [w64 (by omega) (by omega)]
  by_cases hc : left - (l.length : Int) < 0
  · exact ⟨-1, fun k _ => by rw [if_pos hc], .inl (by omega)⟩
  · simp only [if_neg hc]
    have hgg : ∀ x ∈ l, ∀ left : Int, 0 ≤ left → left ≤ 1048576 → ∃ t, laws_szLate.f x.f0 x.f1 left = some t ∧ (t < 0 ∨ (0 ≤ t ∧ t ≤ left ∧ x.f1.size ≤ 1048576)) := by
      intro x hx left h0 h1
      have hw := hw x hx
      have h1 : x.f1.size ≤ 140737488351232 := hw.2
      unfold laws_szLate.f
      rw [w64 (by omega) (by omega)]
      by_cases hc : left - (x.f1.size : Int) < 0
      · rw [if_pos hc]; exact ⟨-1, rfl, .inl (by omega)⟩
      · rw [if_neg hc]; exact ⟨_, rfl, .inr ⟨by omega, by omega, by omega⟩⟩
    obtain ⟨t, ht, hr⟩ := sz_loop (F := fun k left j => laws_szLateS.l0 k l left j) (g := fun x left => laws_szLate.f x.f0 x.f1 left) (P := fun x : S152 => x.f1.size ≤ 1048576) (l := l) (fun k left j hj hl => by
      simp only [laws_szLateS.l0]
      rw [if_pos (by omega), if_pos (by omega), w64 (x := (j : Int) + 1) (by omega) (by omega)]
      unfold rd_T152
      rw [getD_at _ hj]
      rfl) (fun k left => by simp only [laws_szLateS.l0]; rw [if_neg (by omega)]) hgg (by omega) l.length 0 (left - (l.length : Int)) (by omega) (by omega) (by omega) (by omega)
    · refine ⟨t, ht, ?_⟩
      rcases hr with hr | ⟨h2, h3, h4⟩
      · exact .inl hr
      · refine .inr ⟨h2, by omega, by omega, fun x hx => ?_⟩
        obtain ⟨i, hi, rfl⟩ := List.mem_iff_getElem.1 hx
        exact h4 i hi (by omega)

/-! ### mark -/
theorem mt_loop : ∀ (d : Nat) (x : Int) (s : ByteArray), 0 ≤ x → x < 10 ^ d → x ≤ 9223372036854775807 → s.size + d ≤ 1000 → ∃ t, ∀ k, d < k → laws_markText.l0 k x s = some t := by
  intro d
  induction d with
  | zero =>
    intro x s h0 h1 h2 hs
    refine ⟨(⟨#[109]⟩ : ByteArray) ++ s, fun k hk => ?_⟩
    obtain ⟨k, rfl⟩ : ∃ m, k = m + 1 := ⟨k - 1, by omega⟩
    simp only [laws_markText.l0]
    rw [if_neg (by omega), if_pos (by omega)]
  | succ d ih =>
    intro x s h0 h1 h2 hs
    by_cases hx : x > 0
    · have h10 : x / 10 < 10 ^ d := by
        have : (10 : Int) ^ (d + 1) = 10 ^ d * 10 := Int.pow_succ 10 d
        omega
      obtain ⟨t, ih⟩ := ih (x / 10) (strOfNums [(48 + x % 10) % 256] ++ s) (by omega) h10 (by omega) (by rw [ByteArray.size_append, strOfNums_size]; simp only [List.length_cons, List.length_nil]; omega)
      refine ⟨t, fun k hk => ?_⟩
      obtain ⟨k, rfl⟩ : ∃ m, k = m + 1 := ⟨k - 1, by omega⟩
      simp only [laws_markText.l0]
      rw [if_pos hx, Int.tmod_eq_emod_of_nonneg h0, Int.tdiv_eq_ediv_of_nonneg h0, w64 (x := 48 + x % 10) (by omega) (by omega)]
      simp only [Option.bind_some]
      rw [if_pos (by rw [strOfNums_size]; simp only [List.length_cons, List.length_nil]; omega)]
      rw [w64 (by omega) (by omega)]
      exact ih k (by omega)
    · refine ⟨(⟨#[109]⟩ : ByteArray) ++ s, fun k hk => ?_⟩
      obtain ⟨k, rfl⟩ : ∃ m, k = m + 1 := ⟨k - 1, by omega⟩
      simp only [laws_markText.l0]
      rw [if_neg hx, if_pos (by omega)]
theorem markText_ok (n : Int) (h0 : 0 ≤ n) (h1 : n < 1000000000000000) : ∃ t, ∀ k, 20 ≤ k → laws_markText.f k n = some t := by
  by_cases hn : n ≤ 0
  · exact ⟨_, fun k _ => by unfold laws_markText.f; rw [if_pos hn]⟩
  · obtain ⟨t, ht⟩ := mt_loop 15 n ⟨#[]⟩ h0 (by omega) (by omega) (by decide)
    exact ⟨t, fun k hk => by unfold laws_markText.f; rw [if_neg hn]; exact ht k (by omega)⟩
def mt (n : Int) : ByteArray := (laws_markText.f 20 n).getD ⟨#[]⟩
theorem markText_eq {k : Nat} {n : Int} (hk : 20 ≤ k) (h0 : 0 ≤ n) (h1 : n < 1000000000000000) : laws_markText.f k n = some (mt n) := by
  obtain ⟨t, ht⟩ := markText_ok n h0 h1
  unfold mt
  rw [ht k hk, ht 20 (by omega)]
  rfl
theorem mark_loop {α : Type} {F : Nat → List α → Int → Int → Option (Int × List α)} {G : Int → α} {w : Nat}
    (hs : ∀ k (l : List α) (c : Int) (j : Nat), j < l.length → l.length ≤ 2000000 → 20 ≤ k → 0 ≤ c → c ≤ 100000000000000 → F (k + 1) l c (j : Int) = F k (l.set j (G c)) (c + w) ((j + 1 : Nat) : Int))
    (he : ∀ k (l : List α) (c : Int), F (k + 1) l c (l.length : Int) = some (c, l)) :
    ∀ (d j : Nat) (l : List α) (c : Int), l.length - j = d → j ≤ l.length → l.length ≤ 2000000 → 0 ≤ c → c + w * d ≤ 100000000000000 →
    ∃ l' : List α, l'.length = l.length ∧ (∀ i, i < j → l'[i]? = l[i]?) ∧ (∀ i, j ≤ i → i < l.length → l'[i]? = some (G (c + w * ((i - j : Nat) : Int)))) ∧ ∀ k, d + 20 < k → F k l c (j : Int) = some (c + w * d, l') := by
  intro d
  induction d with
  | zero =>
    intro j l c hd hj hl h0 h1
    obtain rfl : j = l.length := by omega
    refine ⟨l, rfl, fun _ _ => rfl, fun i h2 h3 => by omega, fun k hk => ?_⟩
    obtain ⟨k, rfl⟩ : ∃ m, k = m + 1 := ⟨k - 1, by omega⟩
    rw [he]
    simp
  | succ d ih =>
    intro j l c hd hj hl h0 h1
    have hmul : (w : Int) * ((d + 1 : Nat) : Int) = w + w * d := by rw [Int.natCast_succ, Int.mul_add, Int.mul_one, Int.add_comm]
    have hwd : 0 ≤ (w : Int) * (d : Int) := Int.mul_nonneg (by omega) (by omega)
    obtain ⟨l', hl', h2, h3, h4⟩ := ih (j + 1) (l.set j (G c)) (c + w) (by rw [List.length_set]; omega) (by rw [List.length_set]; omega) (by rw [List.length_set]; exact hl) (by omega) (by omega)
    rw [List.length_set] at hl' h3
    refine ⟨l', hl', fun i hi => ?_, fun i hi1 hi2 => ?_, fun k hk => ?_⟩
    · rw [h2 i (by omega), List.getElem?_set_ne (by omega)]
    · by_cases hij : i = j
      · subst hij
        rw [h2 i (by omega), List.getElem?_set_self (by omega)]
        simp
      · rw [h3 i (by omega) hi2]
        congr 2
        have : ((i - j : Nat) : Int) = ((i - (j + 1) : Nat) : Int) + 1 := by omega
        rw [this, Int.mul_add, Int.mul_one]
        omega
    · obtain ⟨k, rfl⟩ : ∃ m, k = m + 1 := ⟨k - 1, by omega⟩
      rw [hs k l c j (by omega) hl (by omega) h0 (by omega), h4 k (by omega), hmul]
      congr 2
      omega
theorem held_loop {α : Type} {F : Nat → List α → Int → Int → Option Int} {G : Int → α} {w : Nat} {l : List α}
    (hs : ∀ k (c : Int) (j : Nat) (hj : j < l.length), l.length ≤ 2000000 → 20 ≤ k → 0 ≤ c → c ≤ 100000000000000 → l[j] = G c → F (k + 1) l c (j : Int) = F k l (c + w) ((j + 1 : Nat) : Int))
    (he : ∀ k (c : Int), F (k + 1) l c (l.length : Int) = some c) (hl : l.length ≤ 2000000) :
    ∀ (d j : Nat) (c : Int), l.length - j = d → j ≤ l.length → 0 ≤ c → c + w * d ≤ 100000000000000 → (∀ i, j ≤ i → i < l.length → l[i]? = some (G (c + w * ((i - j : Nat) : Int)))) → ∀ k, d + 20 < k → F k l c (j : Int) = some (c + w * d) := by
  intro d
  induction d with
  | zero =>
    intro j c hd hj h0 h1 hG k hk
    obtain rfl : j = l.length := by omega
    obtain ⟨k, rfl⟩ : ∃ m, k = m + 1 := ⟨k - 1, by omega⟩
    rw [he]
    simp
  | succ d ih =>
    intro j c hd hj h0 h1 hG k hk
    obtain ⟨k, rfl⟩ : ∃ m, k = m + 1 := ⟨k - 1, by omega⟩
    have hjl : j < l.length := by omega
    have hmul : (w : Int) * ((d + 1 : Nat) : Int) = w + w * d := by rw [Int.natCast_succ, Int.mul_add, Int.mul_one, Int.add_comm]
    have hwd : 0 ≤ (w : Int) * (d : Int) := Int.mul_nonneg (by omega) (by omega)
    have hj0 : l[j] = G c := by
      have := hG j (Nat.le_refl _) hjl
      rw [List.getElem?_eq_getElem hjl] at this
      simpa using this
    rw [hs k c j hjl hl (by omega) h0 (by omega) hj0, ih (j + 1) (c + w) (by omega) (by omega) (by omega) (by omega) (fun i h2 h3 => ?_) k (by omega), hmul]
    · congr 1; omega
    · rw [hG i (by omega) h3]
      congr 2
      have : ((i - j : Nat) : Int) = ((i - (j + 1) : Nat) : Int) + 1 := by omega
      rw [this, Int.mul_add, Int.mul_one]
      omega

/-! ### m_Late -/
def mkLate (c : Int) : S143 := ⟨c, mt (c + 1)⟩
theorem rdset_Late (l : List S143) (j : Nat) (a : S143) (h : j < l.length) : rd_T143 (l.set j a) (j : Int) = a := by
  unfold rd_T143
  rw [getD_at _ (by rw [List.length_set]; exact h), List.getElem_set_self]
theorem markLateS_ok (l : List S143) (c : Int) (hl : l.length ≤ 2000000) (h0 : 0 ≤ c) (h1 : c + 2 * l.length ≤ 100000000000000) :
    ∃ l' : List S143, l'.length = l.length ∧ (∀ i, i < l.length → l'[i]? = some (mkLate (c + 2 * (i : Int)))) ∧ ∀ k, l.length + 20 < k → laws_markLateS.f k l c = some (c + 2 * l.length, l') := by
  obtain ⟨l', hl', _, h3, h4⟩ := mark_loop (F := fun k l c j => laws_markLateS.l0 k l c j) (G := mkLate) (w := 2) (fun k l c j hj hl hk h0 h1 => by
      simp (disch := omega) only [laws_markLateS.l0, ip, Option.bind_some, w64, markText_eq, rdset_Late, List.set_set, Int.toNat_natCast]
      unfold mkLate
      congr 1 <;> omega) (fun k l c => by simp only [laws_markLateS.l0]; rw [if_neg (by omega)]) l.length 0 l c (by omega) (by omega) hl h0 h1
  exact ⟨l', hl', fun i hi => by simpa using h3 i (by omega) hi, h4⟩
theorem heldLateS_ok (l : List S143) (c : Int) (hl : l.length ≤ 2000000) (h0 : 0 ≤ c) (h1 : c + 2 * l.length ≤ 100000000000000) (hG : ∀ i, i < l.length → l[i]? = some (mkLate (c + 2 * (i : Int)))) :
    ∀ k, l.length + 20 < k → laws_heldLateS.f k l c = some (c + 2 * l.length) := by
  exact held_loop (F := fun k l c j => laws_heldLateS.l0 k l c j) (G := mkLate) (w := 2) (fun k c j hj hl hk h0 h1 hP => by
      have hr : rd_T143 l (j : Int) = mkLate c := by unfold rd_T143; rw [getD_at _ hj]; exact hP
      simp (disch := omega) only [laws_heldLateS.l0, hr, mkLate, ip, Option.bind_some, w64, markText_eq, if_true, bne_self_eq_false, Bool.false_eq_true, if_false]
      congr 1 <;> omega) (fun k c => by simp only [laws_heldLateS.l0]; rw [if_neg (by omega)]) hl l.length 0 c (by omega) (by omega) h0 h1 (fun i _ hi => by simpa using hG i hi)
theorem markheldLate (l : List S143) (hl : l.length ≤ 2000000) (c : Int) (h0 : 0 ≤ c) (h1 : c ≤ 10000000000000) : ∃ (m : Int) (l' : List S143), 0 ≤ m ∧ m ≤ c + 2 * l.length ∧ Ev (fun k => laws_markLateS.f k l c) (m, l') ∧ Ev (fun k => laws_heldLateS.f k l' c) m := by
  obtain ⟨l', hl', h2, h3⟩ := markLateS_ok l c hl h0 (by omega)
  refine ⟨c + 2 * l.length, l', by omega, by omega, ⟨l.length + 21, fun k hk => h3 k (by omega)⟩, ⟨l.length + 21, fun k hk => ?_⟩⟩
  have := heldLateS_ok l' c (by omega) h0 (by omega) (fun i hi => h2 i (by omega)) k (by omega)
  rw [hl'] at this
  exact this
theorem eqLateS_ok (l : List S143) (hl : l.length ≤ 2000000) : ∀ k, l.length < k → laws_eqLateS.f k l l = some true := by
  intro k hk
  unfold laws_eqLateS.f
  rw [if_pos rfl]
  refine up_loop (F := fun k j => laws_eqLateS.l0 k l l j) (n := l.length) ?_ ?_ l.length 0 (by omega) (by omega) k hk
  · intro k j hj
    simp (disch := omega) only [laws_eqLateS.l0, laws_eqLate.f, ip, w64, Option.bind_some, if_true, bne_self_eq_false, Bool.false_eq_true, if_false]
    rfl
  · intro k
    simp only [laws_eqLateS.l0]
    rw [if_neg (by omega)]

/-! ### stream -/
theorem szStream_ok (a0 a1 a2 a3 : Int) (a4 : ByteArray) (a5 a6 : Int) (a7 : Bool) (a8 : ByteArray) (a9 : List S152) (a10 : Bool) (a11 a12 : Int) (w4 : wfStr a4) (w8 : wfStr a8) (w9 : wfList 24 wf152 a9) :
    ∃ t, (∀ k, a9.length < k → laws_szStream.f k a0 a1 a2 a3 a4 a5 a6 a7 a8 a9 a10 a11 a12 1048576 = some t) ∧ (t < 0 ∨ (a9.length ≤ 1048576 ∧ (∀ x ∈ a9, x.f1.size ≤ 1048576) ∧ a4.size ≤ 1048576 ∧ a8.size ≤ 1048576)) := by
  unfold wfStr at w4 w8
  obtain ⟨h9, _, hw9⟩ := w9
  unfold laws_szStream.f
  rw [w64 (x := 1048576 - (a4.size : Int)) (by omega) (by omega)]
  by_cases h1 : (1048576 : Int) - (a4.size : Int) < 0
  · exact ⟨-1, fun k _ => by rw [if_pos h1], .inl (by omega)⟩
  · rw [w64 (x := 1048576 - (a4.size : Int) - (a8.size : Int)) (by omega) (by omega)]
    simp only [if_neg h1]
    by_cases h2 : (1048576 : Int) - (a4.size : Int) - (a8.size : Int) < 0
    · exact ⟨-1, fun k _ => by rw [if_pos h2], .inl (by omega)⟩
    · simp only [if_neg h2]
      obtain ⟨t, ht, hc⟩ := szLateS_ok a9 h9 hw9 (1048576 - (a4.size : Int) - (a8.size : Int)) (by omega) (by omega)
      refine ⟨if t < 0 then -1 else t, fun k hk => ?_, ?_⟩
      · rw [ht k hk]
        simp only [Option.bind_some]
        split <;> rfl
      · rcases hc with hc | ⟨h3, h4, h5, h6⟩
        · rw [if_pos hc]; exact .inl (by omega)
        · exact .inr ⟨h5, h6, by omega, by omega⟩
theorem eqStream_ok (a0 a1 a2 a3 : Int) (a4 : ByteArray) (a5 a6 : Int) (a7 : Bool) (a8 : ByteArray) (a9 : List S143) (a10 : Bool) (a11 a12 : Int) (hl : a9.length ≤ 2000000) :
    ∀ k, a9.length < k → laws_eqStream.f k a0 a1 a2 a3 a4 a5 a6 a7 a8 a9 a10 a11 a12 a0 a1 a2 a3 a4 a5 a6 a7 a8 a9 a10 a11 a12 = some true := by
  intro k hk
  unfold laws_eqStream.f
  rw [eqLateS_ok a9 hl k hk]
  simp
theorem markheldStream (a0 a1 a2 a3 : Int) (a4 : ByteArray) (a5 a6 : Int) (a7 : Bool) (a8 : ByteArray) (a9 : List S143) (a10 : Bool) (a11 a12 : Int) (hl : a9.length ≤ 2000000) (c : Int) (h0 : 0 ≤ c) (h1 : c ≤ 10000000000000) : ∃ m l', 0 ≤ m ∧ m ≤ c + 2 * a9.length ∧
    Ev (fun k => laws_markStream.f k a0 a1 a2 a3 a4 a5 a6 a7 a8 a9 a10 a11 a12 c) (m, l') ∧ Ev (fun k => laws_heldStream.f k a0 a1 a2 a3 a4 a5 a6 a7 a8 l' a10 a11 a12 c) m := by
  obtain ⟨m, l', h2, h3, e1, e2⟩ := markheldLate a9 hl c h0 h1
  refine ⟨m, l', h2, h3, Ev.bind e1 (Ev.now _), Ev.bind e2 ?_⟩
  simp only [if_neg (show ¬ m < 0 by omega)]
  exact Ev.now _

/-! ### addnum -/
theorem wrap64_emod (x : Int) : wrap64 x % 65536 = x % 65536 := by unfold wrap64; omega
theorem tmod_emod (a : Int) : Int.tmod a 65536 % 65536 = a % 65536 ∧ -65536 < Int.tmod a 65536 ∧ Int.tmod a 65536 < 65536 := by
  by_cases h : 0 ≤ a
  · rw [Int.tmod_eq_emod_of_nonneg h]; omega
  · rw [Int.tmod_eq_emod]; split <;> omega
theorem impl_AddNum_eq (a b : Int) : impl_AddNum.f a b = some ((a + b) % 65536) := by
  unfold impl_AddNum.f
  rw [and65535, wrap64_emod]
theorem spec_AddNum_eq (a b : Int) : spec_AddNum.f a b = some ((a + b) % 65536) := by
  unfold spec_AddNum.f
  obtain ⟨ha, ha1, ha2⟩ := tmod_emod a
  obtain ⟨hb, hb1, hb2⟩ := tmod_emod b
  rw [w64 (x := Int.tmod a 65536 + Int.tmod b 65536) (by omega) (by omega)]
  obtain ⟨hc, hc1, hc2⟩ := tmod_emod (Int.tmod a 65536 + Int.tmod b 65536)
  generalize Int.tmod (Int.tmod a 65536 + Int.tmod b 65536) 65536 = t at *
  generalize Int.tmod a 65536 = x at *
  generalize Int.tmod b 65536 = y at *
  split
  · rw [w64 (by omega) (by omega)]; congr 1; omega
  · congr 1; omega

/-! ### push -/
theorem stream_rng {a0 a1 a2 a3 : Int} {a4 : ByteArray} {a5 a6 : Int} {a7 : Bool} {a8 : ByteArray} {a9 : List S143} {a10 : Bool} {a11 a12 : Int} (h : streamB a0 a1 a2 a3 a4 a5 a6 a7 a8 a9 a10 a11 a12 = true) :
    (0 ≤ a5 ∧ a5 ≤ (a4.size : Int) ∧ a5 ≤ 24) ∧ a4.size ≤ 200 ∧ (0 ≤ a11 ∧ a11 ≤ 1000000000) ∧ (0 ≤ a12 ∧ a12 ≤ 12) := by
  unfold streamB hdrB midB at h
  simp only [Bool.and_eq_true, rng_iff, decide_eq_true_eq] at h
  omega
/-- How long something waits that was sent so many times. -/
def pw (n : Int) : Int := if 64 < wrap64 (2 ^ n.toNat) then 64 else wrap64 (2 ^ n.toNat)
theorem mn_eq (a b : Int) : mn a b = if a < b then a else b := by unfold mn; split <;> split <;> omega
theorem power_ok : ∀ n : Nat, n ≤ 12 → spec_l13Power.f 20 (n : Int) = some (pw (n : Int)) := by
  intro n hn
  have h13 : n = 0 ∨ n = 1 ∨ n = 2 ∨ n = 3 ∨ n = 4 ∨ n = 5 ∨ n = 6 ∨ n = 7 ∨ n = 8 ∨ n = 9 ∨ n = 10 ∨ n = 11 ∨ n = 12 := by omega
  rcases h13 with rfl | rfl | rfl | rfl | rfl | rfl | rfl | rfl | rfl | rfl | rfl | rfl | rfl <;> simp [pw, wrap64, spec_l13Power.f, spec_l13Power.l0]
theorem LeO.upto {α : Type} {g : Nat → Option α} (h : ∀ k, LeO (g k) (g (k + 1))) {k : Nat} {r : α} (hk : g k = some r) : ∀ d, g (k + d) = some r := by
  intro d
  induction d with
  | zero => exact hk
  | succ d ih => exact h (k + d) r ih
theorem power_ev (n : Int) (h0 : 0 ≤ n) (h1 : n ≤ 12) : Ev (fun k => spec_l13Power.f k n) (pw n) := by
  obtain ⟨m, rfl⟩ := Int.eq_ofNat_of_zero_le h0
  refine ⟨20, fun k hk => ?_⟩
  obtain ⟨d, rfl⟩ := Nat.le.dest hk
  exact LeO.upto (fun k => spec_l13Power.mono _ k) (power_ok m (by omega)) d
theorem pw_rng : ∀ n : Nat, n ≤ 12 → 0 ≤ pw (n : Int) ∧ pw (n : Int) ≤ 64 := by
  intro n hn
  have h13 : n = 0 ∨ n = 1 ∨ n = 2 ∨ n = 3 ∨ n = 4 ∨ n = 5 ∨ n = 6 ∨ n = 7 ∨ n = 8 ∨ n = 9 ∨ n = 10 ∨ n = 11 ∨ n = 12 := by omega
  rcases h13 with rfl | rfl | rfl | rfl | rfl | rfl | rfl | rfl | rfl | rfl | rfl | rfl | rfl <;> simp [pw, wrap64]
theorem less_eq (a b : Int) : spec_l13Less.f a b = some (mn a b) := by unfold spec_l13Less.f; rw [mn_eq]; split <;> rfl
theorem again_spec (a0 a1 a2 a3 : Int) (a4 : ByteArray) (a5 a6 : Int) (a7 : Bool) (a8 : ByteArray) (a9 : List S143) (a10 : Bool) (a11 a12 now : Int) (h12 : 0 ≤ a12 ∧ a12 ≤ 12) (hn : 0 ≤ now ∧ now ≤ 999999900) : Ev (fun k => spec_l13Again.f k a0 a1 a2 a3 a4 a5 a6 a7 a8 a9 a10 a11 a12 now) (a0, a1, a2, a3, a4, a5, a6, a7, a8, false, now + pw (mn (a12 + 1) 12), mn (a12 + 1) 12) := by
  have hm : 0 ≤ mn (a12 + 1) 12 ∧ mn (a12 + 1) 12 ≤ 12 := by rw [mn_eq]; split <;> omega
  unfold spec_l13Again.f
  rw [w64 (x := a12 + 1) (by omega) (by omega)]
  simp only [less_eq, Option.bind_some]
  refine Ev.bind (power_ev _ hm.1 hm.2) ?_
  have hp : 0 ≤ pw (mn (a12 + 1) 12) ∧ pw (mn (a12 + 1) 12) ≤ 64 := by
    have := pw_rng (mn (a12 + 1) 12).toNat (by omega)
    rw [Int.toNat_of_nonneg hm.1] at this
    exact this
  rw [w64 (x := now + pw (mn (a12 + 1) 12)) (by omega) (by omega)]
  exact Ev.now _
theorem again_impl (a0 a1 a2 a3 : Int) (a4 : ByteArray) (a5 a6 : Int) (a7 : Bool) (a8 : ByteArray) (a9 : List S143) (a10 : Bool) (a11 a12 now : Int) (h12 : 0 ≤ a12 ∧ a12 ≤ 12) (hn : 0 ≤ now ∧ now ≤ 999999900) : impl_Stream_again.f a0 a1 a2 a3 a4 a5 a6 a7 a8 a9 a10 a11 a12 now = some (a0, a1, a2, a3, a4, a5, a6, a7, a8, a10, now + pw (mn (a12 + 1) 12), mn (a12 + 1) 12) := by
  have hm : 0 ≤ mn (a12 + 1) 12 ∧ mn (a12 + 1) 12 ≤ 12 := by rw [mn_eq]; split <;> omega
  have hp : 0 ≤ pw (mn (a12 + 1) 12) ∧ pw (mn (a12 + 1) 12) ≤ 64 := by
    have := pw_rng (mn (a12 + 1) 12).toNat (by omega)
    rw [Int.toNat_of_nonneg hm.1] at this
    exact this
  unfold impl_Stream_again.f
  rw [w64 (x := a12 + 1) (by omega) (by omega), if_pos hm.1]
  rw [show mn 64 (wrap64 (2 ^ (mn (a12 + 1) 12).toNat)) = pw (mn (a12 + 1) 12) from mn_eq _ _, w64 (x := now + pw (mn (a12 + 1) 12)) (by omega) (by omega)]
abbrev OpenR := List S28 × Int × Int × Int × Int × ByteArray × Int × Int × Bool × ByteArray × Bool × Int × Int
/-- Both come to one answer. -/
def Two (f g : Nat → Option OpenR) : Prop := ∃ r : OpenR, r.1.length ≤ 50 ∧ Ev f r ∧ Ev g r
theorem Two.steps {f g F G : Nat → Option OpenR} (hf : ∀ k, F (k + 1) = f k) (hg : ∀ k, G (k + 1) = g k) (h : Two f g) : Two F G := by
  obtain ⟨r, hr, e1, e2⟩ := h
  exact ⟨r, hr, Ev.step hf e1, Ev.step hg e2⟩
theorem flag_eq (b : Bool) : impl_flag.f b = some (if b = true then 1 else 0) := by unfold impl_flag.f; cases b <;> rfl
section
variable (now : Int) (a0 a1 a2 a3 : Int) (a4 : ByteArray) (a7 : Bool) (a8 : ByteArray) (a9 : List S143) (a10 : Bool) (a11 a12 : Int)
theorem open_j5 (hn : 0 ≤ now ∧ now ≤ 999999900) (h12 : 0 ≤ a12 ∧ a12 ≤ 12) (acc : List S28) (hl : acc.length ≤ 49) (s f : Int) (hs : 0 ≤ s ∧ s ≤ 1000) :
    Two (fun k => spec_l13Open.j5 k now acc a0 a1 a2 a3 a4 s f a7 a8 a9 a10 a11 a12) (fun k => impl_Stream_pushOpen.j5 k now acc a0 a1 a2 a3 a4 s f a7 a8 a9 a10 a11 a12) := by
  by_cases h0 : (acc.length : Int) > 0
  · refine ⟨(acc, a0, a1, a2, a3, a4, s, f, a7, a8, false, now + pw (mn (a12 + 1) 12), mn (a12 + 1) 12), by show acc.length ≤ 50; omega, ?_, ?_⟩
    · refine Ev.step (fun k => by simp only [spec_l13Open.j5]; rw [if_pos h0]) ?_
      refine Ev.bind (again_spec a0 a1 a2 a3 a4 s f a7 a8 a9 a10 a11 a12 now h12 hn) ?_
      exact Ev.now _
    · refine Ev.step (f := fun _ => some (acc, a0, a1, a2, a3, a4, s, f, a7, a8, false, now + pw (mn (a12 + 1) 12), mn (a12 + 1) 12)) (fun k => ?_) (Ev.now _)
      simp only [impl_Stream_pushOpen.j5]
      rw [if_pos h0, again_impl a0 a1 a2 a3 a4 s f a7 a8 a9 a10 a11 a12 now h12 hn]
      rfl
  · cases a10 with
    | true =>
      have hlt : acc.length < 3518437208883 := by omega
      by_cases h2 : f = 2
      · refine ⟨(acc ++ [(⟨(a2 + (s + 1)) % 65536, a3, 2, (⟨#[]⟩ : ByteArray)⟩ : S28)], a0, a1, a2, a3, a4, s, f, a7, a8, false, a11, a12), by show (acc ++ [_]).length ≤ 50; rw [List.length_append, List.length_singleton]; omega, Ev.step (f := fun _ => some _) (fun k => ?_) (Ev.now _), Ev.step (f := fun _ => some _) (fun k => ?_) (Ev.now _)⟩
        · simp only [spec_l13Open.j5]
          rw [if_neg h0, if_pos trivial, if_pos h2, w64 (x := s + 1) (by omega) (by omega), spec_AddNum_eq, Option.bind_some, if_pos hlt]
        · simp only [impl_Stream_pushOpen.j5]
          rw [if_neg h0, if_pos trivial, flag_eq, Option.bind_some, h2, if_pos (by simp), w64 (x := s + 1) (by omega) (by omega), impl_AddNum_eq, Option.bind_some, if_pos hlt]
      · refine ⟨(acc ++ [(⟨(a2 + s) % 65536, a3, 2, (⟨#[]⟩ : ByteArray)⟩ : S28)], a0, a1, a2, a3, a4, s, f, a7, a8, false, a11, a12), by show (acc ++ [_]).length ≤ 50; rw [List.length_append, List.length_singleton]; omega, Ev.step (f := fun _ => some _) (fun k => ?_) (Ev.now _), Ev.step (f := fun _ => some _) (fun k => ?_) (Ev.now _)⟩
        · simp only [spec_l13Open.j5]
          rw [if_neg h0, if_pos trivial, if_neg h2, spec_AddNum_eq, Option.bind_some, if_pos hlt]
        · simp only [impl_Stream_pushOpen.j5]
          rw [if_neg h0, if_pos trivial, flag_eq, Option.bind_some, beq_eq_false_iff_ne.2 h2, if_neg (by simp), w64 (x := s + 0) (by omega) (by omega), Int.add_zero, impl_AddNum_eq, Option.bind_some, if_pos hlt]
    | false =>
      refine ⟨(acc, a0, a1, a2, a3, a4, s, f, a7, a8, false, a11, a12), by show acc.length ≤ 50; omega, Ev.step (f := fun _ => some _) (fun k => ?_) (Ev.now _), Ev.step (f := fun _ => some _) (fun k => ?_) (Ev.now _)⟩
      · simp only [spec_l13Open.j5]; rw [if_neg h0, if_neg (by simp)]
      · simp only [impl_Stream_pushOpen.j5]; rw [if_neg h0, if_neg (by simp)]
theorem open_j4 (hn : 0 ≤ now ∧ now ≤ 999999900) (h12 : 0 ≤ a12 ∧ a12 ≤ 12) (acc : List S28) (hl : acc.length ≤ 48) (s f : Int) (hs : 0 ≤ s ∧ s ≤ 1000) (q : Bool) :
    Two (fun k => spec_l13Open.j4 k now acc q a0 a1 a2 a3 a4 s f a7 a8 a9 a10 a11 a12) (fun k => impl_Stream_pushOpen.j4 k now acc q a0 a1 a2 a3 a4 s f a7 a8 a9 a10 a11 a12) := by
  have hlt : acc.length < 3518437208883 := by omega
  cases q with
  | true =>
    refine Two.steps (fun k => ?_) (fun k => ?_) (open_j5 now a0 a1 a2 a3 a4 a7 a8 a9 a10 a11 a12 hn h12 (acc ++ [(⟨(a2 + s) % 65536, a3, 6, (⟨#[]⟩ : ByteArray)⟩ : S28)]) (by rw [List.length_append, List.length_singleton]; omega) s 2 hs)
    · simp only [spec_l13Open.j4, if_true]; rw [spec_AddNum_eq, Option.bind_some, if_pos hlt]
    · simp only [impl_Stream_pushOpen.j4, if_true]; rw [impl_AddNum_eq, Option.bind_some, if_pos hlt]
  | false =>
    refine Two.steps (fun k => ?_) (fun k => ?_) (open_j5 now a0 a1 a2 a3 a4 a7 a8 a9 a10 a11 a12 hn h12 acc (by omega) s f hs)
    · simp only [spec_l13Open.j4, Bool.false_eq_true, if_false]
    · simp only [impl_Stream_pushOpen.j4, Bool.false_eq_true, if_false]
theorem open_j3 (hn : 0 ≤ now ∧ now ≤ 999999900) (h12 : 0 ≤ a12 ∧ a12 ≤ 12) (acc : List S28) (hl : acc.length ≤ 48) (s f : Int) (hs : 0 ≤ s ∧ s ≤ 1000) :
    Two (fun k => spec_l13Open.j3 k now acc false a0 a1 a2 a3 a4 s f a7 a8 a9 a10 a11 a12) (fun k => impl_Stream_pushOpen.j3 k now acc a0 a1 a2 a3 a4 s f a7 a8 a9 a10 a11 a12) := by
  by_cases h1 : f = 1
  · refine Two.steps (fun k => ?_) (fun k => ?_) (open_j4 now a0 a1 a2 a3 a4 a7 a8 a9 a10 a11 a12 hn h12 acc hl s f hs (s == (a4.size : Int)))
    · simp only [spec_l13Open.j3, Bool.false_eq_true, if_false, if_pos h1]
    · simp only [impl_Stream_pushOpen.j3, if_pos h1]
  · refine Two.steps (fun k => ?_) (fun k => ?_) (open_j4 now a0 a1 a2 a3 a4 a7 a8 a9 a10 a11 a12 hn h12 acc hl s f hs false)
    · simp only [spec_l13Open.j3, Bool.false_eq_true, if_false, if_neg h1]
    · simp only [impl_Stream_pushOpen.j3, if_neg h1]
theorem open_l0 (hn : 0 ≤ now ∧ now ≤ 999999900) (h12 : 0 ≤ a12 ∧ a12 ≤ 12) (h4 : a4.size ≤ 200) : ∀ (d : Nat) (acc : List S28) (s f : Int), 24 - s ≤ d → 0 ≤ s → s ≤ 24 → s ≤ (a4.size : Int) → (acc.length : Int) ≤ s →
    Two (fun k => spec_l13Open.l0 k now acc a0 a1 a2 a3 a4 s f a7 a8 a9 a10 a11 a12) (fun k => impl_Stream_pushOpen.l0 k now acc a0 a1 a2 a3 a4 s f a7 a8 a9 a10 a11 a12) := by
  intro d
  induction d with
  | zero =>
    intro acc s f hd h0 h24 hsz hl
    obtain ⟨r, hr, e1, e2⟩ := open_j3 now a0 a1 a2 a3 a4 a7 a8 a9 a10 a11 a12 hn h12 acc (by omega) s f (by omega)
    refine ⟨r, hr, Ev.step (fun k => ?_) e1, Ev.step (fun k => ?_) e2⟩
    · simp only [spec_l13Open.l0]
      rw [decide_eq_false (show ¬ s < 24 by omega)]
      split <;> rfl
    · simp only [impl_Stream_pushOpen.l0]
      rw [if_neg (show ¬ s < 24 by omega)]
      split <;> rfl
  | succ d ih =>
    intro acc s f hd h0 h24 hsz hl
    by_cases hc : s < (a4.size : Int) ∧ s < 24
    · obtain ⟨c1, c2⟩ := hc
      have hm1 : mn (a4.size : Int) 24 = if (a4.size : Int) < 24 then (a4.size : Int) else 24 := mn_eq _ _
      have e : mn (mn 8 ((a4.size : Int) - s)) (24 - s) = mn 8 (mn (a4.size : Int) 24 - s) := by
        simp only [mn_eq]
        split <;> split <;> split <;> (try split) <;> omega
      have hr : 1 ≤ mn 8 (mn (a4.size : Int) 24 - s) ∧ s + mn 8 (mn (a4.size : Int) 24 - s) ≤ 24 ∧ s + mn 8 (mn (a4.size : Int) 24 - s) ≤ (a4.size : Int) := by
        simp only [mn_eq]
        split <;> split <;> omega
      generalize hN : mn 8 (mn (a4.size : Int) 24 - s) = N at e hr
      have hlt : acc.length < 3518437208883 := by omega
      obtain ⟨r, hr', e1, e2⟩ := ih (acc ++ [(⟨(a2 + s) % 65536, a3, 2, a4.extract (s : Int).toNat (s + N : Int).toNat⟩ : S28)]) (s + N) f (by omega) (by omega) (by omega) (by omega) (by rw [List.length_append, List.length_singleton]; omega)
      refine ⟨r, hr', Ev.step (f := fun k => spec_l13Open.j3 k now acc true a0 a1 a2 a3 a4 s f a7 a8 a9 a10 a11 a12) (fun k => ?_) (Ev.step (fun k => ?_) e1), Ev.step (fun k => ?_) e2⟩
      · simp only [spec_l13Open.l0]
        rw [if_pos c1, decide_eq_true c2]
      · have hw : mn (a4.size : Int) 24 - s ≤ 24 ∧ 0 ≤ mn (a4.size : Int) 24 - s := by rw [hm1]; split <;> omega
        simp only [spec_l13Open.j3, if_true, less_eq, Option.bind_some]
        rw [w64 (x := mn (a4.size : Int) 24 - s) (by omega) (by omega), hN, w64 (x := s + N) (by omega) (by omega), spec_AddNum_eq, Option.bind_some, if_pos h0, if_pos (by omega), if_pos hr.2.2, if_pos hlt]
      · simp only [impl_Stream_pushOpen.l0]
        rw [if_pos c1, if_pos c2, w64 (x := (a4.size : Int) - s) (by omega) (by omega), w64 (x := 24 - s) (by omega) (by omega), e, w64 (x := s + N) (by omega) (by omega), impl_AddNum_eq, Option.bind_some, if_pos h0, if_pos (by omega), if_pos hr.2.2, if_pos hlt]
    · obtain ⟨r, hr, e1, e2⟩ := open_j3 now a0 a1 a2 a3 a4 a7 a8 a9 a10 a11 a12 hn h12 acc (by omega) s f (by omega)
      refine ⟨r, hr, Ev.step (fun k => ?_) e1, Ev.step (fun k => ?_) e2⟩
      · simp only [spec_l13Open.l0]
        by_cases c1 : s < (a4.size : Int)
        · rw [if_pos c1, decide_eq_false (show ¬ s < 24 by omega)]
        · rw [if_neg c1]
      · simp only [impl_Stream_pushOpen.l0]
        by_cases c1 : s < (a4.size : Int)
        · rw [if_pos c1, if_neg (show ¬ s < 24 by omega)]
        · rw [if_neg c1]
theorem open_j0 (hn : 0 ≤ now ∧ now ≤ 999999900) (h12 : 0 ≤ a12 ∧ a12 ≤ 12) (h4 : a4.size ≤ 200) (s f : Int) (hs : 0 ≤ s ∧ s ≤ (a4.size : Int) ∧ s ≤ 24) (q : Bool) :
    Two (fun k => spec_l13Open.j0 k now [] q a0 a1 a2 a3 a4 s f a7 a8 a9 a10 a11 a12) (fun k => impl_Stream_pushOpen.j0 k now [] q a0 a1 a2 a3 a4 s f a7 a8 a9 a10 a11 a12) := by
  have go : ∀ s f : Int, 0 ≤ s → s ≤ (a4.size : Int) → s ≤ 24 → Two (fun k => spec_l13Open.j1 k now [] a0 a1 a2 a3 a4 s f a7 a8 a9 a10 a11 a12) (fun k => impl_Stream_pushOpen.j1 k now [] a0 a1 a2 a3 a4 s f a7 a8 a9 a10 a11 a12) := fun s f h0 h1 h2 =>
    Two.steps (fun k => by simp only [spec_l13Open.j1]) (fun k => by simp only [impl_Stream_pushOpen.j1]) (open_l0 now a0 a1 a2 a3 a4 a7 a8 a9 a10 a11 a12 hn h12 h4 24 [] s f (by omega) h0 h2 h1 (by simpa using h0))
  cases q with
  | true =>
    by_cases h2 : f = 2
    · exact Two.steps (fun k => by simp only [spec_l13Open.j0, if_true, if_pos h2]) (fun k => by simp only [impl_Stream_pushOpen.j0, if_true, if_pos h2]) (go 0 1 (by omega) (by omega) (by omega))
    · exact Two.steps (fun k => by simp only [spec_l13Open.j0, if_true, if_neg h2]) (fun k => by simp only [impl_Stream_pushOpen.j0, if_true, if_neg h2]) (go 0 f (by omega) (by omega) (by omega))
  | false =>
    exact Two.steps (fun k => by simp only [spec_l13Open.j0, Bool.false_eq_true, if_false]) (fun k => by simp only [impl_Stream_pushOpen.j0, Bool.false_eq_true, if_false]) (go s f hs.1 hs.2.1 hs.2.2)
theorem open_both (hn : 0 ≤ now ∧ now ≤ 999999900) (h12 : 0 ≤ a12 ∧ a12 ≤ 12) (h4 : a4.size ≤ 200) (s f : Int) (hs : 0 ≤ s ∧ s ≤ (a4.size : Int) ∧ s ≤ 24) (due : Bool) (hd : due = (decide (a11 ≤ now) && decide (a12 < 12))) :
    Two (fun k => spec_l13Open.f k a0 a1 a2 a3 a4 s f a7 a8 a9 a10 a11 a12 now) (fun k => impl_Stream_pushOpen.f k a0 a1 a2 a3 a4 s f a7 a8 a9 a10 a11 a12 now due) := by
  have go := open_j0 now a0 a1 a2 a3 a4 a7 a8 a9 a10 a11 a12 hn h12 h4 s f hs
  unfold spec_l13Open.f impl_Stream_pushOpen.f
  simp only [Option.bind_some]
  by_cases c1 : a11 ≤ now
  · by_cases c2 : a12 < 12
    · rw [decide_eq_true c1, decide_eq_true c2] at hd
      subst hd
      simp only [if_pos c1, decide_eq_true c2, Bool.and_self, if_true]
      by_cases c3 : s > 0
      · simp only [if_pos c3]; exact go true
      · simp only [if_neg c3]
        by_cases c4 : f = 2
        · simp only [if_pos c4, c4, beq_self_eq_true]; rw [c4] at go; exact go true
        · simp only [if_neg c4, beq_eq_false_iff_ne.2 c4]; exact go false
    · rw [decide_eq_false c2, Bool.and_false] at hd
      subst hd
      simp only [if_pos c1, decide_eq_false c2, Bool.false_eq_true, if_false]
      split
      · exact go false
      · split
        · exact go false
        · exact go false
  · rw [decide_eq_false c1, Bool.false_and] at hd
    subst hd
    simp only [if_neg c1, Bool.false_eq_true, if_false]
    exact go false
end

/-! ### m_Seg -/
def mkSeg (c : Int) : S28 := ⟨c, c + 1, c + 1 + 1, mt (c + 1 + 1 + 1)⟩
theorem rdset_Seg (l : List S28) (j : Nat) (a : S28) (h : j < l.length) : rd_T28 (l.set j a) (j : Int) = a := by
  unfold rd_T28
  rw [getD_at _ (by rw [List.length_set]; exact h), List.getElem_set_self]
theorem markSegS_ok (l : List S28) (c : Int) (hl : l.length ≤ 2000000) (h0 : 0 ≤ c) (h1 : c + 4 * l.length ≤ 100000000000000) :
    ∃ l' : List S28, l'.length = l.length ∧ (∀ i, i < l.length → l'[i]? = some (mkSeg (c + 4 * (i : Int)))) ∧ ∀ k, l.length + 20 < k → laws_markSegS.f k l c = some (c + 4 * l.length, l') := by
  obtain ⟨l', hl', _, h3, h4⟩ := mark_loop (F := fun k l c j => laws_markSegS.l0 k l c j) (G := mkSeg) (w := 4) (fun k l c j hj hl hk h0 h1 => by
      simp (disch := omega) only [laws_markSegS.l0, ip, Option.bind_some, w64, markText_eq, rdset_Seg, List.set_set, Int.toNat_natCast]
      unfold mkSeg
      congr 1 <;> omega) (fun k l c => by simp only [laws_markSegS.l0]; rw [if_neg (by omega)]) l.length 0 l c (by omega) (by omega) hl h0 h1
  exact ⟨l', hl', fun i hi => by simpa using h3 i (by omega) hi, h4⟩
theorem heldSegS_ok (l : List S28) (c : Int) (hl : l.length ≤ 2000000) (h0 : 0 ≤ c) (h1 : c + 4 * l.length ≤ 100000000000000) (hG : ∀ i, i < l.length → l[i]? = some (mkSeg (c + 4 * (i : Int)))) :
    ∀ k, l.length + 20 < k → laws_heldSegS.f k l c = some (c + 4 * l.length) := by
  exact held_loop (F := fun k l c j => laws_heldSegS.l0 k l c j) (G := mkSeg) (w := 4) (fun k c j hj hl hk h0 h1 hP => by
      have hr : rd_T28 l (j : Int) = mkSeg c := by unfold rd_T28; rw [getD_at _ hj]; exact hP
      simp (disch := omega) only [laws_heldSegS.l0, hr, mkSeg, ip, Option.bind_some, w64, markText_eq, if_true, bne_self_eq_false, Bool.false_eq_true, if_false]
      congr 1 <;> omega) (fun k c => by simp only [laws_heldSegS.l0]; rw [if_neg (by omega)]) hl l.length 0 c (by omega) (by omega) h0 h1 (fun i _ hi => by simpa using hG i hi)
theorem markheldSeg (l : List S28) (hl : l.length ≤ 2000000) (c : Int) (h0 : 0 ≤ c) (h1 : c ≤ 10000000000000) : ∃ (m : Int) (l' : List S28), 0 ≤ m ∧ m ≤ c + 4 * l.length ∧ Ev (fun k => laws_markSegS.f k l c) (m, l') ∧ Ev (fun k => laws_heldSegS.f k l' c) m := by
  obtain ⟨l', hl', h2, h3⟩ := markSegS_ok l c hl h0 (by omega)
  refine ⟨c + 4 * l.length, l', by omega, by omega, ⟨l.length + 21, fun k hk => h3 k (by omega)⟩, ⟨l.length + 21, fun k hk => ?_⟩⟩
  have := heldSegS_ok l' c (by omega) h0 (by omega) (fun i hi => h2 i (by omega)) k (by omega)
  rw [hl'] at this
  exact this
theorem eqSegS_ok (l : List S28) (hl : l.length ≤ 2000000) : ∀ k, l.length < k → laws_eqSegS.f k l l = some true := by
  intro k hk
  unfold laws_eqSegS.f
  rw [if_pos rfl]
  refine up_loop (F := fun k j => laws_eqSegS.l0 k l l j) (n := l.length) ?_ ?_ l.length 0 (by omega) (by omega) k hk
  · intro k j hj
    simp (disch := omega) only [laws_eqSegS.l0, laws_eqSeg.f, ip, w64, Option.bind_some, if_true, bne_self_eq_false, Bool.false_eq_true, if_false]
    rfl
  · intro k
    simp only [laws_eqSegS.l0]
    rw [if_neg (by omega)]

/-! ### FnExactPush -/
theorem push_both (a0 a1 a2 a3 : Int) (a4 : ByteArray) (a5 a6 : Int) (a7 : Bool) (a8 : ByteArray) (a9 : List S143) (a10 : Bool) (a11 a12 now : Int) (hl : a9.length ≤ 1048576) :
    ∃ (b0 b1 b2 b3 : Int) (b4 : ByteArray) (b5 b6 : Int) (b7 : Bool) (b8 : ByteArray) (b10 : Bool) (b11 b12 : Int) (l : List S28), l.length ≤ 50 ∧
    Ev (fun k => spec_Push.f k a0 a1 a2 a3 a4 a5 a6 a7 a8 a9 a10 a11 a12 now) (b0, b1, b2, b3, b4, b5, b6, b7, b8, a9, b10, b11, b12, l) ∧
    Ev (fun k => impl_Push.f k a0 a1 a2 a3 a4 a5 a6 a7 a8 a9 a10 a11 a12 now) (b0, b1, b2, b3, b4, b5, b6, b7, b8, a9, b10, b11, b12, l) := by
  have hb : a9.length < 5864062014805 := by omega
  have e1 : Ev (fun k => spec_StreamOk.f k a0 a1 a2 a3 a4 a5 a6 a7 a8 a9 a10 a11 a12) (streamB a0 a1 a2 a3 a4 a5 a6 a7 a8 a9 a10 a11 a12) := ⟨a9.length + 4, fun k hk => spec_streamOk_eq _ _ _ _ _ _ _ _ _ _ _ _ _ (by omega) _ (by omega)⟩
  have e2 : Ev (fun k => impl_StreamOk.f k a0 a1 a2 a3 a4 a5 a6 a7 a8 a9 a10 a11 a12) (streamB a0 a1 a2 a3 a4 a5 a6 a7 a8 a9 a10 a11 a12) := ⟨a9.length + 4, fun k hk => impl_streamOk_eq _ _ _ _ _ _ _ _ _ _ _ _ _ (by omega) _ (by omega)⟩
  have n1 : Ev (fun k => spec_Push.j0 k now true a0 a1 a2 a3 a4 a5 a6 a7 a8 a9 a10 a11 a12 a0 a1 a2 a3 a4 a5 a6 a7 a8 a9 a10 a11 a12) (a0, a1, a2, a3, a4, a5, a6, a7, a8, a9, a10, a11, a12, []) := Ev.step (f := fun _ => some _) (fun k => by simp only [spec_Push.j0, if_true]) (Ev.now _)
  have n2 : Ev (fun k => impl_Push.j0 k now true a0 a1 a2 a3 a4 a5 a6 a7 a8 a9 a10 a11 a12 a0 a1 a2 a3 a4 a5 a6 a7 a8 a9 a10 a11 a12) (a0, a1, a2, a3, a4, a5, a6, a7, a8, a9, a10, a11, a12, []) := Ev.step (f := fun _ => some _) (fun k => by simp only [impl_Push.j0, if_true]) (Ev.now _)
  unfold spec_Push.f impl_Push.f spec_l13Copy.f impl_copyStream.f
  simp only [Option.bind_some, List.length_nil, Nat.zero_add, if_pos hb, List.nil_append, in_eq, within_eq]
  cases hS : streamB a0 a1 a2 a3 a4 a5 a6 a7 a8 a9 a10 a11 a12 with
  | false =>
    rw [hS] at e1 e2
    refine ⟨a0, a1, a2, a3, a4, a5, a6, a7, a8, a10, a11, a12, [], by simp, Ev.bind e1 ?_, Ev.bind e2 ?_⟩
    · simp only [Bool.false_eq_true, if_false]; exact n1
    · simp only [Bool.false_eq_true, if_false]; exact n2
  | true =>
    rw [hS] at e1 e2
    obtain ⟨hs, h4, h11, h12⟩ := stream_rng hS
    cases hr : rng now 0 999999900 with
    | false =>
      refine ⟨a0, a1, a2, a3, a4, a5, a6, a7, a8, a10, a11, a12, [], by simp, Ev.bind e1 ?_, Ev.bind e2 ?_⟩
      · simp only [if_true, Bool.not_false]; exact n1
      · simp only [if_true, Bool.not_false]; exact n2
    | true =>
      rw [rng_iff] at hr
      have hdue : ∃ due : Bool, due = (decide (a11 ≤ now) && decide (a12 < 12)) ∧ ∀ k, impl_Push.j0 (k + 1) now false a0 a1 a2 a3 a4 a5 a6 a7 a8 a9 a10 a11 a12 a0 a1 a2 a3 a4 a5 a6 a7 a8 a9 a10 a11 a12 = impl_Push.j1 k now due a0 a1 a2 a3 a4 a5 a6 a7 a8 a9 a10 a11 a12 a0 a1 a2 a3 a4 a5 a6 a7 a8 a9 a10 a11 a12 := by
        by_cases c : a11 ≤ now
        · exact ⟨decide (a12 < 12), by rw [decide_eq_true c, Bool.true_and], fun k => by simp only [impl_Push.j0, Bool.false_eq_true, if_false, if_pos c]⟩
        · exact ⟨false, by rw [decide_eq_false c, Bool.false_and], fun k => by simp only [impl_Push.j0, Bool.false_eq_true, if_false, if_neg c]⟩
      obtain ⟨due, hd, hj⟩ := hdue
      by_cases s4 : a0 = 4
      · obtain ⟨⟨l, b0, b1, b2, b3, b4, b5, b6, b7, b8, b10, b11, b12⟩, hl, o1, o2⟩ := open_both now a0 a1 a2 a3 a4 a7 a8 a9 a10 a11 a12 hr h12 h4 a5 a6 (by omega) due hd
        refine ⟨b0, b1, b2, b3, b4, b5, b6, b7, b8, b10, b11, b12, l, hl, Ev.bind e1 ?_, Ev.bind e2 ?_⟩
        · simp only [if_true, Bool.not_true]
          refine Ev.step (fun k => by simp only [spec_Push.j0, Bool.false_eq_true, if_false, if_pos s4]; rfl) ?_
          exact Ev.bind o1 (Ev.now _)
        · simp only [if_true, Bool.not_true]
          refine Ev.step hj ?_
          refine Ev.step (f := fun k => impl_Push.j2 k now due a0 false a0 a1 a2 a3 a4 a5 a6 a7 a8 a9 a10 a11 a12 a0 a1 a2 a3 a4 a5 a6 a7 a8 a9 a10 a11 a12) (fun k => by simp only [impl_Push.j1]; rw [if_neg (by omega), beq_eq_false_iff_ne.2 (show a0 ≠ 3 by omega)]) ?_
          refine Ev.step (fun k => by simp only [impl_Push.j2, Bool.false_eq_true, if_false, if_pos s4]; rfl) ?_
          exact Ev.bind o2 (Ev.now _)
      · by_cases s23 : a0 = 2 ∨ a0 = 3
        · -- asked, heard
          have hJ : ∀ k, spec_Push.j0 (k + 1) now false a0 a1 a2 a3 a4 a5 a6 a7 a8 a9 a10 a11 a12 a0 a1 a2 a3 a4 a5 a6 a7 a8 a9 a10 a11 a12 = spec_Push.j1 k now (!due) a0 a1 a2 a3 a4 a5 a6 a7 a8 a9 a10 a11 a12 a0 a1 a2 a3 a4 a5 a6 a7 a8 a9 a10 a11 a12 := by
            intro k
            simp only [spec_Push.j0, Bool.false_eq_true, if_false, if_neg s4]
            have hq : (!due) = if a11 > now then true else decide (a12 ≥ 12) := by
              rw [hd]
              by_cases c1 : a11 ≤ now <;> by_cases c2 : a12 < 12 <;> simp [c1, c2] <;> omega
            rw [hq]
            rcases s23 with h | h
            · rw [if_pos h]; split <;> rfl
            · rw [if_neg (show ¬ a0 = 2 by omega), if_pos h]; split <;> rfl
          have hI : ∀ k, impl_Push.j1 (k + 1) now due a0 a1 a2 a3 a4 a5 a6 a7 a8 a9 a10 a11 a12 a0 a1 a2 a3 a4 a5 a6 a7 a8 a9 a10 a11 a12 = impl_Push.j2 k now due a0 true a0 a1 a2 a3 a4 a5 a6 a7 a8 a9 a10 a11 a12 a0 a1 a2 a3 a4 a5 a6 a7 a8 a9 a10 a11 a12 := by
            intro k
            simp only [impl_Push.j1]
            rcases s23 with h | h
            · rw [if_pos h, h]; rfl
            · rw [if_neg (show ¬ a0 = 2 by omega), h]; rfl
          cases due with
          | false =>
            refine ⟨a0, a1, a2, a3, a4, a5, a6, a7, a8, a10, a11, a12, [], by simp, Ev.bind e1 ?_, Ev.bind e2 ?_⟩
            · simp only [if_true, Bool.not_true]
              refine Ev.step hJ ?_
              exact Ev.step (f := fun _ => some _) (fun k => by simp only [spec_Push.j1, Bool.not_false, if_true]) (Ev.now _)
            · simp only [if_true, Bool.not_true]
              refine Ev.step hj (Ev.step hI ?_)
              exact Ev.step (f := fun _ => some _) (fun k => by simp only [impl_Push.j2, if_true, Bool.false_eq_true, if_false]) (Ev.now _)
          | true =>
            have g1 := again_spec a0 a1 a2 a3 a4 a5 a6 a7 a8 a9 a10 a11 a12 now h12 hr
            have g2 := again_impl a0 a1 a2 a3 a4 a5 a6 a7 a8 a9 a10 a11 a12 now h12 hr
            by_cases s3 : a0 = 3
            · refine ⟨a0, a1, a2, a3, a4, a5, a6, a7, a8, a10, now + pw (mn (a12 + 1) 12), mn (a12 + 1) 12, [(⟨a1, a3, 3, (⟨#[]⟩ : ByteArray)⟩ : S28)], by simp, Ev.bind e1 ?_, Ev.bind e2 ?_⟩
              · simp only [if_true, Bool.not_true]
                refine Ev.step hJ ?_
                refine Ev.step (fun k => by simp only [spec_Push.j1, Bool.not_true, Bool.false_eq_true, if_false, if_pos s3]; rfl) ?_
                exact Ev.bind g1 (Ev.now _)
              · simp only [if_true, Bool.not_true]
                refine Ev.step hj (Ev.step hI ?_)
                exact Ev.step (f := fun _ => some _) (fun k => by simp only [impl_Push.j2, if_true, g2, Option.bind_some, if_neg (show ¬ a0 = 2 by omega)]) (Ev.now _)
            · have s2 : a0 = 2 := by omega
              refine ⟨a0, a1, a2, a3, a4, a5, a6, a7, a8, a10, now + pw (mn (a12 + 1) 12), mn (a12 + 1) 12, [(⟨a1, 0, 1, (⟨#[]⟩ : ByteArray)⟩ : S28)], by simp, Ev.bind e1 ?_, Ev.bind e2 ?_⟩
              · simp only [if_true, Bool.not_true]
                refine Ev.step hJ ?_
                refine Ev.step (fun k => by simp only [spec_Push.j1, Bool.not_true, Bool.false_eq_true, if_false, if_neg s3]; rfl) ?_
                exact Ev.bind g1 (Ev.now _)
              · simp only [if_true, Bool.not_true]
                refine Ev.step hj (Ev.step hI ?_)
                exact Ev.step (f := fun _ => some _) (fun k => by simp only [impl_Push.j2, if_true, g2, Option.bind_some, if_pos s2]) (Ev.now _)
        · refine ⟨a0, a1, a2, a3, a4, a5, a6, a7, a8, a10, a11, a12, [], by simp, Ev.bind e1 ?_, Ev.bind e2 ?_⟩
          · simp only [if_true, Bool.not_true]
            refine Ev.step (f := fun k => spec_Push.j1 k now true a0 a1 a2 a3 a4 a5 a6 a7 a8 a9 a10 a11 a12 a0 a1 a2 a3 a4 a5 a6 a7 a8 a9 a10 a11 a12) (fun k => by simp only [spec_Push.j0, Bool.false_eq_true, if_false, if_neg s4, if_neg (show ¬ a0 = 2 by omega), if_neg (show ¬ a0 = 3 by omega)]) ?_
            exact Ev.step (f := fun _ => some _) (fun k => by simp only [spec_Push.j1, if_true]) (Ev.now _)
          · simp only [if_true, Bool.not_true]
            refine Ev.step hj ?_
            refine Ev.step (f := fun k => impl_Push.j2 k now due a0 false a0 a1 a2 a3 a4 a5 a6 a7 a8 a9 a10 a11 a12 a0 a1 a2 a3 a4 a5 a6 a7 a8 a9 a10 a11 a12) (fun k => by simp only [impl_Push.j1]; rw [if_neg (show ¬ a0 = 2 by omega), beq_eq_false_iff_ne.2 (show a0 ≠ 3 by omega)]) ?_
            exact Ev.step (f := fun _ => some _) (fun k => by simp only [impl_Push.j2, Bool.false_eq_true, if_false, if_neg s4]) (Ev.now _)
theorem FnExactPush : StFnExactPush.Pure := by
  intro a0 a1 a2 a3 a4 a5 a6 a7 a8 a9 a10 a11 a12 now _ _ _ _ w4 _ _ _ w8 w9 _ _ _ _
  obtain ⟨t, ht, hc⟩ := szStream_ok a0 a1 a2 a3 a4 a5 a6 a7 a8 a9 a10 a11 a12 w4 w8 w9
  have ht' : Ev (fun k => laws_szStream.f k a0 a1 a2 a3 a4 a5 a6 a7 a8 a9 a10 a11 a12 1048576) t := ⟨a9.length + 1, fun k hk => ht k (by omega)⟩
  refine Ev.ex ?_ (r := true)
  unfold laws_FnExactPush.f
  refine Ev.bind ht' ?_
  by_cases hn : t < 0
  · simp only [if_pos hn]; exact Ev.now _
  · simp only [if_neg hn]
    obtain ⟨hl, _⟩ := hc.resolve_left hn
    have hm : (a9.map conLate).length = a9.length := List.length_map _
    have hto : Ev (fun k => laws_toStream.f k a0 a1 a2 a3 a4 a5 a6 a7 a8 a9 a10 a11 a12) (a0, a1, a2, a3, a4, a5, a6, a7, a8, a9.map conLate, a10, a11, a12) := ⟨a9.length + 1, fun k hk => by
      show laws_toStream.f k a0 a1 a2 a3 a4 a5 a6 a7 a8 a9 a10 a11 a12 = _
      unfold laws_toStream.f
      rw [toLateS_ok a9 (by omega) _ (by omega)]
      rfl⟩
    obtain ⟨b0, b1, b2, b3, b4, b5, b6, b7, b8, b10, b11, b12, l, hll, p1, p2⟩ := push_both a0 a1 a2 a3 a4 a5 a6 a7 a8 (a9.map conLate) a10 a11 a12 now (by omega)
    have heq : ∀ (a0 a1 a2 a3 : Int) (a4 : ByteArray) (a5 a6 : Int) (a7 : Bool) (a8 : ByteArray) (a10 : Bool) (a11 a12 : Int), Ev (fun k => laws_eqStream.f k a0 a1 a2 a3 a4 a5 a6 a7 a8 (a9.map conLate) a10 a11 a12 a0 a1 a2 a3 a4 a5 a6 a7 a8 (a9.map conLate) a10 a11 a12) true := fun a0 a1 a2 a3 a4 a5 a6 a7 a8 a10 a11 a12 => ⟨a9.length + 1, fun k hk => eqStream_ok a0 a1 a2 a3 a4 a5 a6 a7 a8 (a9.map conLate) a10 a11 a12 (by omega) k (by omega)⟩
    have hsg : Ev (fun k => laws_eqSegS.f k l l) true := ⟨l.length + 1, fun k hk => eqSegS_ok l (by omega) k (by omega)⟩
    obtain ⟨m0, l0', g0, _, m0e, _⟩ := markheldStream a0 a1 a2 a3 a4 a5 a6 a7 a8 (a9.map conLate) a10 a11 a12 (by omega) 1 (by omega) (by omega)
    obtain ⟨m1, l1', g1, g1', m1e, h1e⟩ := markheldStream b0 b1 b2 b3 b4 b5 b6 b7 b8 (a9.map conLate) b10 b11 b12 (by omega) 1 (by omega) (by omega)
    obtain ⟨m2, l2', g2, _, m2e, h2e⟩ := markheldSeg l (by omega) m1 (by omega) (by omega)
    refine Ev.bind hto ?_
    refine Ev.bind p1 ?_
    refine Ev.bind hto ?_
    refine Ev.bind p2 ?_
    refine Ev.bind (heq _ _ _ _ _ _ _ _ _ _ _ _) ?_
    simp only [if_true]
    refine Ev.bind hsg ?_
    simp only [Bool.not_true]
    refine Ev.step (fun k => by simp only [laws_FnExactPush.j0, Bool.false_eq_true, if_false]; rfl) ?_
    refine Ev.bind hto ?_
    refine Ev.bind (heq _ _ _ _ _ _ _ _ _ _ _ _) ?_
    simp only [if_true]
    refine Ev.bind m0e ?_
    simp only [if_neg (show ¬ m0 < 0 by omega)]
    refine Ev.bind (heq _ _ _ _ _ _ _ _ _ _ _ _) ?_
    simp only [if_true]
    refine Ev.bind hsg ?_
    simp only [Bool.not_true]
    refine Ev.step (fun k => by simp only [laws_FnExactPush.j1, Bool.false_eq_true, if_false]; rfl) ?_
    refine Ev.bind m1e ?_
    refine Ev.bind m2e ?_
    refine Ev.bind h1e ?_
    simp only [if_neg (show ¬ m1 < 0 by omega)]
    refine Ev.bind h2e ?_
    simp only [if_neg (show ¬ m2 < 0 by omega), if_true]
    refine Ev.bind hto ?_
    refine Ev.bind p2 ?_
    refine Ev.bind (heq _ _ _ _ _ _ _ _ _ _ _ _) ?_
    simp only [if_true]
    refine Ev.bind hsg ?_
    simp only [Bool.not_true]
    refine Ev.step (fun k => by simp only [laws_FnExactPush.j2, Bool.false_eq_true, if_false]; rfl) ?_
    refine Ev.bind h1e ?_
    simp only [if_neg (show ¬ m1 < 0 by omega)]
    refine Ev.bind h2e ?_
    simp only [if_neg (show ¬ m2 < 0 by omega), if_true]
    exact Ev.now _

end Go.Proofs.Ytmknnoeggkgkgaa.Pure
