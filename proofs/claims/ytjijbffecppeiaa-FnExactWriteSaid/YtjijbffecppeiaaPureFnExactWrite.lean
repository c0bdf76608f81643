/- The pure statement of the law 'FnExactWrite', proved: over numbers, lists and texts alone. No condition. -/
import Derived.Test.YtjijbffecppeiaaStFnExactWrite
import Derived.Laws.BitsLemmas
namespace Go.Proofs.Ytjijbffecppeiaa.Pure
open Go.RowKit Go.Proofs.Ytjijbffecppeiaa.QFnExactWrite Go.Proofs.YtjijbffecppeiaaW.PrintWords Go.Proofs.YtjijbffecppeiaaW.PrintLast Go.Proofs.YtjijbffecppeiaaW.PrintMore Go.Proofs.Ytjijbffecppeiaa.StFnExactWrite Go.Proofs.Ytjijbffecppeiaa.Opens
set_option linter.unusedVariables false
set_option linter.unusedSimpArgs false

/-! ### base -/
theorem w64 {x : Int} (h0 : -9223372036854775808 ≤ x) (h1 : x ≤ 9223372036854775807) : wrap64 x = x := by unfold wrap64; omega
theorem w64_range (x : Int) : -9223372036854775808 ≤ wrap64 x ∧ wrap64 x ≤ 9223372036854775807 := by unfold wrap64; omega
theorem ip {α : Type} {c : Prop} [Decidable c] {a b : α} (h : c) : (if c then a else b) = a := if_pos h
theorem ineg {α : Type} {c : Prop} [Decidable c] {a b : α} (h : ¬ c) : (if c then a else b) = b := if_neg h
theorem wf_range {n : Int} (h : (Lit.int .i64 n).wf = true) : -9223372036854775808 ≤ n ∧ n ≤ 9223372036854775807 := by
  simp only [Lit.wf, IntKind.min, IntKind.max, IntKind.signed, IntKind.bits, Bool.and_eq_true, decide_eq_true_eq, if_true] at h
  omega
theorem wf_u8 {n : Int} (h : (Lit.int .u8 n).wf = true) : 0 ≤ n ∧ n ≤ 255 := by
  simp [Lit.wf, IntKind.min, IntKind.max, IntKind.signed, IntKind.bits] at h
  omega
theorem and_low (x : Int) (i : Nat) (hi : i ≤ 62) : Go.bits .and .i64 x (2 ^ i - 1) = x % 2 ^ i := by
  have hpos : 0 < 2 ^ i := Nat.two_pow_pos i
  have hc : ((2 : Int) ^ i - 1) = ((2 ^ i - 1 : Nat) : Int) := by rw [Int.natCast_sub hpos]; simp
  have h62 : 2 ^ i ≤ 2 ^ 62 := Nat.pow_le_pow_right (by decide) hi
  have hlt : 2 ^ i - 1 < 2 ^ 64 := by omega
  have hd : (2 ^ i : Nat) ∣ 2 ^ 64 := Nat.pow_dvd_pow 2 (by omega)
  rw [hc]
  simp only [Go.bits, BitVec.ofInt_natCast, BitVec.toNat_and, BitVec.toNat_ofNat, BitVec.toNat_ofInt]
  simp only [show IntKind.i64.bits = 64 from rfl]
  rw [Nat.mod_eq_of_lt hlt, Nat.and_two_pow_sub_one_eq_mod]
  have h1 : (((x % ((2 ^ 64 : Nat) : Int)).toNat % 2 ^ i : Nat) : Int) = x % 2 ^ i := by
    rw [Int.natCast_emod, Int.toNat_of_nonneg (Int.emod_nonneg _ (by decide))]
    rw [Int.natCast_pow]
    exact Int.emod_emod_of_dvd _ (by
      have : (((2 ^ i : Nat) : Int)) ∣ ((2 ^ 64 : Nat) : Int) := Int.natCast_dvd_natCast.2 hd
      simpa using this)
  rw [h1]
  have h2 : 0 ≤ x % 2 ^ i := Int.emod_nonneg _ (by
    have : (0 : Int) < 2 ^ i := by exact_mod_cast hpos
    omega)
  have h3 : x % 2 ^ i < 2 ^ i := Int.emod_lt_of_pos _ (by exact_mod_cast hpos)
  have h4 : (2 : Int) ^ i ≤ 2 ^ 62 := by exact_mod_cast h62
  rw [IntKind.wrap_i64]
  omega
theorem and255 (x : Int) : Go.bits .and .i64 x 255 = x % 256 := and_low x 8 (by omega)
theorem and65535 (x : Int) : Go.bits .and .i64 x 65535 = x % 65536 := and_low x 16 (by omega)
theorem and30 (x : Int) : Go.bits .and .i64 x 1073741823 = x % 1073741824 := and_low x 30 (by omega)
theorem and1 (x : Int) : Go.bits .and .i64 x 1 = x % 2 := and_low x 1 (by omega)
/-- A law's last step: both are one. -/
theorem same_end {v : Bool} : (if (v != v) = true then some false else some true : Option Bool) = some true := by simp
theorem Ev.ex {α : Type} {g : Nat → Option α} {r : α} (h : Ev g r) : ∃ k, g k = some r := h.rounds
theorem Ev.from_ {α : Type} {g : Nat → Option α} {r : α} (K : Nat) (h : ∀ k, K ≤ k → g k = some r) : Ev g r := ⟨K, h⟩
theorem Ev.both {α β : Type} {g : Nat → Option α} {f : Nat → Option β} {r : α} {q : β} (h : Ev g r) (h' : Ev f q) : ∃ K, ∀ k, K ≤ k → g k = some r ∧ f k = some q := by
  obtain ⟨K, h⟩ := h
  obtain ⟨K', h'⟩ := h'
  exact ⟨K + K', fun k hk => ⟨h k (by omega), h' k (by omega)⟩⟩

/-! ### in -/
def rng (a b c : Int) : Bool := decide (b ≤ a) && decide (a ≤ c)
theorem rng_iff {a b c : Int} : rng a b c = true ↔ b ≤ a ∧ a ≤ c := by simp [rng]
theorem rng_false {a b c : Int} : rng a b c = false ↔ ¬ (b ≤ a ∧ a ≤ c) := by rw [← rng_iff]; simp
theorem in_eq (a b c : Int) : spec_l01In.f a b c = some (rng a b c) := by
  unfold spec_l01In.f rng
  by_cases h : b ≤ a
  · rw [if_pos h]; simp [h]
  · rw [if_neg h]; simp [h]
theorem within_eq (a b c : Int) : impl_within.f a b c = some (rng a b c) := by
  unfold impl_within.f rng
  by_cases h : b ≤ a
  · rw [if_pos h]; simp [h]
  · rw [if_neg h]; simp [h]

/-! ### loops -/
/-- A loop upward whose rounds do nothing but go on. -/
theorem up_loop {β : Type} {F : Nat → Int → Option β} {n : Nat} {r : β} (hs : ∀ k (j : Nat), j < n → F (k + 1) (j : Int) = F k ((j + 1 : Nat) : Int)) (he : ∀ k, F (k + 1) (n : Int) = some r) :
    ∀ (d j : Nat), n - j = d → j ≤ n → ∀ k, d < k → F k (j : Int) = some r := by
  intro d
  induction d with
  | zero =>
    intro j hd hj k hk
    obtain ⟨k, rfl⟩ : ∃ m, k = m + 1 := ⟨k - 1, by omega⟩
    obtain rfl : j = n := by omega
    exact he k
  | succ d ih =>
    intro j hd hj k hk
    obtain ⟨k, rfl⟩ : ∃ m, k = m + 1 := ⟨k - 1, by omega⟩
    rw [hs k j (by omega)]
    exact ih (j + 1) (by omega) (by omega) k (by omega)
/-- A loop that turns each element of a list into one of a list that was made. -/
theorem map_loop {α β : Type} {F : Nat → List β → Int → Option (List β)} {g : α → β} {l : List α}
    (hs : ∀ k (acc : List β) (j : Nat) (hj : j < l.length), acc.length = l.length → F (k + 1) acc (j : Int) = F k (acc.set j (g l[j])) ((j + 1 : Nat) : Int))
    (he : ∀ k (acc : List β), F (k + 1) acc (l.length : Int) = some acc) :
    ∀ (d j : Nat) (acc : List β), l.length - j = d → j ≤ l.length → acc.length = l.length → (∀ i, i < j → acc[i]? = (l[i]?).map g) → ∀ k, d < k → F k acc (j : Int) = some (l.map g) := by
  intro d
  induction d with
  | zero =>
    intro j acc hd hj hl ha k hk
    obtain ⟨k, rfl⟩ : ∃ m, k = m + 1 := ⟨k - 1, by omega⟩
    obtain rfl : j = l.length := by omega
    rw [he]
    congr 1
    apply List.ext_getElem?
    intro i
    rw [List.getElem?_map]
    by_cases hi : i < l.length
    · exact ha i hi
    · rw [List.getElem?_eq_none (by omega), List.getElem?_eq_none (by omega)]; rfl
  | succ d ih =>
    intro j acc hd hj hl ha k hk
    obtain ⟨k, rfl⟩ : ∃ m, k = m + 1 := ⟨k - 1, by omega⟩
    have hjl : j < l.length := by omega
    rw [hs k acc j hjl hl]
    refine ih (j + 1) _ (by omega) (by omega) (by rw [List.length_set]; exact hl) (fun i hi => ?_) k (by omega)
    by_cases hij : i = j
    · subst hij
      rw [List.getElem?_set_self (by omega), List.getElem?_eq_getElem hjl]
      rfl
    · rw [List.getElem?_set_ne (fun h => hij h.symm)]
      exact ha i (by omega)
theorem getD_at {α : Type} {l : List α} {j : Nat} (z : α) (h : j < l.length) : l.getD (j : Int).toNat z = l[j] := by
  simp [List.getD_eq_getElem?_getD, List.getElem?_eq_getElem h]

/-! ### streamok -/
def lateB (l : List S112) : Bool := l.all (fun x => rng x.f0 0 65535 && rng (x.f1.size : Int) 1 8)
def midB (wait : ByteArray) (sent fin : Int) (inn : ByteArray) (n : Nat) (due times : Int) : Bool :=
  (!decide (fin = 2) || decide (sent = (wait.size : Int))) && (!decide (fin = 3) || decide (wait.toList = [])) && decide (inn.size ≤ 1000) && decide (n ≤ 8) && rng due 0 1000000000 && rng times 0 12
def hdrB (st iss una rcv : Int) (wait : ByteArray) (sent fin : Int) : Bool :=
  rng st 0 4 && rng iss 0 65535 && rng una 0 65535 && rng rcv 0 65535 && decide (wait.size ≤ 200) && rng sent 0 (min (wait.size : Int) 24) && rng fin 0 3
def streamB (st iss una rcv : Int) (wait : ByteArray) (sent fin : Int) (pf : Bool) (inn : ByteArray) (late : List S112) (owe : Bool) (due times : Int) : Bool :=
  hdrB st iss una rcv wait sent fin && midB wait sent fin inn late.length due times && lateB late
theorem spec_late_ok (st iss una rcv : Int) (wait : ByteArray) (sent fin : Int) (pf : Bool) (inn : ByteArray) (late : List S112) (owe : Bool) (due times : Int) (hl : late.length ≤ 2000000) :
    ∀ (d j : Nat), late.length - j = d → j ≤ late.length → ∀ k, d < k → spec_StreamOk.l0 k (j : Int) st iss una rcv wait sent fin pf inn late owe due times = some (lateB (late.drop j)) := by
  intro d
  induction d with
  | zero =>
    intro j hd hj k hk
    obtain ⟨k, rfl⟩ : ∃ m, k = m + 1 := ⟨k - 1, by omega⟩
    simp only [spec_StreamOk.l0]
    rw [if_neg (by omega), List.drop_of_length_le (by omega)]
    rfl
  | succ d ih =>
    intro j hd hj k hk
    obtain ⟨k, rfl⟩ : ∃ m, k = m + 1 := ⟨k - 1, by omega⟩
    have hjl : j < late.length := by omega
    have hget : rd_T112 late (j : Int) = late[j] := by unfold rd_T112; exact getD_at _ hjl
    have hdrop : late.drop j = late[j] :: late.drop (j + 1) := List.drop_eq_getElem_cons hjl
    have ih := ih (j + 1) (by omega) (by omega) k (by omega)
    simp only [spec_StreamOk.l0, in_eq, Option.bind_some]
    rw [if_pos (by omega), if_pos (by omega), hget, w64 (x := (j : Int) + 1) (by omega) (by omega), hdrop]
    rw [show ((j : Int) + 1) = ((j + 1 : Nat) : Int) from rfl, ih]
    unfold lateB
    rw [List.all_cons]
    cases rng late[j].f0 0 65535 <;> cases rng (late[j].f1.size : Int) 1 8 <;> simp
theorem spec_mid_ok (st iss una rcv : Int) (wait : ByteArray) (sent fin : Int) (pf : Bool) (inn : ByteArray) (late : List S112) (owe : Bool) (due times : Int) (k : Nat) :
    spec_StreamOk.j0 (k + 1) false st iss una rcv wait sent fin pf inn late owe due times = spec_StreamOk.j1 k (!midB wait sent fin inn late.length due times) st iss una rcv wait sent fin pf inn late owe due times := by
  simp only [spec_StreamOk.j0, in_eq, Option.bind_some]
  unfold midB
  have h1 : ((inn.size : Int) > 1000) ↔ ¬ (inn.size ≤ 1000) := by omega
  have h2 : ((late.length : Int) > 8) ↔ ¬ (late.length ≤ 8) := by omega
  by_cases a1 : fin = 2 <;> by_cases a2 : fin = 3 <;> by_cases a3 : sent = (wait.size : Int) <;> by_cases a4 : wait.toList = [] <;> by_cases a5 : inn.size ≤ 1000 <;> by_cases a6 : late.length ≤ 8 <;>
    first
    | (exfalso; omega)
    | (cases rng due 0 1000000000 <;> simp [a1, a2, a3, a4, a5, a6, h1, h2])
theorem spec_streamOk_eq (st iss una rcv : Int) (wait : ByteArray) (sent fin : Int) (pf : Bool) (inn : ByteArray) (late : List S112) (owe : Bool) (due times : Int) (hl : late.length ≤ 2000000) :
    ∀ k, late.length + 3 < k → spec_StreamOk.f k st iss una rcv wait sent fin pf inn late owe due times = some (streamB st iss una rcv wait sent fin pf inn late owe due times) := by
  intro k hk
  obtain ⟨k, rfl⟩ : ∃ m, k = m + 2 := ⟨k - 2, by omega⟩
  have hT : ∀ m, 0 < m → spec_StreamOk.j0 m true st iss una rcv wait sent fin pf inn late owe due times = some false := by
    intro m hm
    obtain ⟨m, rfl⟩ : ∃ q, m = q + 1 := ⟨m - 1, by omega⟩
    simp [spec_StreamOk.j0]
  have hF : spec_StreamOk.j0 (k + 2) false st iss una rcv wait sent fin pf inn late owe due times = some (midB wait sent fin inn late.length due times && lateB late) := by
    rw [spec_mid_ok]
    simp only [spec_StreamOk.j1]
    cases midB wait sent fin inn late.length due times
    · simp
    · have := spec_late_ok st iss una rcv wait sent fin pf inn late owe due times hl late.length 0 (by omega) (by omega) k (by omega)
      rw [List.drop_zero] at this
      rw [show ((0 : Nat) : Int) = 0 from rfl] at this
      simp [this]
  have hm : spec_l13Less.f (wait.size : Int) 24 = some (min (wait.size : Int) 24) := by
    unfold spec_l13Less.f
    by_cases h : (wait.size : Int) < 24
    · rw [if_pos h]; congr 1; omega
    · rw [if_neg h]; congr 1; omega
  unfold spec_StreamOk.f streamB hdrB
  simp only [in_eq, Option.bind_some, hm, hT (k + 2) (by omega)]
  have h1 : ((wait.size : Int) > 200) ↔ ¬ (wait.size ≤ 200) := by omega
  cases rng st 0 4 <;> cases rng iss 0 65535 <;> cases rng una 0 65535 <;> cases rng rcv 0 65535 <;> by_cases h : wait.size ≤ 200 <;> simp only [if_true, if_false, Bool.false_eq_true, Bool.false_and, Bool.true_and, h1, h, not_true, not_false_iff, decide_true, decide_false, Bool.and_false, Bool.and_true]
  cases rng sent 0 (min (wait.size : Int) 24) <;> cases rng fin 0 3 <;> simp [hF, hT (k + 2) (by omega)]
theorem impl_mid_ok (st iss una rcv : Int) (wait : ByteArray) (sent fin : Int) (pf : Bool) (inn : ByteArray) (late : List S112) (owe : Bool) (due times : Int) (k : Nat) :
    impl_StreamOk.j1 (k + 1) false st iss una rcv wait sent fin pf inn late owe due times = some (rng fin 0 3 && rng sent 0 (min (wait.size : Int) 24) && midB wait sent fin inn late.length due times) := by
  have hmn : mn (wait.size : Int) 24 = min (wait.size : Int) 24 := by unfold mn; split <;> omega
  simp only [impl_StreamOk.j1, within_eq, Option.bind_some, hmn]
  unfold midB
  have h1 : ((inn.size : Int) ≤ 1000) ↔ (inn.size ≤ 1000) := by omega
  have h2 : ((late.length : Int) ≤ 8) ↔ (late.length ≤ 8) := by omega
  cases rng fin 0 3
  · simp
  cases rng sent 0 (min (wait.size : Int) 24)
  · by_cases a1 : fin = 2 <;> by_cases a2 : fin = 3 <;> by_cases a3 : sent = (wait.size : Int) <;> by_cases a5 : inn.size ≤ 1000 <;> simp [a1, a2, a3, a5, h1]
  by_cases a1 : fin = 2 <;> by_cases a2 : fin = 3 <;> by_cases a3 : sent = (wait.size : Int) <;> by_cases a4 : wait.toList = [] <;> by_cases a5 : inn.size ≤ 1000 <;> by_cases a6 : late.length ≤ 8 <;>
    first
    | (exfalso; omega)
    | (cases rng due 0 1000000000 <;> simp [a1, a2, a3, a4, a5, a6, h1, h2])
theorem impl_end_ok (st iss una rcv : Int) (wait : ByteArray) (sent fin : Int) (pf : Bool) (inn : ByteArray) (late : List S112) (owe : Bool) (due times : Int) (k : Nat) :
    ((impl_within.f st 0 4).bind fun t148 => (if t148 = true then ((impl_isWord.f iss).bind fun t149 => (if t149 = true then ((impl_isWord.f una).bind fun t150 => (if t150 = true then ((impl_isWord.f rcv).bind fun t151 => (if t151 = true then (impl_StreamOk.j1 (k + 1) (decide ((wait.size : Int) > 200)) st iss una rcv wait sent fin pf inn late owe due times) else (impl_StreamOk.j1 (k + 1) true st iss una rcv wait sent fin pf inn late owe due times))) else (impl_StreamOk.j1 (k + 1) true st iss una rcv wait sent fin pf inn late owe due times))) else (impl_StreamOk.j1 (k + 1) true st iss una rcv wait sent fin pf inn late owe due times))) else (impl_StreamOk.j1 (k + 1) true st iss una rcv wait sent fin pf inn late owe due times))) =
    some (hdrB st iss una rcv wait sent fin && midB wait sent fin inn late.length due times) := by
  have hT : impl_StreamOk.j1 (k + 1) true st iss una rcv wait sent fin pf inn late owe due times = some false := by simp [impl_StreamOk.j1]
  have h1 : ((wait.size : Int) > 200) ↔ ¬ (wait.size ≤ 200) := by omega
  unfold hdrB impl_isWord.f
  simp only [within_eq, Option.bind_some, hT]
  cases rng st 0 4
  · simp
  cases rng iss 0 65535
  · simp
  cases rng una 0 65535
  · simp
  cases rng rcv 0 65535
  · simp
  by_cases h : wait.size ≤ 200
  · simp only [h1, h, not_true, decide_false, impl_mid_ok, if_true]
    cases rng fin 0 3 <;> cases rng sent 0 (min (wait.size : Int) 24) <;> simp
  · simp [h1, h, hT]
theorem impl_streamOk_loop (st iss una rcv : Int) (wait : ByteArray) (sent fin : Int) (pf : Bool) (inn : ByteArray) (late : List S112) (owe : Bool) (due times : Int) (hl : late.length ≤ 2000000) :
    ∀ (d j : Nat), late.length - j = d → j ≤ late.length → ∀ k, d + 2 < k → impl_StreamOk.l0 k late (late.length : Int) (j : Int) st iss una rcv wait sent fin pf inn late owe due times = some (lateB (late.drop j) && (hdrB st iss una rcv wait sent fin && midB wait sent fin inn late.length due times)) := by
  intro d
  induction d with
  | zero =>
    intro j hd hj k hk
    obtain ⟨k, rfl⟩ : ∃ m, k = m + 2 := ⟨k - 2, by omega⟩
    simp only [impl_StreamOk.l0]
    rw [if_neg (by omega), List.drop_of_length_le (by omega), impl_end_ok]
    rfl
  | succ d ih =>
    intro j hd hj k hk
    obtain ⟨k, rfl⟩ : ∃ m, k = m + 1 := ⟨k - 1, by omega⟩
    have hjl : j < late.length := by omega
    have hget : rd_T112 late (j : Int) = late[j] := by unfold rd_T112; exact getD_at _ hjl
    have hdrop : late.drop j = late[j] :: late.drop (j + 1) := List.drop_eq_getElem_cons hjl
    have ih := ih (j + 1) (by omega) (by omega) k (by omega)
    simp only [impl_StreamOk.l0, impl_isWord.f, within_eq, Option.bind_some]
    rw [if_pos (by omega), if_pos (by omega), if_pos (by omega), hget, w64 (x := (j : Int) + 1) (by omega) (by omega), hdrop]
    rw [show ((j : Int) + 1) = ((j + 1 : Nat) : Int) from rfl, ih]
    unfold lateB
    rw [List.all_cons]
    cases rng late[j].f0 0 65535 <;> cases rng (late[j].f1.size : Int) 1 8 <;> simp
theorem impl_streamOk_eq (st iss una rcv : Int) (wait : ByteArray) (sent fin : Int) (pf : Bool) (inn : ByteArray) (late : List S112) (owe : Bool) (due times : Int) (hl : late.length ≤ 2000000) :
    ∀ k, late.length + 3 < k → impl_StreamOk.f k st iss una rcv wait sent fin pf inn late owe due times = some (streamB st iss una rcv wait sent fin pf inn late owe due times) := by
  intro k hk
  unfold impl_StreamOk.f
  have := impl_streamOk_loop st iss una rcv wait sent fin pf inn late owe due times hl late.length 0 (by omega) (by omega) k (by omega)
  rw [List.drop_zero] at this
  rw [show ((0 : Nat) : Int) = 0 from rfl] at this
  rw [this]
  unfold streamB
  rw [Bool.and_comm]

/-! ### sz -/
theorem sz_loop {α : Type} {F : Nat → Int → Int → Option Int} {g : α → Int → Option Int} {l : List α} {P : α → Prop}
    (hs : ∀ k (left : Int) (j : Nat) (hj : j < l.length), l.length ≤ 2000000 → F (k + 1) left (j : Int) = (g l[j] left).bind fun t => if t < 0 then some (-1) else F k t ((j + 1 : Nat) : Int))
    (he : ∀ k (left : Int), F (k + 1) left (l.length : Int) = some left)
    (hg : ∀ x ∈ l, ∀ left : Int, 0 ≤ left → left ≤ 1048576 → ∃ t, g x left = some t ∧ (t < 0 ∨ (0 ≤ t ∧ t ≤ left ∧ P x))) (hl : l.length ≤ 2000000) :
    ∀ (d j : Nat) (left : Int), l.length - j = d → j ≤ l.length → 0 ≤ left → left ≤ 1048576 → ∃ t, (∀ k, d < k → F k left (j : Int) = some t) ∧ (t < 0 ∨ (0 ≤ t ∧ t ≤ left ∧ ∀ i (hi : i < l.length), j ≤ i → P l[i])) := by
  intro d
  induction d with
  | zero =>
    intro j left hd hj h0 h1
    obtain rfl : j = l.length := by omega
    refine ⟨left, fun k hk => ?_, .inr ⟨h0, Int.le_refl _, fun i hi h => absurd hi (by omega)⟩⟩
    obtain ⟨k, rfl⟩ : ∃ m, k = m + 1 := ⟨k - 1, by omega⟩
    exact he k left
  | succ d ih =>
    intro j left hd hj h0 h1
    have hjl : j < l.length := by omega
    obtain ⟨t, ht, hc⟩ := hg l[j] (List.getElem_mem _) left h0 h1
    rcases hc with hc | ⟨h2, h3, hP⟩
    · refine ⟨-1, fun k hk => ?_, .inl (by omega)⟩
      obtain ⟨k, rfl⟩ : ∃ m, k = m + 1 := ⟨k - 1, by omega⟩
      rw [hs k left j hjl hl, ht]
      simp only [Option.bind_some]
      rw [if_pos hc]
    · obtain ⟨t2, ih1, ih2⟩ := ih (j + 1) t (by omega) (by omega) h2 (by omega)
      refine ⟨t2, fun k hk => ?_, ?_⟩
      · obtain ⟨k, rfl⟩ : ∃ m, k = m + 1 := ⟨k - 1, by omega⟩
        rw [hs k left j hjl hl, ht]
        simp only [Option.bind_some]
        rw [if_neg (by omega)]
        exact ih1 k (by omega)
      · rcases ih2 with h4 | ⟨h4, h5, h6⟩
        · exact .inl h4
        · refine .inr ⟨h4, by omega, fun i hi hji => ?_⟩
          by_cases hij : i = j
          · subst hij; exact hP
          · exact h6 i hi (by omega)

/-! ### c_Late -/
def conLate (x : S170) : S112 := ⟨x.f0, x.f1⟩
theorem toLateS_ok (l : List S170) (hl : l.length ≤ 1048576) : ∀ k, l.length < k → laws_toLateS.f k l = some (l.map conLate) := by
  intro k hk
  unfold laws_toLateS.f
  rw [if_pos (by omega), if_pos (by omega)]
  refine map_loop (F := fun k acc j => laws_toLateS.l0 k l acc j) ?_ ?_ l.length 0 _ (by omega) (by omega) (by simp) (fun i hi => absurd hi (by omega)) k hk
  · intro k acc j hj ha
    simp only [laws_toLateS.l0, laws_toLate.f, Option.bind_some]
    rw [if_pos (by omega), if_pos (by omega), if_pos (by omega), w64 (by omega) (by omega)]
    unfold rd_T170
    rw [getD_at _ hj]
    rfl
  · intro k acc
    simp only [laws_toLateS.l0]
    rw [if_neg (by omega)]
theorem szLateS_ok (l : List S170) (hl : l.length ≤ maxLen) (hw : ∀ x ∈ l, wf170 x) (left : Int) (h0 : 0 ≤ left) (h1 : left ≤ 1048576) :
    ∃ t, (∀ k, l.length < k → laws_szLateS.f k l left = some t) ∧ (t < 0 ∨ (0 ≤ t ∧ t ≤ left ∧ l.length ≤ 1048576 ∧ ∀ x ∈ l, x.f1.size ≤ 1048576)) := by
  simp only [maxLen] at hl
  unfold laws_szLateS.f
  rw [w64 (by omega) (by omega)]
  by_cases hc : left - (l.length : Int) < 0
  · exact ⟨-1, fun k _ => by rw [if_pos hc], .inl (by omega)⟩
  · simp only [if_neg hc]
    have hgg : ∀ x ∈ l, ∀ left : Int, 0 ≤ left → left ≤ 1048576 → ∃ t, laws_szLate.f x.f0 x.f1 left = some t ∧ (t < 0 ∨ (0 ≤ t ∧ t ≤ left ∧ x.f1.size ≤ 1048576)) := by
      intro x hx left h0 h1
      have hw := hw x hx
      have h1 : x.f1.size ≤ 140737488351232 := hw.2
      unfold laws_szLate.f
      rw [w64 (by omega) (by omega)]
      by_cases hc : left - (x.f1.size : Int) < 0
      · rw [if_pos hc]; exact ⟨-1, rfl, .inl (by omega)⟩
      · rw [if_neg hc]; exact ⟨_, rfl, .inr ⟨by omega, by omega, by omega⟩⟩
    obtain ⟨t, ht, hr⟩ := sz_loop (F := fun k left j => laws_szLateS.l0 k l left j) (g := fun x left => laws_szLate.f x.f0 x.f1 left) (P := fun x : S170 => x.f1.size ≤ 1048576) (l := l) (fun k left j hj hl => by
      simp only [laws_szLateS.l0]
      rw [if_pos (by omega), if_pos (by omega), w64 (x := (j : Int) + 1) (by omega) (by omega)]
      unfold rd_T170
      rw [getD_at _ hj]
      rfl) (fun k left => by simp only [laws_szLateS.l0]; rw [if_neg (by omega)]) hgg (by omega) l.length 0 (left - (l.length : Int)) (by omega) (by omega) (by omega) (by omega)
    · refine ⟨t, ht, ?_⟩
      rcases hr with hr | ⟨h2, h3, h4⟩
      · exact .inl hr
      · refine .inr ⟨h2, by omega, by omega, fun x hx => ?_⟩
        obtain ⟨i, hi, rfl⟩ := List.mem_iff_getElem.1 hx
        exact h4 i hi (by omega)

/-! ### mark -/
theorem mt_loop : ∀ (d : Nat) (x : Int) (s : ByteArray), 0 ≤ x → x < 10 ^ d → x ≤ 9223372036854775807 → s.size + d ≤ 1000 → ∃ t, ∀ k, d < k → laws_markText.l0 k x s = some t := by
  intro d
  induction d with
  | zero =>
    intro x s h0 h1 h2 hs
    refine ⟨(⟨#[109]⟩ : ByteArray) ++ s, fun k hk => ?_⟩
    obtain ⟨k, rfl⟩ : ∃ m, k = m + 1 := ⟨k - 1, by omega⟩
    simp only [laws_markText.l0]
    rw [if_neg (by omega), if_pos (by omega)]
  | succ d ih =>
    intro x s h0 h1 h2 hs
    by_cases hx : x > 0
    · have h10 : x / 10 < 10 ^ d := by
        have : (10 : Int) ^ (d + 1) = 10 ^ d * 10 := Int.pow_succ 10 d
        omega
      obtain ⟨t, ih⟩ := ih (x / 10) (strOfNums [(48 + x % 10) % 256] ++ s) (by omega) h10 (by omega) (by rw [ByteArray.size_append, strOfNums_size]; simp only [List.length_cons, List.length_nil]; omega)
      refine ⟨t, fun k hk => ?_⟩
      obtain ⟨k, rfl⟩ : ∃ m, k = m + 1 := ⟨k - 1, by omega⟩
      simp only [laws_markText.l0]
      rw [if_pos hx, Int.tmod_eq_emod_of_nonneg h0, Int.tdiv_eq_ediv_of_nonneg h0, w64 (x := 48 + x % 10) (by omega) (by omega)]
      simp only [Option.bind_some]
      rw [if_pos (by rw [strOfNums_size]; simp only [List.length_cons, List.length_nil]; omega)]
      rw [w64 (by omega) (by omega)]
      exact ih k (by omega)
    · refine ⟨(⟨#[109]⟩ : ByteArray) ++ s, fun k hk => ?_⟩
      obtain ⟨k, rfl⟩ : ∃ m, k = m + 1 := ⟨k - 1, by omega⟩
      simp only [laws_markText.l0]
      rw [if_neg hx, if_pos (by omega)]
theorem markText_ok (n : Int) (h0 : 0 ≤ n) (h1 : n < 1000000000000000) : ∃ t, ∀ k, 20 ≤ k → laws_markText.f k n = some t := by
  by_cases hn : n ≤ 0
  · exact ⟨_, fun k _ => by unfold laws_markText.f; rw [if_pos hn]⟩
  · obtain ⟨t, ht⟩ := mt_loop 15 n ⟨#[]⟩ h0 (by omega) (by omega) (by decide)
    exact ⟨t, fun k hk => by unfold laws_markText.f; rw [if_neg hn]; exact ht k (by omega)⟩
def mt (n : Int) : ByteArray := (laws_markText.f 20 n).getD ⟨#[]⟩
theorem markText_eq {k : Nat} {n : Int} (hk : 20 ≤ k) (h0 : 0 ≤ n) (h1 : n < 1000000000000000) : laws_markText.f k n = some (mt n) := by
  obtain ⟨t, ht⟩ := markText_ok n h0 h1
  unfold mt
  rw [ht k hk, ht 20 (by omega)]
  rfl
theorem mark_loop {α : Type} {F : Nat → List α → Int → Int → Option (Int × List α)} {G : Int → α} {w : Nat}
    (hs : ∀ k (l : List α) (c : Int) (j : Nat), j < l.length → l.length ≤ 2000000 → 20 ≤ k → 0 ≤ c → c ≤ 100000000000000 → F (k + 1) l c (j : Int) = F k (l.set j (G c)) (c + w) ((j + 1 : Nat) : Int))
    (he : ∀ k (l : List α) (c : Int), F (k + 1) l c (l.length : Int) = some (c, l)) :
    ∀ (d j : Nat) (l : List α) (c : Int), l.length - j = d → j ≤ l.length → l.length ≤ 2000000 → 0 ≤ c → c + w * d ≤ 100000000000000 →
    ∃ l' : List α, l'.length = l.length ∧ (∀ i, i < j → l'[i]? = l[i]?) ∧ (∀ i, j ≤ i → i < l.length → l'[i]? = some (G (c + w * ((i - j : Nat) : Int)))) ∧ ∀ k, d + 20 < k → F k l c (j : Int) = some (c + w * d, l') := by
  intro d
  induction d with
  | zero =>
    intro j l c hd hj hl h0 h1
    obtain rfl : j = l.length := by omega
    refine ⟨l, rfl, fun _ _ => rfl, fun i h2 h3 => by omega, fun k hk => ?_⟩
    obtain ⟨k, rfl⟩ : ∃ m, k = m + 1 := ⟨k - 1, by omega⟩
    rw [he]
    simp
  | succ d ih =>
    intro j l c hd hj hl h0 h1
    have hmul : (w : Int) * ((d + 1 : Nat) : Int) = w + w * d := by rw [Int.natCast_succ, Int.mul_add, Int.mul_one, Int.add_comm]
    have hwd : 0 ≤ (w : Int) * (d : Int) := Int.mul_nonneg (by omega) (by omega)
    obtain ⟨l', hl', h2, h3, h4⟩ := ih (j + 1) (l.set j (G c)) (c + w) (by rw [List.length_set]; omega) (by rw [List.length_set]; omega) (by rw [List.length_set]; exact hl) (by omega) (by omega)
    rw [List.length_set] at hl' h3
    refine ⟨l', hl', fun i hi => ?_, fun i hi1 hi2 => ?_, fun k hk => ?_⟩
    · rw [h2 i (by omega), List.getElem?_set_ne (by omega)]
    · by_cases hij : i = j
      · subst hij
        rw [h2 i (by omega), List.getElem?_set_self (by omega)]
        simp
      · rw [h3 i (by omega) hi2]
        congr 2
        have : ((i - j : Nat) : Int) = ((i - (j + 1) : Nat) : Int) + 1 := by omega
        rw [this, Int.mul_add, Int.mul_one]
        omega
    · obtain ⟨k, rfl⟩ : ∃ m, k = m + 1 := ⟨k - 1, by omega⟩
      rw [hs k l c j (by omega) hl (by omega) h0 (by omega), h4 k (by omega), hmul]
      congr 2
      omega
theorem held_loop {α : Type} {F : Nat → List α → Int → Int → Option Int} {G : Int → α} {w : Nat} {l : List α}
    (hs : ∀ k (c : Int) (j : Nat) (hj : j < l.length), l.length ≤ 2000000 → 20 ≤ k → 0 ≤ c → c ≤ 100000000000000 → l[j] = G c → F (k + 1) l c (j : Int) = F k l (c + w) ((j + 1 : Nat) : Int))
    (he : ∀ k (c : Int), F (k + 1) l c (l.length : Int) = some c) (hl : l.length ≤ 2000000) :
    ∀ (d j : Nat) (c : Int), l.length - j = d → j ≤ l.length → 0 ≤ c → c + w * d ≤ 100000000000000 → (∀ i, j ≤ i → i < l.length → l[i]? = some (G (c + w * ((i - j : Nat) : Int)))) → ∀ k, d + 20 < k → F k l c (j : Int) = some (c + w * d) := by
  intro d
  induction d with
  | zero =>
    intro j c hd hj h0 h1 hG k hk
    obtain rfl : j = l.length := by omega
    obtain ⟨k, rfl⟩ : ∃ m, k = m + 1 := ⟨k - 1, by omega⟩
    rw [he]
    simp
  | succ d ih =>
    intro j c hd hj h0 h1 hG k hk
    obtain ⟨k, rfl⟩ : ∃ m, k = m + 1 := ⟨k - 1, by omega⟩
    have hjl : j < l.length := by omega
    have hmul : (w : Int) * ((d + 1 : Nat) : Int) = w + w * d := by rw [Int.natCast_succ, Int.mul_add, Int.mul_one, Int.add_comm]
    have hwd : 0 ≤ (w : Int) * (d : Int) := Int.mul_nonneg (by omega) (by omega)
    have hj0 : l[j] = G c := by
      have := hG j (Nat.le_refl _) hjl
      rw [List.getElem?_eq_getElem hjl] at this
      simpa using this
    rw [hs k c j hjl hl (by omega) h0 (by omega) hj0, ih (j + 1) (c + w) (by omega) (by omega) (by omega) (by omega) (fun i h2 h3 => ?_) k (by omega), hmul]
    · congr 1; omega
    · rw [hG i (by omega) h3]
      congr 2
      have : ((i - j : Nat) : Int) = ((i - (j + 1) : Nat) : Int) + 1 := by omega
      rw [this, Int.mul_add, Int.mul_one]
      omega

/-! ### m_Late -/
def mkLate (c : Int) : S112 := ⟨c, mt (c + 1)⟩
theorem rdset_Late (l : List S112) (j : Nat) (a : S112) (h : j < l.length) : rd_T112 (l.set j a) (j : Int) = a := by
  unfold rd_T112
  rw [getD_at _ (by rw [List.length_set]; exact h), List.getElem_set_self]
theorem markLateS_ok (l : List S112) (c : Int) (hl : l.length ≤ 2000000) (h0 : 0 ≤ c) (h1 : c + 2 * l.length ≤ 100000000000000) :
    ∃ l' : List S112, l'.length = l.length ∧ (∀ i, i < l.length → l'[i]? = some (mkLate (c + 2 * (i : Int)))) ∧ ∀ k, l.length + 20 < k → laws_markLateS.f k l c = some (c + 2 * l.length, l') := by
  obtain ⟨l', hl', _, h3, h4⟩ := mark_loop (F := fun k l c j => laws_markLateS.l0 k l c j) (G := mkLate) (w := 2) (fun k l c j hj hl hk h0 h1 => by
      simp (disch := omega) only [laws_markLateS.l0, ip, Option.bind_some, w64, markText_eq, rdset_Late, List.set_set, Int.toNat_natCast]
      unfold mkLate
      congr 1 <;> omega) (fun k l c => by simp only [laws_markLateS.l0]; rw [if_neg (by omega)]) l.length 0 l c (by omega) (by omega) hl h0 h1
  exact ⟨l', hl', fun i hi => by simpa using h3 i (by omega) hi, h4⟩
theorem heldLateS_ok (l : List S112) (c : Int) (hl : l.length ≤ 2000000) (h0 : 0 ≤ c) (h1 : c + 2 * l.length ≤ 100000000000000) (hG : ∀ i, i < l.length → l[i]? = some (mkLate (c + 2 * (i : Int)))) :
    ∀ k, l.length + 20 < k → laws_heldLateS.f k l c = some (c + 2 * l.length) := by
  exact held_loop (F := fun k l c j => laws_heldLateS.l0 k l c j) (G := mkLate) (w := 2) (fun k c j hj hl hk h0 h1 hP => by
      have hr : rd_T112 l (j : Int) = mkLate c := by unfold rd_T112; rw [getD_at _ hj]; exact hP
      simp (disch := omega) only [laws_heldLateS.l0, hr, mkLate, ip, Option.bind_some, w64, markText_eq, if_true, bne_self_eq_false, Bool.false_eq_true, if_false]
      congr 1 <;> omega) (fun k c => by simp only [laws_heldLateS.l0]; rw [if_neg (by omega)]) hl l.length 0 c (by omega) (by omega) h0 h1 (fun i _ hi => by simpa using hG i hi)
theorem markheldLate (l : List S112) (hl : l.length ≤ 2000000) (c : Int) (h0 : 0 ≤ c) (h1 : c ≤ 10000000000000) : ∃ (m : Int) (l' : List S112), 0 ≤ m ∧ m ≤ c + 2 * l.length ∧ Ev (fun k => laws_markLateS.f k l c) (m, l') ∧ Ev (fun k => laws_heldLateS.f k l' c) m := by
  obtain ⟨l', hl', h2, h3⟩ := markLateS_ok l c hl h0 (by omega)
  refine ⟨c + 2 * l.length, l', by omega, by omega, ⟨l.length + 21, fun k hk => h3 k (by omega)⟩, ⟨l.length + 21, fun k hk => ?_⟩⟩
  have := heldLateS_ok l' c (by omega) h0 (by omega) (fun i hi => h2 i (by omega)) k (by omega)
  rw [hl'] at this
  exact this
theorem eqLateS_ok (l : List S112) (hl : l.length ≤ 2000000) : ∀ k, l.length < k → laws_eqLateS.f k l l = some true := by
  intro k hk
  unfold laws_eqLateS.f
  rw [if_pos rfl]
  refine up_loop (F := fun k j => laws_eqLateS.l0 k l l j) (n := l.length) ?_ ?_ l.length 0 (by omega) (by omega) k hk
  · intro k j hj
    simp (disch := omega) only [laws_eqLateS.l0, laws_eqLate.f, ip, w64, Option.bind_some, if_true, bne_self_eq_false, Bool.false_eq_true, if_false]
    rfl
  · intro k
    simp only [laws_eqLateS.l0]
    rw [if_neg (by omega)]

/-! ### stream -/
theorem szStream_ok (a0 a1 a2 a3 : Int) (a4 : ByteArray) (a5 a6 : Int) (a7 : Bool) (a8 : ByteArray) (a9 : List S170) (a10 : Bool) (a11 a12 : Int) (w4 : wfStr a4) (w8 : wfStr a8) (w9 : wfList 24 wf170 a9) :
    ∃ t, (∀ k, a9.length < k → laws_szStream.f k a0 a1 a2 a3 a4 a5 a6 a7 a8 a9 a10 a11 a12 1048576 = some t) ∧ (t < 0 ∨ (a9.length ≤ 1048576 ∧ (∀ x ∈ a9, x.f1.size ≤ 1048576) ∧ a4.size ≤ 1048576 ∧ a8.size ≤ 1048576)) := by
  unfold wfStr at w4 w8
  obtain ⟨h9, _, hw9⟩ := w9
  unfold laws_szStream.f
  rw [w64 (x := 1048576 - (a4.size : Int)) (by omega) (by omega)]
  by_cases h1 : (1048576 : Int) - (a4.size : Int) < 0
  · exact ⟨-1, fun k _ => by rw [if_pos h1], .inl (by omega)⟩
  · rw [w64 (x := 1048576 - (a4.size : Int) - (a8.size : Int)) (by omega) (by omega)]
    simp only [if_neg h1]
    by_cases h2 : (1048576 : Int) - (a4.size : Int) - (a8.size : Int) < 0
    · exact ⟨-1, fun k _ => by rw [if_pos h2], .inl (by omega)⟩
    · simp only [if_neg h2]
      obtain ⟨t, ht, hc⟩ := szLateS_ok a9 h9 hw9 (1048576 - (a4.size : Int) - (a8.size : Int)) (by omega) (by omega)
      refine ⟨if t < 0 then -1 else t, fun k hk => ?_, ?_⟩
      · rw [ht k hk]
        simp only [Option.bind_some]
        split <;> rfl
      · rcases hc with hc | ⟨h3, h4, h5, h6⟩
        · rw [if_pos hc]; exact .inl (by omega)
        · exact .inr ⟨h5, h6, by omega, by omega⟩
theorem eqStream_ok (a0 a1 a2 a3 : Int) (a4 : ByteArray) (a5 a6 : Int) (a7 : Bool) (a8 : ByteArray) (a9 : List S112) (a10 : Bool) (a11 a12 : Int) (hl : a9.length ≤ 2000000) :
    ∀ k, a9.length < k → laws_eqStream.f k a0 a1 a2 a3 a4 a5 a6 a7 a8 a9 a10 a11 a12 a0 a1 a2 a3 a4 a5 a6 a7 a8 a9 a10 a11 a12 = some true := by
  intro k hk
  unfold laws_eqStream.f
  rw [eqLateS_ok a9 hl k hk]
  simp
theorem markheldStream (a0 a1 a2 a3 : Int) (a4 : ByteArray) (a5 a6 : Int) (a7 : Bool) (a8 : ByteArray) (a9 : List S112) (a10 : Bool) (a11 a12 : Int) (hl : a9.length ≤ 2000000) (c : Int) (h0 : 0 ≤ c) (h1 : c ≤ 10000000000000) : ∃ m l', 0 ≤ m ∧ m ≤ c + 2 * a9.length ∧
    Ev (fun k => laws_markStream.f k a0 a1 a2 a3 a4 a5 a6 a7 a8 a9 a10 a11 a12 c) (m, l') ∧ Ev (fun k => laws_heldStream.f k a0 a1 a2 a3 a4 a5 a6 a7 a8 l' a10 a11 a12 c) m := by
  obtain ⟨m, l', h2, h3, e1, e2⟩ := markheldLate a9 hl c h0 h1
  refine ⟨m, l', h2, h3, Ev.bind e1 (Ev.now _), Ev.bind e2 ?_⟩
  simp only [if_neg (show ¬ m < 0 by omega)]
  exact Ev.now _

/-! ### FnExactWrite -/
theorem write_both (a0 a1 a2 a3 : Int) (a4 : ByteArray) (a5 a6 : Int) (a7 : Bool) (a8 : ByteArray) (a9 : List S112) (a10 : Bool) (a11 a12 : Int) (s : ByteArray) (hl : a9.length ≤ 1048576) (h4 : a4.size ≤ 1048576) (hs : s.size ≤ 1048576) : ∃ f ok, ∀ k, a9.length + 3 < k →
    spec_Write.f k a0 a1 a2 a3 a4 a5 a6 a7 a8 a9 a10 a11 a12 s = some (a0, a1, a2, a3, f, a5, a6, a7, a8, a9, a10, a11, a12, ok) ∧ impl_Write.f k a0 a1 a2 a3 a4 a5 a6 a7 a8 a9 a10 a11 a12 s = some (a0, a1, a2, a3, f, a5, a6, a7, a8, a9, a10, a11, a12, ok) := by
  have hb : a9.length < 5864062014805 := by omega
  have hz : a4.size + s.size ≤ 9223372036854775807 := by omega
  have hw1 : wrap64 (200 - (a4.size : Int)) = 200 - (a4.size : Int) := w64 (by omega) (by omega)
  have hw2 : wrap64 ((a4.size : Int) + (s.size : Int)) = (a4.size : Int) + (s.size : Int) := w64 (by omega) (by omega)
  by_cases hs : streamB a0 a1 a2 a3 a4 a5 a6 a7 a8 a9 a10 a11 a12 = true
  · by_cases h6 : a6 = 0
    · by_cases h7 : (s.size : Int) > 200 - (a4.size : Int)
      · have h8 : (a4.size : Int) + (s.size : Int) > 200 := by omega
        refine ⟨a4, false, fun k hk => ?_⟩
        unfold spec_Write.f impl_Write.f spec_l13Copy.f impl_copyStream.f
        simp only [Option.bind_some, List.length_nil, Nat.zero_add, if_pos hb, List.nil_append]
        rw [spec_streamOk_eq _ _ _ _ _ _ _ _ _ _ _ _ _ (by omega) _ (by omega), impl_streamOk_eq _ _ _ _ _ _ _ _ _ _ _ _ _ (by omega) _ (by omega)]
        simp only [Option.bind_some, if_pos hs, if_pos h6, hw1, hw2, if_pos h7, if_pos h8, and_self]
      · have h8 : ¬ (a4.size : Int) + (s.size : Int) > 200 := by omega
        refine ⟨a4 ++ s, true, fun k hk => ?_⟩
        unfold spec_Write.f impl_Write.f spec_l13Copy.f impl_copyStream.f
        simp only [Option.bind_some, List.length_nil, Nat.zero_add, if_pos hb, List.nil_append]
        rw [spec_streamOk_eq _ _ _ _ _ _ _ _ _ _ _ _ _ (by omega) _ (by omega), impl_streamOk_eq _ _ _ _ _ _ _ _ _ _ _ _ _ (by omega) _ (by omega)]
        simp only [Option.bind_some, if_pos hs, if_pos h6, hw1, hw2, if_neg h7, if_neg h8, if_pos hz, and_self]
    · refine ⟨a4, false, fun k hk => ?_⟩
      unfold spec_Write.f impl_Write.f spec_l13Copy.f impl_copyStream.f
      simp only [Option.bind_some, List.length_nil, Nat.zero_add, if_pos hb, List.nil_append]
      rw [spec_streamOk_eq _ _ _ _ _ _ _ _ _ _ _ _ _ (by omega) _ (by omega), impl_streamOk_eq _ _ _ _ _ _ _ _ _ _ _ _ _ (by omega) _ (by omega)]
      simp only [Option.bind_some, if_pos hs, if_neg h6, and_self]
  · refine ⟨a4, false, fun k hk => ?_⟩
    unfold spec_Write.f impl_Write.f spec_l13Copy.f impl_copyStream.f
    simp only [Option.bind_some, List.length_nil, Nat.zero_add, if_pos hb, List.nil_append]
    rw [spec_streamOk_eq _ _ _ _ _ _ _ _ _ _ _ _ _ (by omega) _ (by omega), impl_streamOk_eq _ _ _ _ _ _ _ _ _ _ _ _ _ (by omega) _ (by omega)]
    simp only [Option.bind_some, if_neg hs, and_self]
theorem FnExactWrite : StFnExactWrite.Pure := by
  intro a0 a1 a2 a3 a4 a5 a6 a7 a8 a9 a10 a11 a12 s _ _ _ _ w4 _ _ _ w8 w9 _ _ _ _
  by_cases hsb : (s.size : Int) > 1048576
  · refine ⟨0, ?_⟩
    unfold laws_FnExactWrite.f
    rw [if_pos hsb]
  obtain ⟨t, ht, hc⟩ := szStream_ok a0 a1 a2 a3 a4 a5 a6 a7 a8 a9 a10 a11 a12 w4 w8 w9
  by_cases hn : t < 0
  · refine ⟨a9.length + 1, ?_⟩
    unfold laws_FnExactWrite.f
    rw [if_neg hsb, ht _ (by omega)]
    simp only [Option.bind_some]
    rw [if_pos hn]
  · obtain ⟨hl, _, h4, _⟩ := hc.resolve_left hn
    have hm : (a9.map conLate).length = a9.length := List.length_map _
    have hto : ∀ k, a9.length < k → laws_toStream.f k a0 a1 a2 a3 a4 a5 a6 a7 a8 a9 a10 a11 a12 = some (a0, a1, a2, a3, a4, a5, a6, a7, a8, a9.map conLate, a10, a11, a12) := fun k hk => by
      unfold laws_toStream.f
      rw [toLateS_ok a9 (by omega) _ hk]
      rfl
    obtain ⟨f, ok, hS⟩ := write_both a0 a1 a2 a3 a4 a5 a6 a7 a8 (a9.map conLate) a10 a11 a12 s (by omega) (by omega) (by omega)
    obtain ⟨m0, l0', g0, _, m0e, _⟩ := markheldStream a0 a1 a2 a3 a4 a5 a6 a7 a8 (a9.map conLate) a10 a11 a12 (by omega) 1 (by omega) (by omega)
    obtain ⟨m1, l1', g1, _, m1e, h1e⟩ := markheldStream a0 a1 a2 a3 f a5 a6 a7 a8 (a9.map conLate) a10 a11 a12 (by omega) 1 (by omega) (by omega)
    obtain ⟨K2, hK2⟩ := Ev.both m1e h1e
    obtain ⟨K3, hK30⟩ := m0e
    have hK3 : ∀ k, K3 ≤ k → laws_markStream.f k a0 a1 a2 a3 a4 a5 a6 a7 a8 (a9.map conLate) a10 a11 a12 1 = some (m0, l0') := hK30
    have heq : ∀ f k, a9.length < k → laws_eqStream.f k a0 a1 a2 a3 f a5 a6 a7 a8 (a9.map conLate) a10 a11 a12 a0 a1 a2 a3 f a5 a6 a7 a8 (a9.map conLate) a10 a11 a12 = some true := fun f k hk => eqStream_ok a0 a1 a2 a3 f a5 a6 a7 a8 (a9.map conLate) a10 a11 a12 (by omega) k (by omega)
    refine ⟨K2 + K3 + a9.length + 10, ?_⟩
    unfold laws_FnExactWrite.f
    rw [if_neg hsb, ht _ (by omega)]
    simp only [Option.bind_some]
    rw [if_neg hn, hto _ (by omega)]
    simp only [Option.bind_some]
    rw [(hS _ (by omega)).1]
    simp only [Option.bind_some]
    rw [(hS _ (by omega)).2]
    simp only [Option.bind_some]
    rw [heq _ _ (by omega)]
    simp only [Option.bind_some, if_true, bne_self_eq_false, laws_FnExactWrite.j0]
    rw [if_neg (by simp), hto _ (by omega)]
    simp only [Option.bind_some]
    rw [heq _ _ (by omega)]
    simp only [Option.bind_some, if_true]
    rw [hK3 _ (by omega)]
    simp only [Option.bind_some]
    rw [if_neg (by omega), heq _ _ (by omega)]
    simp only [Option.bind_some, if_true, bne_self_eq_false, laws_FnExactWrite.j1]
    rw [if_neg (by simp), (hK2 _ (by omega)).1]
    simp only [Option.bind_some]
    rw [(hK2 _ (by omega)).2]
    simp only [Option.bind_some]
    rw [if_neg (by omega), if_pos trivial, hto _ (by omega)]
    simp only [Option.bind_some]
    rw [(hS _ (by omega)).2]
    simp only [Option.bind_some]
    rw [heq _ _ (by omega)]
    simp only [Option.bind_some, if_true, bne_self_eq_false, laws_FnExactWrite.j2]
    rw [if_neg (by simp), (hK2 _ (by omega)).2]
    simp only [Option.bind_some]
    rw [if_neg (by omega), if_pos trivial]

end Go.Proofs.Ytjijbffecppeiaa.Pure
