/- The pure statement of the law 'FnKeepTexts', proved: over numbers, lists and texts alone. No condition. -/
import Derived.Test.YtgffdijodnpolaaStFnKeepTexts
import Derived.Laws.BitsLemmas
namespace Go.Proofs.Ytgffdijodnpolaa.Pure
open Go.RowKit Go.Proofs.Ytgffdijodnpolaa.QFnKeepTexts Go.Proofs.YtgffdijodnpolaaW.PrintWords Go.Proofs.YtgffdijodnpolaaW.PrintLast Go.Proofs.YtgffdijodnpolaaW.PrintMore Go.Proofs.Ytgffdijodnpolaa.StFnKeepTexts Go.Proofs.Ytgffdijodnpolaa.Opens
set_option linter.unusedVariables false
set_option linter.unusedSimpArgs false

/-! ### base -/
theorem w64 {x : Int} (h0 : -9223372036854775808 ≤ x) (h1 : x ≤ 9223372036854775807) : wrap64 x = x := by unfold wrap64; omega
theorem ip {α : Type} {c : Prop} [Decidable c] {a b : α} (h : c) : (if c then a else b) = a := if_pos h
theorem dC_ (x : Int) (i : Nat) (hi : i ≤ 62) : Go.bits .and .i64 x (2 ^ i - 1) = x % 2 ^ i := by
  have hpos : 0 < 2 ^ i := Nat.two_pow_pos i
  have hc : ((2 : Int) ^ i - 1) = ((2 ^ i - 1 : Nat) : Int) := by rw [Int.natCast_sub hpos]; simp
  have h62 : 2 ^ i ≤ 2 ^ 62 := Nat.pow_le_pow_right (by decide) hi
  have hlt : 2 ^ i - 1 < 2 ^ 64 := by omega
  have hd : (2 ^ i : Nat) ∣ 2 ^ 64 := Nat.pow_dvd_pow 2 (by omega)
  rw [hc]
  simp only [Go.bits, BitVec.ofInt_natCast, BitVec.toNat_and, BitVec.toNat_ofNat, BitVec.toNat_ofInt]
  simp only [show IntKind.i64.bits = 64 from rfl]
  rw [Nat.mod_eq_of_lt hlt, Nat.and_two_pow_sub_one_eq_mod]
  have h1 : (((x % ((2 ^ 64 : Nat) : Int)).toNat % 2 ^ i : Nat) : Int) = x % 2 ^ i := by
    rw [Int.natCast_emod, Int.toNat_of_nonneg (Int.emod_nonneg _ (by decide))]
    rw [Int.natCast_pow]
    exact Int.emod_emod_of_dvd _ (by
      have : (((2 ^ i : Nat) : Int)) ∣ ((2 ^ 64 : Nat) : Int) := Int.natCast_dvd_natCast.2 hd
      simpa using this)
  rw [h1]
  have h2 : 0 ≤ x % 2 ^ i := Int.emod_nonneg _ (by
    have : (0 : Int) < 2 ^ i := by exact_mod_cast hpos
    omega)
  have h3 : x % 2 ^ i < 2 ^ i := Int.emod_lt_of_pos _ (by exact_mod_cast hpos)
  have h4 : (2 : Int) ^ i ≤ 2 ^ 62 := by exact_mod_cast h62
  rw [IntKind.wrap_i64]
  omega
theorem dn_ (x : Int) : Go.bits .and .i64 x 255 = x % 256 := dC_ x 8 (by omega)
theorem Ev.ex {α : Type} {g : Nat → Option α} {r : α} (h : Ev g r) : ∃ k, g k = some r := h.rounds
theorem Ev.both {α β : Type} {g : Nat → Option α} {f : Nat → Option β} {r : α} {q : β} (h : Ev g r) (h' : Ev f q) : ∃ K, ∀ k, K ≤ k → g k = some r ∧ f k = some q := by
  obtain ⟨K, h⟩ := h
  obtain ⟨K', h'⟩ := h'
  exact ⟨K + K', fun k hk => ⟨h k (by omega), h' k (by omega)⟩⟩

/-! ### in -/
def rng (a b c : Int) : Bool := decide (b ≤ a) && decide (a ≤ c)
theorem an_ {a b c : Int} : rng a b c = true ↔ b ≤ a ∧ a ≤ c := by simp [rng]
theorem cf_ (a b c : Int) : spec_l01In.f a b c = some (rng a b c) := by
  unfold spec_l01In.f rng
  by_cases h : b ≤ a
  · rw [if_pos h]; simp [h]
  · rw [if_neg h]; simp [h]
theorem aN_ (a b c : Int) : impl_within.f a b c = some (rng a b c) := by
  unfold impl_within.f rng
  by_cases h : b ≤ a
  · rw [if_pos h]; simp [h]
  · rw [if_neg h]; simp [h]

/-! ### bl -/
theorem aU_ {s t : ByteArray} (h : bytesOf s = bytesOf t) : s = t := by
  unfold bytesOf at h
  have h2 : s.data.toList = t.data.toList := by
    apply List.ext_getElem?
    intro i
    have h3 := congrArg (fun l => l[i]?) h
    simp only [List.getElem?_map] at h3
    cases h4 : s.data.toList[i]? <;> cases h5 : t.data.toList[i]? <;> rw [h4, h5] at h3 <;> simp at h3 ⊢
    exact UInt8.toNat_inj.1 (by omega)
  exact ByteArray.ext (by rw [← Array.toArray_toList (xs := s.data), h2])
theorem am_ (s t : ByteArray) : bytesOf (s ++ t) = bytesOf s ++ bytesOf t := by
  unfold bytesOf
  rw [ByteArray.toList_data_append, List.map_append]
theorem aM_ (s : ByteArray) (a b : Nat) : bytesOf (s.extract a b) = ((bytesOf s).drop a).take (b - a) := by
  unfold bytesOf
  rw [ByteArray.data_extract, Array.toList_extract, ← List.map_drop, ← List.map_take] <;> simp [List.extract_eq_drop_take]
theorem cV_ {s : ByteArray} : ∀ x ∈ bytesOf s, 0 ≤ x ∧ x ≤ 255 := by
  intro x hx
  obtain ⟨b, _, rfl⟩ := List.mem_map.1 hx
  have := b.toNat_lt
  omega
theorem cl_ {l : List Int} (h : ∀ x ∈ l, 0 ≤ x ∧ x ≤ 255) : bytesOf (strOfNums l) = l := by
  unfold bytesOf
  rw [strOfNums_data, List.map_map]
  have : ∀ x ∈ l, ((fun b : UInt8 => (b.toNat : Int)) ∘ fun n : Int => UInt8.ofNat n.toNat) x = x := by
    intro x hx
    have := h x hx
    simp only [Function.comp, UInt8.toNat_ofNat']
    omega
  rw [List.map_congr_left this, List.map_id']
theorem bj_ : bytesOf (⟨#[]⟩ : ByteArray) = [] := rfl
theorem dw_ (s : ByteArray) (i : Int) : bt s i = rd (bytesOf s) i := (rd_bytesOf s i).symm
theorem aF_ {s t : ByteArray} : s.toList = t.toList ↔ s = t := by
  rw [ByteArray.toList_eq, ByteArray.toList_eq]
  constructor
  · intro h; exact ByteArray.ext (by rw [← Array.toArray_toList (xs := s.data), h])
  · intro h; rw [h]
theorem bA_ {s : ByteArray} : s.toList = ([] : List UInt8) ↔ bytesOf s = [] := by
  rw [ByteArray.toList_eq]
  unfold bytesOf
  simp

/-! ### var -/
def as_ : Nat → Int → List Int
  | 0, x => [x % 256]
  | d + 1, x => if x > 127 then (x % 128 + 128) % 256 :: as_ d (x / 128) else [x % 256]
theorem ci_ : ∀ d x, (as_ d x).length ≤ d + 1 := by
  intro d
  induction d with
  | zero => intro x; simp [as_]
  | succ d ih =>
    intro x
    unfold as_
    split
    · have := ih (x / 128); simp only [List.length_cons]; omega
    · simp
def ah_ (x : Int) : ByteArray := strOfNums (as_ 8 x)
theorem aa_ (x : Int) : (ah_ x).size ≤ 9 := by
  unfold ah_
  rw [strOfNums_size]
  exact ci_ 8 x
theorem bP_ : ∀ (d : Nat) (x : Int) (acc : List Int), 0 ≤ x → x < 128 ^ (d + 1) → x ≤ 9223372036854775807 → acc.length + d ≤ 1000 → ∀ k, d < k → spec_l01Var.l0 k x acc = some (strOfNums (acc ++ as_ d x)) := by
  intro d
  induction d with
  | zero =>
    intro x acc h0 h1 h2 h3 k hk
    obtain ⟨k, rfl⟩ : ∃ m, k = m + 1 := ⟨k - 1, by omega⟩
    simp only [spec_l01Var.l0, as_]
    rw [if_neg (by omega), if_pos (by omega)]
  | succ d ih =>
    intro x acc h0 h1 h2 h3 k hk
    obtain ⟨k, rfl⟩ : ∃ m, k = m + 1 := ⟨k - 1, by omega⟩
    simp only [spec_l01Var.l0, as_]
    by_cases hx : x > 127
    · have hp : (128 : Int) ^ (d + 1 + 1) = 128 ^ (d + 1) * 128 := Int.pow_succ 128 (d + 1)
      rw [if_pos hx, if_pos (by omega), if_pos hx, Int.tdiv_eq_ediv_of_nonneg h0, Int.tmod_eq_emod_of_nonneg h0, w64 (x := x / 128) (by omega) (by omega), w64 (x := x % 128 + 128) (by omega) (by omega)]
      rw [ih (x / 128) (acc ++ [(x % 128 + 128) % 256]) (by omega) (by omega) (by omega) (by rw [List.length_append, List.length_singleton]; omega) k (by omega), List.append_assoc]
      rfl
    · rw [if_neg hx, if_pos (by omega), if_neg hx]
theorem au_ (x : Int) (h0 : 0 ≤ x) (h1 : x ≤ 1000000000) : Ev (fun k => spec_l01Var.f k x) (ah_ x) := ⟨9, fun k hk => by
  exact bP_ 8 x [] h0 (by omega) (by omega) (by simp) k (by omega)⟩
theorem bN_ : ∀ (d : Nat) (x : Int) (acc : List Int), 0 ≤ x → x < 128 ^ (d + 1) → x ≤ 9223372036854775807 → acc.length + d ≤ 1000 → ∀ k, d < k → impl_VarText.l0 k x acc = some (strOfNums (acc ++ as_ d x), true) := by
  intro d
  induction d with
  | zero =>
    intro x acc h0 h1 h2 h3 k hk
    obtain ⟨k, rfl⟩ : ∃ m, k = m + 1 := ⟨k - 1, by omega⟩
    simp only [impl_VarText.l0, as_]
    rw [if_neg (by omega), if_pos (by omega)]
  | succ d ih =>
    intro x acc h0 h1 h2 h3 k hk
    obtain ⟨k, rfl⟩ : ∃ m, k = m + 1 := ⟨k - 1, by omega⟩
    simp only [impl_VarText.l0, as_]
    by_cases hx : x > 127
    · have hp : (128 : Int) ^ (d + 1 + 1) = 128 ^ (d + 1) * 128 := Int.pow_succ 128 (d + 1)
      rw [if_pos hx, if_pos (by omega), if_pos hx, Int.tdiv_eq_ediv_of_nonneg h0, Int.tmod_eq_emod_of_nonneg h0, w64 (x := x / 128) (by omega) (by omega), w64 (x := x % 128 + 128) (by omega) (by omega)]
      rw [ih (x / 128) (acc ++ [(x % 128 + 128) % 256]) (by omega) (by omega) (by omega) (by rw [List.length_append, List.length_singleton]; omega) k (by omega), List.append_assoc]
      rfl
    · rw [if_neg hx, if_pos (by omega), if_neg hx]
theorem cr_ (x : Int) (h0 : 0 ≤ x) (h1 : x ≤ 1000000000) : Ev (fun k => impl_VarText.f k x) (ah_ x, true) := ⟨9, fun k hk => by
  unfold impl_VarText.f
  have hr : rng x 0 1000000000 = true := an_.2 ⟨h0, h1⟩
  simp only [aN_, hr, Option.bind_some, if_true]
  exact bN_ 8 x [] h0 (by omega) (by omega) (by simp) k (by omega)⟩
def ab_ (s : ByteArray) : ByteArray := ah_ (s.size : Int) ++ s
theorem ad_ (s : ByteArray) : (ab_ s).size ≤ s.size + 9 := by
  have := aa_ (s.size : Int)
  unfold ab_
  rw [ByteArray.size_append]
  omega
theorem aD_ (s : ByteArray) (hs : s.size ≤ 1000000000) : Ev (fun k => spec_l16Short.f k s) (ab_ s) := by
  unfold spec_l16Short.f
  refine Ev.bind (au_ (s.size : Int) (by omega) (by omega)) ?_
  have := aa_ (s.size : Int)
  simp only [if_pos (show (ah_ (s.size : Int)).size + s.size ≤ 9223372036854775807 by omega)]
  exact Ev.now _
theorem cz_ (s : ByteArray) (hs : s.size ≤ 20000) : Ev (fun k => impl_ShortText.f k s) (ab_ s, true) := by
  unfold impl_ShortText.f
  simp only [if_neg (show ¬ (s.size : Int) > 20000 by omega)]
  refine Ev.bind (cr_ (s.size : Int) (by omega) (by omega)) ?_
  have := aa_ (s.size : Int)
  simp only [if_pos (show (ah_ (s.size : Int)).size + s.size ≤ 9223372036854775807 by omega)]
  exact Ev.now _
def aq_ {α : Type} (f : α → ByteArray) : List α → ByteArray
  | [] => (⟨#[]⟩ : ByteArray)
  | x :: l => f x ++ aq_ f l
theorem af_ (s : ByteArray) : s ++ (⟨#[]⟩ : ByteArray) = s := aU_ (by rw [am_, bj_, List.append_nil])
theorem aV_ (s : ByteArray) : (⟨#[]⟩ : ByteArray) ++ s = s := aU_ (by rw [am_, bj_, List.nil_append])
theorem bI_ (l : List Int) (hl : l.length ≤ 1000000) (hr : ∀ x ∈ l, 0 ≤ x ∧ x ≤ 1000000000) : ∀ (d j : Nat) (acc : ByteArray), l.length - j = d → j ≤ l.length → acc.size ≤ 100 * j → Ev (fun k => impl_varTexts.l0 k acc l (l.length : Int) (j : Int)) (acc ++ aq_ ah_ (l.drop j)) := by
  intro d
  induction d with
  | zero =>
    intro j acc hd hj ha
    rw [List.drop_of_length_le (by omega)]
    simp only [aq_, af_]
    exact Ev.step (f := fun _ => some acc) (fun k => by simp only [impl_varTexts.l0]; rw [if_neg (by omega)]) (Ev.now _)
  | succ d ih =>
    intro j acc hd hj ha
    have hjl : j < l.length := by omega
    have hget : rd l (j : Int) = l[j] := by unfold rd; rw [List.getD_eq_getElem?_getD, Int.toNat_natCast, List.getElem?_eq_getElem hjl]; rfl
    have hx := hr l[j] (List.getElem_mem _)
    refine Ev.step (f := fun k => (impl_VarText.f k l[j]).bind fun bt => if acc.size + bt.1.size ≤ 9223372036854775807 then impl_varTexts.l0 k (acc ++ bt.1) l (l.length : Int) ((j + 1 : Nat) : Int) else none) (fun k => ?_) ?_
    · simp only [impl_varTexts.l0]
      rw [if_pos (by omega), if_pos (by omega), if_pos (by omega), hget, w64 (x := (j : Int) + 1) (by omega) (by omega)]
      rfl
    · refine Ev.bind (cr_ _ hx.1 hx.2) ?_
      have h9 := aa_ l[j]
      simp only [if_pos (show acc.size + (ah_ l[j]).size ≤ 9223372036854775807 by omega)]
      have := ih (j + 1) (acc ++ ah_ l[j]) (by omega) (by omega) (by rw [ByteArray.size_append]; omega)
      rw [List.drop_eq_getElem_cons hjl, aq_, ← ByteArray.append_assoc]
      exact this
theorem ap_ (l : List Int) (hl : l.length ≤ 1000000) (hr : ∀ x ∈ l, 0 ≤ x ∧ x ≤ 1000000000) : Ev (fun k => impl_varTexts.f k l) (aq_ ah_ l) := by
  have := bI_ l hl hr l.length 0 (⟨#[]⟩ : ByteArray) (by omega) (by omega) (by show 0 ≤ _; omega)
  rw [aV_] at this
  exact this
theorem bn_ (l : List ByteArray) (hl : l.length ≤ 1000000) (hr : ∀ x ∈ l, x.size ≤ 20000) : ∀ (d j : Nat) (acc : ByteArray), l.length - j = d → j ≤ l.length → acc.size ≤ 30000 * j → Ev (fun k => impl_shortTexts.l0 k acc l (l.length : Int) (j : Int)) (acc ++ aq_ ab_ (l.drop j)) := by
  intro d
  induction d with
  | zero =>
    intro j acc hd hj ha
    rw [List.drop_of_length_le (by omega)]
    simp only [aq_, af_]
    exact Ev.step (f := fun _ => some acc) (fun k => by simp only [impl_shortTexts.l0]; rw [if_neg (by omega)]) (Ev.now _)
  | succ d ih =>
    intro j acc hd hj ha
    have hjl : j < l.length := by omega
    have hget : rdOf ByteArray.empty l (j : Int) = l[j] := by unfold rdOf; rw [List.getD_eq_getElem?_getD, Int.toNat_natCast, List.getElem?_eq_getElem hjl]; rfl
    have hx := hr l[j] (List.getElem_mem _)
    refine Ev.step (f := fun k => (impl_ShortText.f k l[j]).bind fun bt => if acc.size + bt.1.size ≤ 9223372036854775807 then impl_shortTexts.l0 k (acc ++ bt.1) l (l.length : Int) ((j + 1 : Nat) : Int) else none) (fun k => ?_) ?_
    · simp only [impl_shortTexts.l0]
      rw [if_pos (by omega), if_pos (by omega), if_pos (by omega), hget, w64 (x := (j : Int) + 1) (by omega) (by omega)]
      rfl
    · refine Ev.bind (cz_ _ hx) ?_
      have h9 := ad_ l[j]
      simp only [if_pos (show acc.size + (ab_ l[j]).size ≤ 9223372036854775807 by omega)]
      have := ih (j + 1) (acc ++ ab_ l[j]) (by omega) (by omega) (by rw [ByteArray.size_append]; omega)
      rw [List.drop_eq_getElem_cons hjl, aq_, ← ByteArray.append_assoc]
      exact this
theorem aH_ (l : List ByteArray) (hl : l.length ≤ 1000000) (hr : ∀ x ∈ l, x.size ≤ 20000) : Ev (fun k => impl_shortTexts.f k l) (aq_ ab_ l) := by
  have := bn_ l hl hr l.length 0 (⟨#[]⟩ : ByteArray) (by omega) (by omega) (by show 0 ≤ _; omega)
  rw [aV_] at this
  exact this

/-! ### all -/
def aQ_ (p : Nat → Bool) (j : Nat) : Nat → Bool
  | 0 => true
  | d + 1 => p j && aQ_ p (j + 1) d
theorem bB_ {F : Nat → Nat → Option Bool} {n : Nat} {p : Nat → Bool} {R : Bool}
    (hs : ∀ j, j < n → (p j = true → ∀ r, Ev (fun k => F k (j + 1)) r → Ev (fun k => F k j) r) ∧ (p j = false → Ev (fun k => F k j) false))
    (he : Ev (fun k => F k n) R) : ∀ d j, n - j = d → j ≤ n → Ev (fun k => F k j) (aQ_ p j d && R) := by
  intro d
  induction d with
  | zero =>
    intro j hd hj
    obtain rfl : j = n := by omega
    simpa [aQ_] using he
  | succ d ih =>
    intro j hd hj
    have h := hs j (by omega)
    cases hp : p j with
    | true =>
      have := ih (j + 1) (by omega) (by omega)
      simp only [aQ_, hp, Bool.true_and]
      exact h.1 hp _ this
    | false =>
      simp only [aQ_, hp, Bool.false_and]
      exact h.2 hp
theorem Ev.here {α : Type} {F f : Nat → Option α} {r : α} (hs : ∀ k, F (k + 1) = f k) (h : ∀ k, f k = some r) : Ev F r := Ev.step hs ⟨0, fun k _ => h k⟩

/-! ### readvar -/
def ay_ : List Int → Int
  | [] => 0
  | x :: l => x % 128 + 128 * ay_ l
theorem ch_ : ∀ l, 0 ≤ ay_ l := by
  intro l
  induction l with
  | nil => simp [ay_]
  | cons x l ih => simp only [ay_]; omega
theorem dM_ : ∀ l : List Int, ay_ l < 128 ^ l.length := by
  intro l
  induction l with
  | nil => simp [ay_]
  | cons x l ih =>
    simp only [ay_, List.length_cons]
    have : (128 : Int) ^ (l.length + 1) = 128 ^ l.length * 128 := Int.pow_succ 128 l.length
    omega
theorem cs_ (l : List Int) (c : Int) : ay_ (l ++ [c]) = ay_ l + (c % 128) * 128 ^ l.length := by
  induction l with
  | nil => simp [ay_]
  | cons x l ih =>
    simp only [List.cons_append, ay_, ih, List.length_cons]
    have h1 : (128 : Int) ^ (l.length + 1) = 128 ^ l.length * 128 := Int.pow_succ 128 l.length
    have h2 : 128 * (c % 128 * 128 ^ l.length) = c % 128 * (128 ^ l.length * 128) := by rw [Int.mul_comm 128, Int.mul_assoc]
    rw [h1, Int.mul_add, h2]
    omega
theorem db_ (l : List Int) (c : Int) (h0 : 0 ≤ c) (h1 : c ≤ 127) (hc : c ≠ 0) : 1 ≤ ay_ (l ++ [c]) := by
  induction l with
  | nil => simp only [List.nil_append, ay_]; omega
  | cons x l ih => simp only [List.cons_append, ay_]; omega
theorem cu_ : ∀ d x, ∀ y ∈ as_ d x, 0 ≤ y ∧ y ≤ 255 := by
  intro d
  induction d with
  | zero => intro x y hy; simp only [as_, List.mem_singleton] at hy; omega
  | succ d ih =>
    intro x y hy
    unfold as_ at hy
    split at hy
    · rcases List.mem_cons.1 hy with h | h
      · omega
      · exact ih _ y h
    · simp only [List.mem_singleton] at hy; omega
theorem dK_ : ∀ (pre : List Int) (c : Int) (d : Nat), (∀ x ∈ pre, 128 ≤ x ∧ x ≤ 255) → 0 ≤ c → c ≤ 127 → pre.length ≤ d → (pre = [] ∨ c ≠ 0) → as_ d (ay_ (pre ++ [c])) = pre ++ [c] := by
  intro pre
  induction pre with
  | nil =>
    intro c d _ h0 h1 _ _
    have e : ay_ ([] ++ [c]) = c := by simp only [List.nil_append, ay_]; omega
    rw [e]
    cases d with
    | zero => simp only [as_, List.nil_append]; congr 1; omega
    | succ d => simp only [as_, List.nil_append]; rw [if_neg (by omega)]; congr 1; omega
  | cons x l ih =>
    intro c d hp h0 h1 hl hc
    have hc : c ≠ 0 := by
      rcases hc with h | h
      · cases h
      · exact h
    obtain ⟨d, rfl⟩ : ∃ m, d = m + 1 := ⟨d - 1, by simp at hl; omega⟩
    have hx := hp x List.mem_cons_self
    have hw := db_ l c h0 h1 hc
    simp only [List.cons_append, ay_, as_]
    rw [if_pos (by omega), show (x % 128 + 128 * ay_ (l ++ [c])) / 128 = ay_ (l ++ [c]) by omega, ih c d (fun y hy => hp y (List.mem_cons_of_mem _ hy)) h0 h1 (by simp at hl; omega) (.inr hc)]
    congr 1
    omega
theorem de_ : ∀ (pre : List Int) (d : Nat), (∀ x ∈ pre, 128 ≤ x ∧ x ≤ 255) → pre ≠ [] → as_ d (ay_ (pre ++ [0])) ≠ pre ++ [0] := by
  intro pre
  induction pre with
  | nil => intro d _ h; exact absurd rfl h
  | cons x l ih =>
    intro d hp _ he
    have hx := hp x List.mem_cons_self
    have hlen := congrArg List.length he
    cases d with
    | zero => simp [as_] at hlen
    | succ d =>
      simp only [List.cons_append, ay_, as_] at he hlen
      by_cases hv : x % 128 + 128 * ay_ (l ++ [0]) > 127
      · rw [if_pos hv, show (x % 128 + 128 * ay_ (l ++ [0])) / 128 = ay_ (l ++ [0]) by omega] at he
        have ht := (List.cons.inj he).2
        cases l with
        | nil => simp [ay_] at hv; omega
        | cons y l => exact ih d (fun z hz => hp z (List.mem_cons_of_mem _ hz)) (by simp) ht
      · rw [if_neg hv] at hlen
        simp at hlen
def aB_ (s : ByteArray) (a : Int) (i : Nat) : List Int := ((bytesOf s).drop a.toNat).take i
theorem bf_ (s : ByteArray) (a : Int) (i : Nat) (h0 : 0 ≤ a) (h : a + (i : Int) ≤ (s.size : Int)) : (aB_ s a i).length = i := by
  unfold aB_
  rw [List.length_take, List.length_drop, bytesOf_length]
  omega
theorem bl_ (s : ByteArray) (a : Int) (i : Nat) (h0 : 0 ≤ a) (h : a + (i : Int) < (s.size : Int)) : aB_ s a (i + 1) = aB_ s a i ++ [bt s (a + (i : Int))] := by
  unfold aB_
  have hl : i < ((bytesOf s).drop a.toNat).length := by rw [List.length_drop, bytesOf_length]; omega
  have e : bt s (a + (i : Int)) = ((bytesOf s).drop a.toNat)[i] := by
    have hb : a.toNat + i < (bytesOf s).length := by rw [bytesOf_length]; omega
    rw [List.getElem_drop, dw_]
    unfold rd
    rw [show (a + (i : Int)).toNat = a.toNat + i by omega]
    simp [List.getD_eq_getElem?_getD, List.getElem?_eq_getElem hb]
  rw [e, List.take_append_getElem hl]
theorem dc_ (s : ByteArray) (a : Int) (i : Nat) (h0 : 0 ≤ a) : bytesOf (s.extract a.toNat (a + (i : Int)).toNat) = aB_ s a i := by
  rw [aM_]
  unfold aB_
  rw [show (a + (i : Int)).toNat - a.toNat = i by omega]
def rv (s : ByteArray) (a : Int) : Nat → Nat → Int → Int × Int × Bool
  | 0, _, _ => (0, 0, false)
  | d + 1, i, n =>
    if a + (i : Int) < (s.size : Int) then
      (if bt s (a + (i : Int)) > 127 then rv s a d (i + 1) (n + bt s (a + (i : Int)) % 128 * 128 ^ i)
       else if (0 < i ∧ bt s (a + (i : Int)) = 0) ∨ n + bt s (a + (i : Int)) % 128 * 128 ^ i > 1000000000 then (0, 0, false)
       else (n + bt s (a + (i : Int)) % 128 * 128 ^ i, a + (i : Int) + 1, true))
    else (0, 0, false)
def ac_ (s : ByteArray) (a : Int) : Int × Int × Bool := if rng a 0 (s.size : Int) = true then rv s a 5 0 0 else (0, 0, false)
theorem aY_ (i : Nat) (h : i ≤ 4) : 1 ≤ (128 : Int) ^ i ∧ (128 : Int) ^ i ≤ 268435456 := by
  rcases (by omega : i = 0 ∨ i = 1 ∨ i = 2 ∨ i = 3 ∨ i = 4) with rfl | rfl | rfl | rfl | rfl <;> decide
theorem by_ (c : Int) (i : Nat) (h : i ≤ 4) : 0 ≤ c % 128 * 128 ^ i ∧ c % 128 * 128 ^ i ≤ 127 * 128 ^ i := by
  have hp := aY_ i h
  exact ⟨Int.mul_nonneg (by omega) (by omega), Int.mul_le_mul_of_nonneg_right (by omega) (by omega)⟩
theorem eq_ (x : Int) (i : Nat) (hi : i ≤ 4) (h0 : 0 ≤ x) (h1 : x ≤ 127) : shl .i64 x (7 * (i : Int)) = x * 128 ^ i := by
  unfold shl
  rcases (by omega : i = 0 ∨ i = 1 ∨ i = 2 ∨ i = 3 ∨ i = 4) with rfl | rfl | rfl | rfl | rfl
  · rw [show x * 2 ^ min ((7 * ((0 : Nat) : Int)).toNat) IntKind.i64.bits = x * 1 from rfl, show (128 : Int) ^ 0 = 1 from rfl, IntKind.wrap_i64]; omega
  · rw [show x * 2 ^ min ((7 * ((1 : Nat) : Int)).toNat) IntKind.i64.bits = x * 128 from rfl, show (128 : Int) ^ 1 = 128 from rfl, IntKind.wrap_i64]; omega
  · rw [show x * 2 ^ min ((7 * ((2 : Nat) : Int)).toNat) IntKind.i64.bits = x * 16384 from rfl, show (128 : Int) ^ 2 = 16384 from rfl, IntKind.wrap_i64]; omega
  · rw [show x * 2 ^ min ((7 * ((3 : Nat) : Int)).toNat) IntKind.i64.bits = x * 2097152 from rfl, show (128 : Int) ^ 3 = 2097152 from rfl, IntKind.wrap_i64]; omega
  · rw [show x * 2 ^ min ((7 * ((4 : Nat) : Int)).toNat) IntKind.i64.bits = x * 268435456 from rfl, show (128 : Int) ^ 4 = 268435456 from rfl, IntKind.wrap_i64]; omega
theorem dz_ (s : ByteArray) (a : Int) (h0 : 0 ≤ a) (h1 : a ≤ (s.size : Int)) (hs : s.size ≤ 9000000000000000000) : ∀ (d i : Nat) (n : Int), i + d = 5 → 0 ≤ n → n < 128 ^ i → Ev (fun k => impl_ReadVar.l0 k s a n (i : Int)) (rv s a d i n) := by
  intro d
  induction d with
  | zero =>
    intro i n hd hn0 hn1
    refine Ev.step (fun k => by simp only [impl_ReadVar.l0]; rw [if_neg (by omega)]) ?_
    exact Ev.here (f := fun _ => some (0, 0, false)) (fun k => by simp only [impl_ReadVar.j1, Bool.false_eq_true, if_false]) (fun _ => rfl)
  | succ d ih =>
    intro i n hd hn0 hn1
    have hb := bt_range s (a + (i : Int))
    have ea : wrap64 (a + (i : Int) + 1) = a + (i : Int) + 1 := w64 (by omega) (by omega)
    have ew : wrap64 (a + (i : Int)) = a + (i : Int) := w64 (by omega) (by omega)
    have ei : wrap64 ((i : Int) + 1) = ((i + 1 : Nat) : Int) := by rw [w64 (by omega) (by omega)]; omega
    have e7 : wrap64 (7 * (i : Int)) = 7 * (i : Int) := w64 (by omega) (by omega)
    have h07 : 0 ≤ 7 * (i : Int) := by omega
    have h0i : 0 ≤ a + (i : Int) := by omega
    have hi5 : (i : Int) < 5 := by omega
    have ec : wrap64 (bt s (a + (i : Int))) = bt s (a + (i : Int)) := w64 (by omega) (by omega)
    have em : Int.tmod (bt s (a + (i : Int))) 128 = bt s (a + (i : Int)) % 128 := Int.tmod_eq_emod_of_nonneg hb.1
    have es : shl .i64 (bt s (a + (i : Int)) % 128) (7 * (i : Int)) = bt s (a + (i : Int)) % 128 * 128 ^ i := eq_ _ i (by omega) (by omega) (by omega)
    obtain ⟨q, hq0, hqn⟩ : ∃ q, bt s (a + (i : Int)) % 128 * 128 ^ i = q ∧ (0 ≤ n + q ∧ n + q < 128 ^ (i + 1) ∧ n + q ≤ 9000000000000000000) := by
      have hp := aY_ i (by omega)
      have hps : (128 : Int) ^ (i + 1) = 128 ^ i * 128 := Int.pow_succ 128 i
      have hq := by_ (bt s (a + (i : Int))) i (by omega)
      exact ⟨_, rfl, by omega, by omega, by omega⟩
    have en : wrap64 (n + q) = n + q := w64 (by omega) (by omega)
    have ih := ih (i + 1) (n + q) (by omega) hqn.1 hqn.2.1
    refine Ev.step (fun k => by simp only [impl_ReadVar.l0]; rw [if_pos hi5, ew]) ?_
    unfold rv
    rw [hq0] at es ⊢
    by_cases hin : a + (i : Int) < (s.size : Int)
    · rw [if_pos hin, show decide (a + (i : Int) < (s.size : Int)) = true from decide_eq_true hin]
      refine Ev.step (fun k => by simp only [impl_ReadVar.j1, if_true, ew]; rw [if_pos h0i, if_pos hin, e7, if_pos h07, ec, em, es, en, ei, ea]) ?_
      by_cases hc : bt s (a + (i : Int)) > 127
      · rw [if_pos hc]
        simp only [if_pos hc]
        exact ih
      · rw [if_neg hc]
        simp only [if_neg hc]
        by_cases hi : (i : Int) > 0
        · have hi' : 0 < i := Int.natCast_pos.1 hi
          by_cases hz : bt s (a + (i : Int)) = 0
          · have hz' : (0 < i ∧ bt s (a + (i : Int)) = 0) ∨ n + q > 1000000000 := .inl ⟨hi', hz⟩
            rw [if_pos hz']
            simp only [if_pos hi, if_pos hz]
            exact Ev.now _
          · by_cases hm : n + q > 1000000000
            · have hz' : (0 < i ∧ bt s (a + (i : Int)) = 0) ∨ n + q > 1000000000 := .inr hm
              rw [if_pos hz']
              simp only [if_pos hi, if_neg hz, if_pos hm]
              exact Ev.now _
            · have hz' : ¬ ((0 < i ∧ bt s (a + (i : Int)) = 0) ∨ n + q > 1000000000) := fun h => h.elim (fun h => hz h.2) hm
              rw [if_neg hz']
              simp only [if_pos hi, if_neg hz, if_neg hm]
              exact Ev.now _
        · have hi' : ¬ 0 < i := fun h => hi (Int.natCast_pos.2 h)
          by_cases hm : n + q > 1000000000
          · have hz' : (0 < i ∧ bt s (a + (i : Int)) = 0) ∨ n + q > 1000000000 := .inr hm
            rw [if_pos hz']
            simp only [if_neg hi, if_pos hm]
            exact Ev.now _
          · have hz' : ¬ ((0 < i ∧ bt s (a + (i : Int)) = 0) ∨ n + q > 1000000000) := fun h => h.elim (fun h => hi' h.1) hm
            rw [if_neg hz']
            simp only [if_neg hi, if_neg hm]
            exact Ev.now _
    · rw [if_neg hin, show decide (a + (i : Int) < (s.size : Int)) = false from decide_eq_false hin]
      exact Ev.here (f := fun _ => some (0, 0, false)) (fun k => by simp only [impl_ReadVar.j1, Bool.false_eq_true, if_false]) (fun _ => rfl)
theorem bb_ (s : ByteArray) (a : Int) (hs : s.size ≤ 9000000000000000000) : Ev (fun k => impl_ReadVar.f k s a) (ac_ s a) := by
  unfold impl_ReadVar.f ac_
  simp only [aN_, Option.bind_some]
  cases hr : rng a 0 (s.size : Int) with
  | false => simp only [Bool.false_eq_true, if_false]; exact Ev.now _
  | true =>
    have h := an_.1 hr
    simp only [if_true]
    exact dz_ s a h.1 h.2 hs 5 0 0 (by omega) (by omega) (by decide)
theorem dp_ (s : ByteArray) (a : Int) (i : Nat) (h0 : 0 ≤ a) (hin : a + (i : Int) < (s.size : Int)) (hi : i ≤ 8) (hp : ∀ x ∈ aB_ s a i, 128 ≤ x ∧ x ≤ 255) (hc : bt s (a + (i : Int)) ≤ 127) :
    (ah_ (ay_ (aB_ s a (i + 1))) = s.extract a.toNat (a + (i : Int) + 1).toNat) ↔ ¬ (0 < i ∧ bt s (a + (i : Int)) = 0) := by
  have hb := bt_range s (a + (i : Int))
  have e1 : bytesOf (ah_ (ay_ (aB_ s a (i + 1)))) = as_ 8 (ay_ (aB_ s a (i + 1))) := cl_ (cu_ 8 _)
  have e2 : bytesOf (s.extract a.toNat (a + (i : Int) + 1).toNat) = aB_ s a (i + 1) := by
    have := dc_ s a (i + 1) h0
    rw [show a + ((i + 1 : Nat) : Int) = a + (i : Int) + 1 by omega] at this
    exact this
  have hs := bl_ s a i h0 hin
  have hl := bf_ s a i h0 (by omega)
  constructor
  · intro h ⟨hi0, hz⟩
    have h2 := congrArg bytesOf h
    rw [e1, e2, hs, hz] at h2
    exact de_ (aB_ s a i) 8 hp (by intro he; rw [he] at hl; simp at hl; omega) h2
  · intro h
    apply aU_
    rw [e1, e2, hs]
    refine dK_ (aB_ s a i) _ 8 hp hb.1 hc (by omega) ?_
    by_cases hi0 : 0 < i
    · exact .inr (fun hz => h ⟨hi0, hz⟩)
    · exact .inl (List.length_eq_zero_iff.1 (by omega))
theorem dI_ (s : ByteArray) (a : Int) (h0 : 0 ≤ a) (h1 : a ≤ (s.size : Int)) (hs : s.size ≤ 9000000000000000000) : ∀ (d i : Nat), i + d = 5 → a + (i : Int) ≤ (s.size : Int) → (∀ x ∈ aB_ s a i, 128 ≤ x ∧ x ≤ 255) →
    Ev (fun k => spec_ReadVar.l0 k s a (ay_ (aB_ s a i)) (128 ^ i) (a + (i : Int))) (rv s a d i (ay_ (aB_ s a i))) := by
  have e5 : wrap64 (a + 5) = a + 5 := w64 (by omega) (by omega)
  intro d
  induction d with
  | zero =>
    intro i hd hin hp
    refine Ev.step (f := fun k => spec_ReadVar.j1 k s a (ay_ (aB_ s a i)) (128 ^ i) (a + (i : Int)) false) (fun k => ?_) (Ev.here (f := fun _ => some (0, 0, false)) (fun k => by simp only [spec_ReadVar.j1, Bool.false_eq_true, if_false]) (fun _ => rfl))
    simp only [spec_ReadVar.l0]
    by_cases h : a + (i : Int) < (s.size : Int)
    · rw [if_pos h, e5, show decide (a + (i : Int) < a + 5) = false from decide_eq_false (by omega)]
    · rw [if_neg h]
  | succ d ih =>
    intro i hd hin hp
    have hb := bt_range s (a + (i : Int))
    by_cases hlt : a + (i : Int) < (s.size : Int)
    · have hsucc := bl_ s a i h0 hlt
      have hval : ay_ (aB_ s a (i + 1)) = ay_ (aB_ s a i) + bt s (a + (i : Int)) % 128 * 128 ^ i := by rw [hsucc, cs_, bf_ s a i h0 hin]
      have hv : decide (a + (i : Int) < a + 5) = true := decide_eq_true (by omega)
      have ea : wrap64 (a + (i : Int) + 1) = a + (i : Int) + 1 := w64 (by omega) (by omega)
      have ec : wrap64 (bt s (a + (i : Int))) = bt s (a + (i : Int)) := w64 (by omega) (by omega)
      have em : Int.tmod (bt s (a + (i : Int))) 128 = bt s (a + (i : Int)) % 128 := Int.tmod_eq_emod_of_nonneg hb.1
      have h0i : 0 ≤ a + (i : Int) := by omega
      have h01 : a ≤ a + (i : Int) + 1 := by omega
      have h02 : a + (i : Int) + 1 ≤ (s.size : Int) := by omega
      have hi8 : i ≤ 8 := by omega
      obtain ⟨eq, en, ep⟩ : wrap64 (bt s (a + (i : Int)) % 128 * 128 ^ i) = bt s (a + (i : Int)) % 128 * 128 ^ i ∧ wrap64 (ay_ (aB_ s a i) + bt s (a + (i : Int)) % 128 * 128 ^ i) = ay_ (aB_ s a (i + 1)) ∧ wrap64 ((128 : Int) ^ i * 128) = 128 ^ (i + 1) := by
        have hn0 := ch_ (aB_ s a i)
        have hn1 := dM_ (aB_ s a i)
        rw [bf_ s a i h0 hin] at hn1
        have hpb := aY_ i (by omega)
        have hps : (128 : Int) ^ (i + 1) = 128 ^ i * 128 := Int.pow_succ 128 i
        have hq := by_ (bt s (a + (i : Int))) i (by omega)
        rw [hval, hps]
        clear hval hsucc hp ih em ec ea e5 hv
        exact ⟨w64 (by omega) (by omega), w64 (by omega) (by omega), w64 (by omega) (by omega)⟩
      have hpn : ¬ bt s (a + (i : Int)) ≤ 127 → ∀ x ∈ aB_ s a (i + 1), 128 ≤ x ∧ x ≤ 255 := by
        intro hc x hx
        rw [hsucc] at hx
        rcases List.mem_append.1 hx with hx | hx
        · exact hp x hx
        · simp only [List.mem_singleton] at hx
          subst hx
          exact ⟨by omega, hb.2⟩
      have ih := ih (i + 1) (by omega) (by omega)
      rw [show a + ((i + 1 : Nat) : Int) = a + (i : Int) + 1 by omega] at ih
      have hiff := dp_ s a i h0 hlt hi8 hp
      have hnn := ch_ (aB_ s a (i + 1))
      refine Ev.step (fun k => by simp only [spec_ReadVar.l0]; rw [if_pos hlt, e5, hv]) ?_
      refine Ev.step (fun k => by simp only [spec_ReadVar.j1, if_true]; rw [if_pos h0i, if_pos hlt, ec, em, eq, en, ep, ea]) ?_
      unfold rv
      rw [if_pos hlt, ← hval]
      clear hval eq en ep em ec
      by_cases hc : bt s (a + (i : Int)) > 127
      · have hc2 : ¬ bt s (a + (i : Int)) < 128 := by omega
        rw [if_pos hc]
        simp only [if_neg hc2]
        exact ih (hpn (by omega))
      · have hc2 : bt s (a + (i : Int)) < 128 := by omega
        have hiff := hiff (by omega)
        rw [if_neg hc]
        simp only [if_pos hc2]
        by_cases hm : ay_ (aB_ s a (i + 1)) > 1000000000
        · have hz' : (0 < i ∧ bt s (a + (i : Int)) = 0) ∨ ay_ (aB_ s a (i + 1)) > 1000000000 := .inr hm
          rw [if_pos hz']
          simp only [if_pos hm]
          exact Ev.now _
        · simp only [if_neg hm]
          refine Ev.bind (au_ _ hnn (Int.not_lt.1 hm)) ?_
          simp only [if_pos h0, if_pos h01, if_pos h02, aF_]
          by_cases hz : 0 < i ∧ bt s (a + (i : Int)) = 0
          · have hz' : (0 < i ∧ bt s (a + (i : Int)) = 0) ∨ ay_ (aB_ s a (i + 1)) > 1000000000 := .inl hz
            rw [if_pos hz']
            simp only [if_neg (show ¬ ah_ (ay_ (aB_ s a (i + 1))) = s.extract a.toNat (a + (i : Int) + 1).toNat from fun h => hiff.1 h hz)]
            exact Ev.now _
          · have hz' : ¬ ((0 < i ∧ bt s (a + (i : Int)) = 0) ∨ ay_ (aB_ s a (i + 1)) > 1000000000) := fun h => h.elim hz hm
            rw [if_neg hz']
            simp only [if_pos (hiff.2 hz)]
            exact Ev.now _
    · unfold rv
      rw [if_neg hlt]
      refine Ev.step (f := fun k => spec_ReadVar.j1 k s a (ay_ (aB_ s a i)) (128 ^ i) (a + (i : Int)) false) (fun k => by simp only [spec_ReadVar.l0]; rw [if_neg hlt]) (Ev.here (f := fun _ => some (0, 0, false)) (fun k => by simp only [spec_ReadVar.j1, Bool.false_eq_true, if_false]) (fun _ => rfl))
theorem bc_ (s : ByteArray) (a : Int) (hs : s.size ≤ 9000000000000000000) : Ev (fun k => spec_ReadVar.f k s a) (ac_ s a) := by
  unfold spec_ReadVar.f ac_
  simp only [cf_, Option.bind_some]
  cases hr : rng a 0 (s.size : Int) with
  | false => simp only [Bool.false_eq_true, if_false]; exact Ev.now _
  | true =>
    have h := an_.1 hr
    simp only [if_true]
    have := dI_ s a h.1 h.2 hs 5 0 (by omega) (by omega) (by unfold aB_; simp)
    have e : aB_ s a 0 = [] := by unfold aB_; simp
    rw [e] at this
    simpa [ay_] using this
theorem ej_ (s : ByteArray) (a : Int) (h0 : 0 ≤ a) : ∀ (d i : Nat), i + d = 5 → a + (i : Int) ≤ (s.size : Int) → (∀ x ∈ aB_ s a i, 128 ≤ x ∧ x ≤ 255) → ∀ v nx, rv s a d i (ay_ (aB_ s a i)) = (v, nx, true) →
    (0 ≤ v ∧ v ≤ 1000000000) ∧ (a < nx ∧ nx ≤ (s.size : Int)) ∧ s.extract a.toNat nx.toNat = ah_ v := by
  intro d
  induction d with
  | zero => intro i _ _ _ v nx h; simp [rv] at h
  | succ d ih =>
    intro i hd hin hp v nx h
    unfold rv at h
    have hb := bt_range s (a + (i : Int))
    by_cases hlt : a + (i : Int) < (s.size : Int)
    · have hsucc := bl_ s a i h0 hlt
      have hval : ay_ (aB_ s a (i + 1)) = ay_ (aB_ s a i) + bt s (a + (i : Int)) % 128 * 128 ^ i := by rw [hsucc, cs_, bf_ s a i h0 hin]
      rw [if_pos hlt, ← hval] at h
      by_cases hc : bt s (a + (i : Int)) > 127
      · rw [if_pos hc] at h
        exact ih (i + 1) (by omega) (by omega) (by
          rw [hsucc]
          intro x hx
          rcases List.mem_append.1 hx with hx | hx
          · exact hp x hx
          · simp only [List.mem_singleton] at hx; omega) v nx h
      · rw [if_neg hc] at h
        by_cases hz : (0 < i ∧ bt s (a + (i : Int)) = 0) ∨ ay_ (aB_ s a (i + 1)) > 1000000000
        · rw [if_pos hz] at h
          simp at h
        · rw [if_neg hz] at h
          simp only [Prod.mk.injEq, and_true] at h
          obtain ⟨rfl, rfl⟩ := h
          have hn := ch_ (aB_ s a (i + 1))
          have hiff := dp_ s a i h0 hlt (by omega) hp (by omega)
          refine ⟨⟨hn, ?_⟩, ⟨by omega, by omega⟩, (hiff.2 (fun h => hz (.inl h))).symm⟩
          rcases Int.lt_or_le 1000000000 (ay_ (aB_ s a (i + 1))) with h | h
          · exact absurd (.inr h) hz
          · exact h
    · rw [if_neg hlt] at h
      simp at h
theorem bk_ {s : ByteArray} {a v nx : Int} (h : ac_ s a = (v, nx, true)) : (0 ≤ a ∧ a < nx ∧ nx ≤ (s.size : Int)) ∧ (0 ≤ v ∧ v ≤ 1000000000) ∧ s.extract a.toNat nx.toNat = ah_ v := by
  unfold ac_ at h
  cases hr : rng a 0 (s.size : Int) with
  | false => rw [hr] at h; simp at h
  | true =>
    have hh := an_.1 hr
    rw [hr, if_pos rfl] at h
    have e : aB_ s a 0 = [] := by unfold aB_; simp
    have := ej_ s a hh.1 5 0 (by omega) (by omega) (by rw [e]; simp) v nx (by rw [e]; exact h)
    exact ⟨⟨hh.1, this.2.1⟩, this.1, this.2.2⟩
def aE_ (s : ByteArray) (a : Int) : ByteArray × Int × Bool :=
  if (ac_ s a).2.2 = true ∧ (ac_ s a).1 ≤ 20000 ∧ (ac_ s a).1 ≤ (s.size : Int) - (ac_ s a).2.1 then (s.extract (ac_ s a).2.1.toNat ((ac_ s a).2.1 + (ac_ s a).1).toNat, (ac_ s a).2.1 + (ac_ s a).1, true) else ((⟨#[]⟩ : ByteArray), 0, false)
theorem cU_ {s : ByteArray} {a nx : Int} {t : ByteArray} (h : aE_ s a = (t, nx, true)) : (0 ≤ a ∧ a < nx ∧ nx ≤ (s.size : Int)) ∧ t.size ≤ 20000 ∧ s.extract a.toNat nx.toNat = ab_ t := by
  unfold aE_ at h
  split at h
  · rename_i hc
    obtain ⟨hk, h2, h3⟩ := hc
    have hv := bk_ (s := s) (a := a) (v := (ac_ s a).1) (nx := (ac_ s a).2.1) (by rw [← hk])
    obtain ⟨⟨h0, h4, h5⟩, ⟨h6, _⟩, h7⟩ := hv
    simp only [Prod.mk.injEq, and_true] at h
    obtain ⟨rfl, rfl⟩ := h
    have hsz : (s.extract (ac_ s a).2.1.toNat ((ac_ s a).2.1 + (ac_ s a).1).toNat).size = (ac_ s a).1.toNat := by rw [ByteArray.size_extract]; omega
    refine ⟨⟨h0, by omega, by omega⟩, by omega, ?_⟩
    unfold ab_
    rw [hsz, show (((ac_ s a).1.toNat : Nat) : Int) = (ac_ s a).1 by omega, ← h7]
    apply aU_
    rw [am_, aM_, aM_, aM_]
    have e1 : ((ac_ s a).2.1 + (ac_ s a).1).toNat - a.toNat = ((ac_ s a).2.1.toNat - a.toNat) + ((ac_ s a).2.1 + (ac_ s a).1 - (ac_ s a).2.1).toNat := by omega
    have e2 : ((ac_ s a).2.1 + (ac_ s a).1).toNat - (ac_ s a).2.1.toNat = ((ac_ s a).2.1 + (ac_ s a).1 - (ac_ s a).2.1).toNat := by omega
    have e3 : (bytesOf s).drop (ac_ s a).2.1.toNat = ((bytesOf s).drop a.toNat).drop ((ac_ s a).2.1.toNat - a.toNat) := by rw [List.drop_drop]; congr 1; omega
    rw [e1, e2, e3, List.take_add]
  · simp at h
theorem bV_ (s : ByteArray) (a : Int) (hs : s.size ≤ 9000000000000000000) : (if (ac_ s a).2.2 = true then (if (ac_ s a).1 > 20000 then (some ((⟨#[]⟩ : ByteArray), (0 : Int), false)) else (if (ac_ s a).1 > (wrap64 ((s.size : Int) - (ac_ s a).2.1)) then (some ((⟨#[]⟩ : ByteArray), 0, false)) else (if 0 ≤ (ac_ s a).2.1 then (if (ac_ s a).2.1 ≤ (wrap64 ((ac_ s a).2.1 + (ac_ s a).1)) then (if (wrap64 ((ac_ s a).2.1 + (ac_ s a).1)) ≤ (s.size : Int) then (some (s.extract ((ac_ s a).2.1 : Int).toNat ((wrap64 ((ac_ s a).2.1 + (ac_ s a).1)) : Int).toNat, wrap64 ((ac_ s a).2.1 + (ac_ s a).1), true)) else (none)) else (none)) else (none)))) else (some ((⟨#[]⟩ : ByteArray), 0, false))) = some (aE_ s a) := by
  unfold aE_
  by_cases hk : (ac_ s a).2.2 = true
  · have hv := bk_ (s := s) (a := a) (v := (ac_ s a).1) (nx := (ac_ s a).2.1) (by rw [← hk])
    obtain ⟨⟨h0, h4, h5⟩, ⟨h6, h8⟩, h7⟩ := hv
    rw [if_pos hk, w64 (x := (s.size : Int) - (ac_ s a).2.1) (by omega) (by omega)]
    by_cases h1 : (ac_ s a).1 > 20000
    · rw [if_pos h1, if_neg (by omega)]
    · rw [if_neg h1]
      by_cases h2 : (ac_ s a).1 > (s.size : Int) - (ac_ s a).2.1
      · rw [if_pos h2, if_neg (by omega)]
      · rw [if_neg h2, if_pos (by omega), w64 (x := (ac_ s a).2.1 + (ac_ s a).1) (by omega) (by omega), if_pos (by omega), if_pos (by omega), if_pos ⟨hk, by omega, by omega⟩]
  · rw [if_neg hk, if_neg (fun h => hk h.1)]
theorem bs_ (s : ByteArray) (a : Int) (hs : s.size ≤ 9000000000000000000) : Ev (fun k => impl_ReadShort.f k s a) (aE_ s a) := by
  unfold impl_ReadShort.f
  refine Ev.bind (bb_ s a hs) ?_
  simp only [bV_ s a hs]
  exact Ev.now _
theorem bu_ (s : ByteArray) (a : Int) (hs : s.size ≤ 9000000000000000000) : Ev (fun k => spec_ReadShort.f k s a) (aE_ s a) := by
  unfold spec_ReadShort.f
  refine Ev.bind (bc_ s a hs) ?_
  simp only [bV_ s a hs]
  exact Ev.now _
def al_ (s : ByteArray) (a : Int) (b : Bool) : Int × ByteArray × Int × Bool := if b = true then (0, s, a, true) else if (ac_ s a).2.2 = true then ((ac_ s a).1, s, (ac_ s a).2.1, false) else (0, s, a, true)
def bp_ (s : ByteArray) (a : Int) (b : Bool) : ByteArray × ByteArray × Int × Bool := if b = true then ((⟨#[]⟩ : ByteArray), s, a, true) else if (aE_ s a).2.2 = true then ((aE_ s a).1, s, (aE_ s a).2.1, false) else ((⟨#[]⟩ : ByteArray), s, a, true)
theorem aA_ (s : ByteArray) (a : Int) (b : Bool) (hs : s.size ≤ 9000000000000000000) : Ev (fun k => spec_l16Var.f k s a b) (al_ s a b) := by
  unfold spec_l16Var.f al_
  refine Ev.bind (bc_ s a hs) ?_
  cases b
  · by_cases h : (ac_ s a).2.2 = true
    · simp only [Bool.false_eq_true, if_false, if_pos h]; exact Ev.now _
    · simp only [Bool.false_eq_true, if_false, if_neg h]; exact Ev.now _
  · simp only [if_true]; exact Ev.now _
theorem aT_ (s : ByteArray) (a : Int) (b : Bool) (hs : s.size ≤ 9000000000000000000) : Ev (fun k => spec_l16ReadShort.f k s a b) (bp_ s a b) := by
  unfold spec_l16ReadShort.f bp_
  refine Ev.bind (bu_ s a hs) ?_
  cases b
  · by_cases h : (aE_ s a).2.2 = true
    · simp only [Bool.false_eq_true, if_false, if_pos h]; exact Ev.now _
    · simp only [Bool.false_eq_true, if_false, if_neg h]; exact Ev.now _
  · simp only [if_true]; exact Ev.now _
theorem aj_ (s : ByteArray) (a : Int) (b : Bool) (hs : s.size ≤ 9000000000000000000) : Ev (fun k => impl_scan_number.f k s a b) (al_ s a b) := by
  unfold impl_scan_number.f al_
  refine Ev.bind (bb_ s a hs) ?_
  cases b
  · by_cases h : (ac_ s a).2.2 = true
    · simp only [Bool.false_eq_true, if_false, if_pos h]; exact Ev.now _
    · simp only [Bool.false_eq_true, if_false, if_neg h]; exact Ev.now _
  · simp only [if_true]; exact Ev.now _
theorem ax_ (s : ByteArray) (a : Int) (b : Bool) (hs : s.size ≤ 9000000000000000000) : Ev (fun k => impl_scan_short.f k s a b) (bp_ s a b) := by
  unfold impl_scan_short.f bp_
  refine Ev.bind (bs_ s a hs) ?_
  cases b
  · by_cases h : (aE_ s a).2.2 = true
    · simp only [Bool.false_eq_true, if_false, if_pos h]; exact Ev.now _
    · simp only [Bool.false_eq_true, if_false, if_neg h]; exact Ev.now _
  · simp only [if_true]; exact Ev.now _
def bx_ (s : ByteArray) (p : ByteArray) (a : Int) (b : Bool) : Prop := b = true ∨ (b = false ∧ 0 ≤ a ∧ a ≤ (s.size : Int) ∧ s.extract 0 a.toNat = p)
theorem cp_ (s : ByteArray) (a b : Nat) (h : a ≤ b) : s.extract 0 a ++ s.extract a b = s.extract 0 b := by
  apply aU_
  rw [am_, aM_, aM_, aM_, List.drop_zero, show b - 0 = a + (b - a) by omega, List.take_add, Nat.sub_zero]
theorem aC_ {s p : ByteArray} {a : Int} {b : Bool} (h : bx_ s p a b) : (al_ s a b).2.1 = s ∧ bx_ s (p ++ ah_ (al_ s a b).1) (al_ s a b).2.2.1 (al_ s a b).2.2.2 ∧ (0 ≤ (al_ s a b).1 ∧ (al_ s a b).1 ≤ 1000000000) := by
  unfold al_
  rcases h with rfl | ⟨rfl, h0, h1, h2⟩
  · rw [if_pos rfl]; exact ⟨rfl, .inl rfl, (show (0 : Int) ≤ 0 ∧ (0 : Int) ≤ 1000000000 by omega)⟩
  · rw [if_neg (by simp)]
    by_cases hk : (ac_ s a).2.2 = true
    · rw [if_pos hk]
      have hv := bk_ (s := s) (a := a) (v := (ac_ s a).1) (nx := (ac_ s a).2.1) (by rw [← hk])
      refine ⟨rfl, .inr ⟨rfl, (show 0 ≤ (ac_ s a).2.1 by omega), (show (ac_ s a).2.1 ≤ (s.size : Int) by omega), ?_⟩, hv.2.1⟩
      show s.extract 0 (ac_ s a).2.1.toNat = p ++ ah_ (ac_ s a).1
      rw [← hv.2.2, ← h2, cp_ s _ _ (by omega)]
    · rw [if_neg hk]; exact ⟨rfl, .inl rfl, (show (0 : Int) ≤ 0 ∧ (0 : Int) ≤ 1000000000 by omega)⟩
theorem aW_ {s p : ByteArray} {a : Int} {b : Bool} (h : bx_ s p a b) : (bp_ s a b).2.1 = s ∧ bx_ s (p ++ ab_ (bp_ s a b).1) (bp_ s a b).2.2.1 (bp_ s a b).2.2.2 ∧ (bp_ s a b).1.size ≤ 20000 := by
  unfold bp_
  rcases h with rfl | ⟨rfl, h0, h1, h2⟩
  · rw [if_pos rfl]; exact ⟨rfl, .inl rfl, by show 0 ≤ 20000; omega⟩
  · rw [if_neg (by simp)]
    by_cases hk : (aE_ s a).2.2 = true
    · rw [if_pos hk]
      have hv := cU_ (s := s) (a := a) (t := (aE_ s a).1) (nx := (aE_ s a).2.1) (by rw [← hk])
      refine ⟨rfl, .inr ⟨rfl, (show 0 ≤ (aE_ s a).2.1 by omega), (show (aE_ s a).2.1 ≤ (s.size : Int) by omega), ?_⟩, hv.2.1⟩
      show s.extract 0 (aE_ s a).2.1.toNat = p ++ ab_ (aE_ s a).1
      rw [← hv.2.2, ← h2, cp_ s _ _ (by omega)]
    · rw [if_neg hk]; exact ⟨rfl, .inl rfl, by show 0 ≤ 20000; omega⟩
theorem cj_ {s p : ByteArray} {a : Int} (h : bx_ s p a false) : p = s ↔ a = (s.size : Int) := by
  rcases h with h | ⟨_, h0, h1, rfl⟩
  · cases h
  · constructor
    · intro h
      have := congrArg ByteArray.size h
      rw [ByteArray.size_extract] at this
      omega
    · intro h
      subst h
      apply aU_
      rw [aM_, List.drop_zero]
      exact List.take_of_length_le (by rw [bytesOf_length]; omega)

/-! ### scan -/
theorem dF_ (s : ByteArray) (a : Int) (h : a ≥ (s.size : Int)) (b : Bool) : impl_scan_one.f s a b = some (0, s, a, true) := by
  unfold impl_scan_one.f
  by_cases hb : b = true
  · rw [if_pos hb]
  · rw [if_neg hb, if_pos h]
theorem dl_ (s : ByteArray) (a : Int) (h0 : 0 ≤ a) (h : a < (s.size : Int)) (hs : s.size ≤ 9000000000000000000) : impl_scan_one.f s a false = some (bt s a, s, a + 1, false) := by
  unfold impl_scan_one.f
  have hb := bt_range s a
  rw [if_neg (by simp), if_neg (by omega), w64 (x := a + 1) (by omega) (by omega), show a + 1 - 1 = a by omega, w64 (x := a) (by omega) (by omega), if_pos h0, if_pos h, w64 (by omega) (by omega)]
theorem bO_ (s : ByteArray) (a : Int) : impl_scan_done.f s a true = some (false, s, a, true) := by unfold impl_scan_done.f; rw [if_pos rfl]
theorem bm_ (s : ByteArray) (a : Int) : impl_scan_done.f s a false = some ((a == (s.size : Int)), s, a, false) := by unfold impl_scan_done.f; rw [if_neg (by simp)]

/-! ### loops -/
theorem aI_ {α : Type} {l : List α} {j : Nat} (z : α) (h : j < l.length) : l.getD (j : Int).toNat z = l[j] := by
  simp [List.getD_eq_getElem?_getD, List.getElem?_eq_getElem h]

/-! ### sz -/
def pS (a : List S83) (j : Nat) : Bool :=
  rng (rd_T83 a j).f0 1 1000000 && (!(decide ((j : Int) > 0) && decide ((rd_T83 a ((j : Int) - 1)).f0 ≥ (rd_T83 a j).f0)) && (rng (rd_T83 a j).f1 0 1000000 && (decide (((rd_T83 a j).f2.size : Int) ≤ 40) && (!decide ((rd_T83 a j).f1 = 0) || decide ((rd_T83 a j).f2.toList = ([] : List UInt8))))))
def pI (a : List S81) (j : Nat) : Bool :=
  rng ((rd_T81 a j).f0.size : Int) 1 8 && ((!decide ((j : Int) > 0) || Op.bytesLess (rd_T81 a ((j : Int) - 1)).f0.toList (rd_T81 a j).f0.toList) && (decide (((rd_T81 a j).f1.size : Int) ≤ 20) && rng (rd_T81 a j).f2 1 1000000000))
def ag_ (a : List S83) (b : List S81) : Bool :=
  (aQ_ (pS a) 0 a.length && decide ((a.length : Int) ≤ 3)) && (aQ_ (pI b) 0 b.length && decide ((b.length : Int) ≤ 8))
theorem dv_ {x : Int} : (x > 40) = ¬ (x ≤ 40) := by simp
theorem da_ {x : Int} : (x > 20) = ¬ (x ≤ 20) := by simp
theorem cB_ (a : List S83) (ha : a.length ≤ 1048576) : Ev (fun k => spec_l15Sessions.f k a) (aQ_ (pS a) 0 a.length && decide ((a.length : Int) ≤ 3)) := by
  refine bB_ (F := fun k j => spec_l15Sessions.l0 k a (j : Int)) (n := a.length) (fun j hj => ?_) ?_ a.length 0 (by omega) (by omega)
  · have es : ∀ k, spec_l15Sessions.l0 (k + 1) a (j : Int) = spec_l15Sessions.j1 k a (j : Int) (!pS a j) := fun k => by
      simp only [spec_l15Sessions.l0]
      rw [if_pos (by omega), if_pos (by omega)]
      simp only [cf_, Option.bind_some, dv_]
      rw [w64 (x := (j : Int) - 1) (by omega) (by omega)]
      unfold pS
      by_cases h0 : (j : Int) > 0
      · simp only [h0, show (0 : Int) ≤ (j : Int) - 1 by omega, show (j : Int) - 1 < (a.length : Int) by omega, if_true]
        cases h1 : rng (rd_T83 a j).f0 1 1000000 <;> cases h2 : rng (rd_T83 a j).f1 0 1000000 <;>
          by_cases h3 : (rd_T83 a ((j : Int) - 1)).f0 ≥ (rd_T83 a j).f0 <;> by_cases h4 : ((rd_T83 a j).f2.size : Int) ≤ 40 <;>
          by_cases h5 : (rd_T83 a j).f1 = 0 <;> by_cases h6 : (rd_T83 a j).f2.toList = ([] : List UInt8) <;> simp [h1, h2, h3, h4, h5, h6] <;> exact congrArg (spec_l15Sessions.j1 k a (j : Int)) (bne_iff_ne.2 h6)
      · simp only [h0, if_false]
        cases h1 : rng (rd_T83 a j).f0 1 1000000 <;> cases h2 : rng (rd_T83 a j).f1 0 1000000 <;>
          by_cases h4 : ((rd_T83 a j).f2.size : Int) ≤ 40 <;>
          by_cases h5 : (rd_T83 a j).f1 = 0 <;> by_cases h6 : (rd_T83 a j).f2.toList = ([] : List UInt8) <;> simp [h1, h2, h4, h5, h6] <;> exact congrArg (spec_l15Sessions.j1 k a (j : Int)) (bne_iff_ne.2 h6)
    have e2 : wrap64 ((j : Int) + 1) = ((j + 1 : Nat) : Int) := by rw [w64 (by omega) (by omega)]; omega
    refine ⟨fun hp r hr => Ev.step (fun k => by rw [es, hp]) (Ev.step (fun k => by simp only [spec_l15Sessions.j1, Bool.not_true, Bool.false_eq_true, if_false, e2]) hr), fun hp => Ev.step (fun k => by rw [es, hp]) (Ev.here (f := fun _ => some false) (fun k => by simp only [spec_l15Sessions.j1, Bool.not_false, if_true]) (fun _ => rfl))⟩
  · exact Ev.here (f := fun _ => some (decide ((a.length : Int) ≤ 3))) (fun k => by simp only [spec_l15Sessions.l0]; rw [if_neg (by omega)]) (fun _ => rfl)
theorem ar_ (a : List S83) (b : List S81) (ha : a.length ≤ 1048576) (hb : b.length ≤ 1048576) : Ev (fun k => spec_KeepOk.f k a b) (ag_ a b) := by
  have hfin : Ev (fun k => spec_KeepOk.l0 k ((b.length : Nat) : Int) a b) (aQ_ (pS a) 0 a.length && decide ((a.length : Int) ≤ 3) && decide ((b.length : Int) ≤ 8)) := by
    refine Ev.step (fun k => by simp only [spec_KeepOk.l0]; rw [if_neg (by omega)]) ?_
    refine Ev.bind (cB_ a ha) ?_
    cases aQ_ (pS a) 0 a.length && decide ((a.length : Int) ≤ 3)
    · simpa using Ev.now false
    · simpa using Ev.now (decide ((b.length : Int) ≤ 8))
  have h := bB_ (F := fun k j => spec_KeepOk.l0 k (j : Int) a b) (p := pI b) (n := b.length) (fun j hj => ?_) hfin b.length 0 (by omega) (by omega)
  · have e : ag_ a b = (aQ_ (pI b) 0 b.length && (aQ_ (pS a) 0 a.length && decide ((a.length : Int) ≤ 3) && decide ((b.length : Int) ≤ 8))) := by
      unfold ag_
      cases aQ_ (pI b) 0 b.length <;> cases aQ_ (pS a) 0 a.length && decide ((a.length : Int) ≤ 3) <;> simp
    rw [e]
    exact h
  · have es : ∀ k, spec_KeepOk.l0 (k + 1) (j : Int) a b = spec_KeepOk.j1 k (j : Int) (!pI b j) a b := fun k => by
      simp only [spec_KeepOk.l0]
      rw [if_pos (by omega), if_pos (by omega)]
      simp only [cf_, Option.bind_some, da_]
      rw [w64 (x := (j : Int) - 1) (by omega) (by omega)]
      unfold pI
      by_cases h0 : (j : Int) > 0
      · simp only [h0, show (0 : Int) ≤ (j : Int) - 1 by omega, show (j : Int) - 1 < (b.length : Int) by omega, if_true]
        cases h1 : rng ((rd_T81 b j).f0.size : Int) 1 8 <;> cases h2 : rng (rd_T81 b j).f2 1 1000000000 <;>
          cases h3 : Op.bytesLess (rd_T81 b ((j : Int) - 1)).f0.toList (rd_T81 b j).f0.toList <;> by_cases h4 : ((rd_T81 b j).f1.size : Int) ≤ 20 <;> simp [h1, h2, h3, h4]
      · simp only [h0, if_false]
        cases h1 : rng ((rd_T81 b j).f0.size : Int) 1 8 <;> cases h2 : rng (rd_T81 b j).f2 1 1000000000 <;>
          by_cases h4 : ((rd_T81 b j).f1.size : Int) ≤ 20 <;> simp [h1, h2, h4]
    have e2 : wrap64 ((j : Int) + 1) = ((j + 1 : Nat) : Int) := by rw [w64 (by omega) (by omega)]; omega
    refine ⟨fun hp r hr => Ev.step (fun k => by rw [es, hp]) (Ev.step (fun k => by simp only [spec_KeepOk.j1, Bool.not_true, Bool.false_eq_true, if_false, e2]) hr), fun hp => Ev.step (fun k => by rw [es, hp]) (Ev.here (f := fun _ => some false) (fun k => by simp only [spec_KeepOk.j1, Bool.not_false, if_true]) (fun _ => rfl))⟩
theorem cx_ (a : List S83) (b : List S81) (ha : a.length ≤ 1048576) (hb : b.length ≤ 1048576) : Ev (fun k => impl_KeepOk.l1 k b (b.length : Int) 0 a b) (decide ((a.length : Int) ≤ 3) && (aQ_ (pI b) 0 b.length && decide ((b.length : Int) ≤ 8))) := by
  have hfin : Ev (fun k => impl_KeepOk.l1 k b (b.length : Int) ((b.length : Nat) : Int) a b) (decide ((a.length : Int) ≤ 3) && decide ((b.length : Int) ≤ 8)) := by
    refine Ev.here (f := fun _ => some (decide ((a.length : Int) ≤ 3) && decide ((b.length : Int) ≤ 8))) (fun k => ?_) (fun _ => rfl)
    simp only [impl_KeepOk.l1]
    rw [if_neg (by omega)]
    by_cases h : (a.length : Int) ≤ 3 <;> simp [h]
  have h := bB_ (F := fun k j => impl_KeepOk.l1 k b (b.length : Int) (j : Int) a b) (p := pI b) (n := b.length) (fun j hj => ?_) hfin b.length 0 (by omega) (by omega)
  · have e : (decide ((a.length : Int) ≤ 3) && (aQ_ (pI b) 0 b.length && decide ((b.length : Int) ≤ 8))) = (aQ_ (pI b) 0 b.length && (decide ((a.length : Int) ≤ 3) && decide ((b.length : Int) ≤ 8))) := by
      cases aQ_ (pI b) 0 b.length <;> cases decide ((a.length : Int) ≤ 3) <;> simp
    rw [e]
    exact h
  · have es : ∀ k, impl_KeepOk.l1 (k + 1) b (b.length : Int) (j : Int) a b = impl_KeepOk.j3 k b (b.length : Int) (j : Int) (!pI b j) a b := fun k => by
      simp only [impl_KeepOk.l1]
      rw [if_pos (by omega), if_pos (by omega), if_pos (by omega)]
      simp only [impl_keyOk.f, impl_valOk.f, aN_, Option.bind_some, decide_eq_true_eq]
      rw [w64 (x := (j : Int) - 1) (by omega) (by omega)]
      unfold pI
      by_cases h0 : (j : Int) > 0
      · simp only [h0, show (0 : Int) ≤ (j : Int) - 1 by omega, show (j : Int) - 1 < (b.length : Int) by omega, if_true]
        cases h1 : rng ((rd_T81 b j).f0.size : Int) 1 8 <;> cases h2 : rng (rd_T81 b j).f2 1 1000000000 <;>
          cases h3 : Op.bytesLess (rd_T81 b ((j : Int) - 1)).f0.toList (rd_T81 b j).f0.toList <;> by_cases h4 : ((rd_T81 b j).f1.size : Int) ≤ 20 <;> simp [h1, h2, h3, h4]
      · simp only [h0, if_false]
        cases h1 : rng ((rd_T81 b j).f0.size : Int) 1 8 <;> cases h2 : rng (rd_T81 b j).f2 1 1000000000 <;>
          by_cases h4 : ((rd_T81 b j).f1.size : Int) ≤ 20 <;> simp [h1, h2, h4]
    have e2 : wrap64 ((j : Int) + 1) = ((j + 1 : Nat) : Int) := by rw [w64 (by omega) (by omega)]; omega
    refine ⟨fun hp r hr => Ev.step (fun k => by rw [es, hp]) (Ev.step (fun k => by simp only [impl_KeepOk.j3, Bool.not_true, Bool.false_eq_true, if_false, e2]) hr), fun hp => Ev.step (fun k => by rw [es, hp]) (Ev.here (f := fun _ => some false) (fun k => by simp only [impl_KeepOk.j3, Bool.not_false, if_true]) (fun _ => rfl))⟩
theorem aP_ (a : List S83) (b : List S81) (ha : a.length ≤ 1048576) (hb : b.length ≤ 1048576) : Ev (fun k => impl_KeepOk.f k a b) (ag_ a b) := by
  have hfin : Ev (fun k => impl_KeepOk.l0 k a (a.length : Int) ((a.length : Nat) : Int) a b) (decide ((a.length : Int) ≤ 3) && (aQ_ (pI b) 0 b.length && decide ((b.length : Int) ≤ 8))) :=
    Ev.step (fun k => by simp only [impl_KeepOk.l0]; rw [if_neg (by omega)]) (cx_ a b ha hb)
  have h := bB_ (F := fun k j => impl_KeepOk.l0 k a (a.length : Int) (j : Int) a b) (p := pS a) (n := a.length) (fun j hj => ?_) hfin a.length 0 (by omega) (by omega)
  · have e : ag_ a b = (aQ_ (pS a) 0 a.length && (decide ((a.length : Int) ≤ 3) && (aQ_ (pI b) 0 b.length && decide ((b.length : Int) ≤ 8)))) := by
      unfold ag_
      cases aQ_ (pS a) 0 a.length <;> simp
    rw [e]
    exact h
  · have es : ∀ k, impl_KeepOk.l0 (k + 2) a (a.length : Int) (j : Int) a b = if pS a j = true then impl_KeepOk.l0 k a (a.length : Int) ((j + 1 : Nat) : Int) a b else some false := fun k => by
      simp only [impl_KeepOk.l0, impl_KeepOk.j1]
      rw [if_pos (by omega), if_pos (by omega), if_pos (by omega)]
      simp only [impl_isIndex.f, aN_, Option.bind_some, dv_]
      rw [w64 (x := (j : Int) + 1) (by omega) (by omega), w64 (x := (j : Int) - 1) (by omega) (by omega)]
      unfold pS
      have e1 : ((j : Int) + 1) = ((j + 1 : Nat) : Int) := by omega
      rw [e1]
      by_cases h0 : (j : Int) > 0
      · simp only [h0, show (0 : Int) ≤ (j : Int) - 1 by omega, show (j : Int) - 1 < (a.length : Int) by omega, if_true]
        cases h1 : rng (rd_T83 a j).f0 1 1000000 <;> cases h2 : rng (rd_T83 a j).f1 0 1000000 <;>
          by_cases h3 : (rd_T83 a ((j : Int) - 1)).f0 ≥ (rd_T83 a j).f0 <;> by_cases h4 : ((rd_T83 a j).f2.size : Int) ≤ 40 <;>
          by_cases h5 : (rd_T83 a j).f1 = 0 <;> by_cases h6 : (rd_T83 a j).f2.toList = ([] : List UInt8) <;> simp [h1, h2, h3, h4, h5, h6]
      · simp only [h0, if_false]
        cases h1 : rng (rd_T83 a j).f0 1 1000000 <;> cases h2 : rng (rd_T83 a j).f1 0 1000000 <;>
          by_cases h4 : ((rd_T83 a j).f2.size : Int) ≤ 40 <;>
          by_cases h5 : (rd_T83 a j).f1 = 0 <;> by_cases h6 : (rd_T83 a j).f2.toList = ([] : List UInt8) <;> simp [h1, h2, h4, h5, h6]
    have two : ∀ r, Ev (fun k => if pS a j = true then impl_KeepOk.l0 k a (a.length : Int) ((j + 1 : Nat) : Int) a b else some false) r → Ev (fun k => impl_KeepOk.l0 k a (a.length : Int) (j : Int) a b) r := by
      rintro r ⟨K, hK⟩
      refine ⟨K + 2, fun k hk => ?_⟩
      obtain ⟨m, rfl⟩ : ∃ m, k = m + 2 := ⟨k - 2, by omega⟩
      show impl_KeepOk.l0 (m + 2) a (a.length : Int) (j : Int) a b = some r
      rw [es]
      exact hK m (by omega)
    refine ⟨fun hp r hr => two r (by simpa only [hp, if_true] using hr), fun hp => two false ⟨0, fun k _ => by simp [hp]⟩⟩

/-! ### keeptext -/
theorem bi_ {p : Nat → Bool} : ∀ d j, aQ_ p j d = true → ∀ i, j ≤ i → i < j + d → p i = true := by
  intro d
  induction d with
  | zero => intro j _ i h1 h2; omega
  | succ d ih =>
    intro j h i h1 h2
    unfold aQ_ at h
    rw [Bool.and_eq_true] at h
    by_cases hij : i = j
    · subst hij; exact h.1
    · exact ih (j + 1) h.2 i (by omega) (by omega)
def bG_ (x : S83) : ByteArray := ah_ x.f0 ++ ah_ x.f1 ++ ab_ x.f2
def bw_ (x : S81) : ByteArray := ab_ x.f0 ++ ab_ x.f1 ++ ah_ x.f2
def az_ (a : List S83) (b : List S81) : ByteArray := ah_ (a.length : Int) ++ aq_ bG_ a ++ (ah_ (b.length : Int) ++ aq_ bw_ b)
theorem ak_ {a : List S83} {b : List S81} (h : ag_ a b = true) : (a.length ≤ 3 ∧ b.length ≤ 8) ∧
    (∀ j (hj : j < a.length), (1 ≤ a[j].f0 ∧ a[j].f0 ≤ 1000000) ∧ (0 ≤ a[j].f1 ∧ a[j].f1 ≤ 1000000) ∧ a[j].f2.size ≤ 40) ∧ (∀ j (hj : j < b.length), b[j].f0.size ≤ 8 ∧ b[j].f1.size ≤ 20 ∧ (1 ≤ b[j].f2 ∧ b[j].f2 ≤ 1000000000)) := by
  unfold ag_ at h
  simp only [Bool.and_eq_true, decide_eq_true_eq] at h
  obtain ⟨⟨hs, ha⟩, hi, hb⟩ := h
  refine ⟨⟨by omega, by omega⟩, fun j hj => ?_, fun j hj => ?_⟩
  · have := bi_ _ _ hs j (by omega) (by omega)
    unfold pS at this
    have hget : rd_T83 a (j : Int) = a[j] := by unfold rd_T83; exact aI_ _ hj
    simp only [Bool.and_eq_true, an_, decide_eq_true_eq, hget] at this
    omega
  · have := bi_ _ _ hi j (by omega) (by omega)
    unfold pI at this
    have hget : rd_T81 b (j : Int) = b[j] := by unfold rd_T81; exact aI_ _ hj
    simp only [Bool.and_eq_true, an_, decide_eq_true_eq, hget] at this
    omega
theorem bK_ (a : List S83) (b : List S81) (h : ag_ a b = true) : ∀ (d j : Nat) (acc : ByteArray), b.length - j = d → j ≤ b.length → acc.size ≤ 10000 + 100 * j → Ev (fun k => spec_KeepText.l1 k acc (j : Int) a b) (acc ++ aq_ bw_ (b.drop j), true) := by
  obtain ⟨⟨_, hl⟩, _, hI⟩ := ak_ h
  intro d
  induction d with
  | zero =>
    intro j acc hd hj ha
    rw [List.drop_of_length_le (by omega)]
    simp only [aq_, af_]
    exact Ev.step (f := fun _ => some (acc, true)) (fun k => by simp only [spec_KeepText.l1]; rw [if_neg (by omega)]) (Ev.now _)
  | succ d ih =>
    intro j acc hd hj ha
    have hjl : j < b.length := by omega
    obtain ⟨h1, h2, h3⟩ := hI j hjl
    have hget : rd_T81 b (j : Int) = b[j] := by unfold rd_T81; exact aI_ _ hjl
    refine Ev.step (fun k => rfl) ?_
    simp only [spec_KeepText.l1, if_pos (show (j : Int) < (b.length : Int) by omega), if_pos (show (0 : Int) ≤ (j : Int) by omega), hget, w64 (x := (j : Int) + 1) (by omega) (by omega)]
    have s1 := ad_ b[j].f0
    have s2 := ad_ b[j].f1
    have s3 := aa_ b[j].f2
    refine Ev.bind (aD_ b[j].f0 (by omega)) ?_
    simp only [if_pos (show acc.size + (ab_ b[j].f0).size ≤ 9223372036854775807 by omega)]
    refine Ev.bind (aD_ b[j].f1 (by omega)) ?_
    simp only [if_pos (show (acc ++ ab_ b[j].f0).size + (ab_ b[j].f1).size ≤ 9223372036854775807 by rw [ByteArray.size_append]; omega)]
    refine Ev.bind (au_ b[j].f2 (by omega) (by omega)) ?_
    simp only [if_pos (show (acc ++ ab_ b[j].f0 ++ ab_ b[j].f1).size + (ah_ b[j].f2).size ≤ 9223372036854775807 by rw [ByteArray.size_append, ByteArray.size_append]; omega)]
    have := ih (j + 1) (acc ++ ab_ b[j].f0 ++ ab_ b[j].f1 ++ ah_ b[j].f2) (by omega) (by omega) (by rw [ByteArray.size_append, ByteArray.size_append, ByteArray.size_append]; omega)
    rw [List.drop_eq_getElem_cons hjl, aq_, bw_]
    simp only [ByteArray.append_assoc] at this ⊢
    exact this
theorem cb_ (a : List S83) (b : List S81) (h : ag_ a b = true) : ∀ (d j : Nat) (acc : ByteArray), a.length - j = d → j ≤ a.length → acc.size ≤ 1000 + 100 * j → Ev (fun k => spec_KeepText.l0 k acc (j : Int) a b) (acc ++ aq_ bG_ (a.drop j) ++ (ah_ (b.length : Int) ++ aq_ bw_ b), true) := by
  obtain ⟨⟨hl, hl2⟩, hS, _⟩ := ak_ h
  intro d
  induction d with
  | zero =>
    intro j acc hd hj ha
    rw [List.drop_of_length_le (by omega)]
    simp only [aq_, af_]
    have s0 := aa_ (b.length : Int)
    refine Ev.step (fun k => rfl) ?_
    simp only [spec_KeepText.l0, if_neg (show ¬ (j : Int) < (a.length : Int) by omega)]
    refine Ev.bind (au_ (b.length : Int) (by omega) (by omega)) ?_
    simp only [if_pos (show acc.size + (ah_ (b.length : Int)).size ≤ 9223372036854775807 by omega)]
    have := bK_ a b h b.length 0 (acc ++ ah_ (b.length : Int)) (by omega) (by omega) (by rw [ByteArray.size_append]; omega)
    simp only [List.drop_zero, ByteArray.append_assoc] at this
    exact this
  | succ d ih =>
    intro j acc hd hj ha
    have hjl : j < a.length := by omega
    obtain ⟨h1, h2, h3⟩ := hS j hjl
    have hget : rd_T83 a (j : Int) = a[j] := by unfold rd_T83; exact aI_ _ hjl
    refine Ev.step (fun k => rfl) ?_
    simp only [spec_KeepText.l0, if_pos (show (j : Int) < (a.length : Int) by omega), if_pos (show (0 : Int) ≤ (j : Int) by omega), hget, w64 (x := (j : Int) + 1) (by omega) (by omega)]
    have s1 := aa_ a[j].f0
    have s2 := aa_ a[j].f1
    have s3 := ad_ a[j].f2
    refine Ev.bind (au_ a[j].f0 (by omega) (by omega)) ?_
    simp only [if_pos (show acc.size + (ah_ a[j].f0).size ≤ 9223372036854775807 by omega)]
    refine Ev.bind (au_ a[j].f1 (by omega) (by omega)) ?_
    simp only [if_pos (show (acc ++ ah_ a[j].f0).size + (ah_ a[j].f1).size ≤ 9223372036854775807 by rw [ByteArray.size_append]; omega)]
    refine Ev.bind (aD_ a[j].f2 (by omega)) ?_
    simp only [if_pos (show (acc ++ ah_ a[j].f0 ++ ah_ a[j].f1).size + (ab_ a[j].f2).size ≤ 9223372036854775807 by rw [ByteArray.size_append, ByteArray.size_append]; omega)]
    have := ih (j + 1) (acc ++ ah_ a[j].f0 ++ ah_ a[j].f1 ++ ab_ a[j].f2) (by omega) (by omega) (by rw [ByteArray.size_append, ByteArray.size_append, ByteArray.size_append]; omega)
    rw [List.drop_eq_getElem_cons hjl, aq_, bG_]
    simp only [ByteArray.append_assoc] at this ⊢
    exact this
theorem aJ_ (a : List S83) (b : List S81) (ha : a.length ≤ 1048576) (hb : b.length ≤ 1048576) : Ev (fun k => spec_KeepText.f k a b) (if ag_ a b = true then (az_ a b, true) else ((⟨#[]⟩ : ByteArray), false)) := by
  unfold spec_KeepText.f
  refine Ev.bind (ar_ a b ha hb) ?_
  by_cases h : ag_ a b = true
  · have s0 := aa_ (a.length : Int)
    simp only [if_pos h]
    refine Ev.bind (au_ (a.length : Int) (by omega) (by omega)) ?_
    have := cb_ a b h a.length 0 (ah_ (a.length : Int)) (by omega) (by omega) (by omega)
    simp only [List.drop_zero] at this
    exact this
  · simp only [if_neg h]
    exact Ev.now _
theorem bH_ (a : List S83) (b : List S81) (h : ag_ a b = true) : ∀ (d j : Nat) (acc : ByteArray), b.length - j = d → j ≤ b.length → acc.size ≤ 10000 + 100 * j → Ev (fun k => impl_KeepText.l1 k acc b (b.length : Int) (j : Int)) (acc ++ aq_ bw_ (b.drop j), true) := by
  obtain ⟨⟨_, hl⟩, _, hI⟩ := ak_ h
  intro d
  induction d with
  | zero =>
    intro j acc hd hj ha
    rw [List.drop_of_length_le (by omega)]
    simp only [aq_, af_]
    exact Ev.step (f := fun _ => some (acc, true)) (fun k => by simp only [impl_KeepText.l1]; rw [if_neg (by omega), if_neg (by omega)]) (Ev.now _)
  | succ d ih =>
    intro j acc hd hj ha
    have hjl : j < b.length := by omega
    obtain ⟨h1, h2, h3⟩ := hI j hjl
    have hget : rd_T81 b (j : Int) = b[j] := by unfold rd_T81; exact aI_ _ hjl
    refine Ev.step (fun k => rfl) ?_
    simp only [impl_KeepText.l1, if_pos (show (j : Int) < (b.length : Int) by omega), if_pos (show (0 : Int) ≤ (j : Int) by omega), hget, w64 (x := (j : Int) + 1) (by omega) (by omega)]
    have s1 := ad_ b[j].f0
    have s2 := ad_ b[j].f1
    have s3 := aa_ b[j].f2
    refine Ev.bind (aH_ [b[j].f0, b[j].f1] (by simp) (by simp only [List.mem_cons, List.not_mem_nil, or_false]; rintro x (rfl | rfl) <;> omega)) ?_
    refine Ev.bind (ap_ [b[j].f2] (by simp) (by simp only [List.mem_cons, List.not_mem_nil, or_false]; rintro x rfl; omega)) ?_
    simp only [aq_, af_]
    simp only [if_pos (show (ab_ b[j].f0 ++ ab_ b[j].f1).size + (ah_ b[j].f2).size ≤ 9223372036854775807 by rw [ByteArray.size_append]; omega), if_pos (show acc.size + (ab_ b[j].f0 ++ ab_ b[j].f1 ++ ah_ b[j].f2).size ≤ 9223372036854775807 by rw [ByteArray.size_append, ByteArray.size_append]; omega)]
    have := ih (j + 1) (acc ++ (ab_ b[j].f0 ++ ab_ b[j].f1 ++ ah_ b[j].f2)) (by omega) (by omega) (by rw [ByteArray.size_append, ByteArray.size_append, ByteArray.size_append]; omega)
    rw [List.drop_eq_getElem_cons hjl, aq_, bw_]
    simp only [ByteArray.append_assoc] at this ⊢
    exact this
theorem cd_ (a : List S83) (b : List S81) (h : ag_ a b = true) : ∀ (d j : Nat) (acc : ByteArray), a.length - j = d → j ≤ a.length → acc.size ≤ 1000 + 100 * j → Ev (fun k => impl_KeepText.l0 k acc a (a.length : Int) (j : Int) a b) (acc ++ aq_ bG_ (a.drop j) ++ (ah_ (b.length : Int) ++ aq_ bw_ b), true) := by
  obtain ⟨⟨hl, hl2⟩, hS, _⟩ := ak_ h
  intro d
  induction d with
  | zero =>
    intro j acc hd hj ha
    rw [List.drop_of_length_le (by omega)]
    simp only [aq_, af_]
    have s0 := aa_ (b.length : Int)
    refine Ev.step (fun k => rfl) ?_
    simp only [impl_KeepText.l0, if_neg (show ¬ (j : Int) < (a.length : Int) by omega)]
    refine Ev.bind (ap_ [(b.length : Int)] (by simp) (by simp only [List.mem_cons, List.not_mem_nil, or_false]; rintro x rfl; omega)) ?_
    simp only [aq_, af_]
    simp only [if_pos (show acc.size + (ah_ (b.length : Int)).size ≤ 9223372036854775807 by omega)]
    have := bH_ a b h b.length 0 (acc ++ ah_ (b.length : Int)) (by omega) (by omega) (by rw [ByteArray.size_append]; omega)
    simp only [List.drop_zero, ByteArray.append_assoc] at this
    exact this
  | succ d ih =>
    intro j acc hd hj ha
    have hjl : j < a.length := by omega
    obtain ⟨h1, h2, h3⟩ := hS j hjl
    have hget : rd_T83 a (j : Int) = a[j] := by unfold rd_T83; exact aI_ _ hjl
    refine Ev.step (fun k => rfl) ?_
    simp only [impl_KeepText.l0, if_pos (show (j : Int) < (a.length : Int) by omega), if_pos (show (0 : Int) ≤ (j : Int) by omega), hget, w64 (x := (j : Int) + 1) (by omega) (by omega)]
    have s1 := aa_ a[j].f0
    have s2 := aa_ a[j].f1
    have s3 := ad_ a[j].f2
    refine Ev.bind (ap_ [a[j].f0, a[j].f1] (by simp) (by simp only [List.mem_cons, List.not_mem_nil, or_false]; rintro x (rfl | rfl) <;> omega)) ?_
    refine Ev.bind (aH_ [a[j].f2] (by simp) (by simp only [List.mem_cons, List.not_mem_nil, or_false]; rintro x rfl; omega)) ?_
    simp only [aq_, af_]
    simp only [if_pos (show (ah_ a[j].f0 ++ ah_ a[j].f1).size + (ab_ a[j].f2).size ≤ 9223372036854775807 by rw [ByteArray.size_append]; omega), if_pos (show acc.size + (ah_ a[j].f0 ++ ah_ a[j].f1 ++ ab_ a[j].f2).size ≤ 9223372036854775807 by rw [ByteArray.size_append, ByteArray.size_append]; omega)]
    have := ih (j + 1) (acc ++ (ah_ a[j].f0 ++ ah_ a[j].f1 ++ ab_ a[j].f2)) (by omega) (by omega) (by rw [ByteArray.size_append, ByteArray.size_append, ByteArray.size_append]; omega)
    rw [List.drop_eq_getElem_cons hjl, aq_, bG_]
    simp only [ByteArray.append_assoc] at this ⊢
    exact this
theorem aK_ (a : List S83) (b : List S81) (ha : a.length ≤ 1048576) (hb : b.length ≤ 1048576) : Ev (fun k => impl_KeepText.f k a b) (if ag_ a b = true then (az_ a b, true) else ((⟨#[]⟩ : ByteArray), false)) := by
  unfold impl_KeepText.f
  refine Ev.bind (aP_ a b ha hb) ?_
  by_cases h : ag_ a b = true
  · have s0 := aa_ (a.length : Int)
    simp only [if_pos h]
    refine Ev.bind (ap_ [(a.length : Int)] (by simp) (by simp only [List.mem_cons, List.not_mem_nil, or_false]; rintro x rfl; omega)) ?_
    simp only [aq_, af_]
    have := cd_ a b h a.length 0 (ah_ (a.length : Int)) (by omega) (by omega) (by omega)
    simp only [List.drop_zero] at this
    exact this
  · simp only [if_neg h]
    exact Ev.now _

/-! ### bE_ -/
def ae_ : List S83 × List S81 × Bool := ([], [], false)
theorem aZ_ (s : ByteArray) (a : Int) : al_ s a true = (0, s, a, true) := by unfold al_; rw [if_pos rfl]
theorem cI_ (s : ByteArray) (a : Int) : bp_ s a true = ((⟨#[]⟩ : ByteArray), s, a, true) := by unfold bp_; rw [if_pos rfl]
theorem br_ (s : ByteArray) (a : Int) (b : Bool) : (al_ s a b).2.1 = s := by
  unfold al_
  split
  · rfl
  · split <;> rfl
theorem cw_ (s : ByteArray) (a : Int) (b : Bool) : (bp_ s a b).2.1 = s := by
  unfold bp_
  split
  · rfl
  · split <;> rfl
theorem dR_ (s : ByteArray) (a : Int) (b : Bool) : 0 ≤ (al_ s a b).1 ∧ (al_ s a b).1 ≤ 1000000000 := by
  unfold al_
  split
  · exact ⟨by show (0 : Int) ≤ 0; omega, by show (0 : Int) ≤ 1000000000; omega⟩
  · split
    · rename_i h
      have hv := bk_ (s := s) (a := a) (v := (ac_ s a).1) (nx := (ac_ s a).2.1) (by rw [← h])
      exact hv.2.1
    · exact ⟨by show (0 : Int) ≤ 0; omega, by show (0 : Int) ≤ 1000000000; omega⟩
def ai_ (s : ByteArray) (a : Int) (b : Bool) : S83 × Int × Bool :=
  let p := al_ s a b
  let q := al_ s p.2.2.1 p.2.2.2
  let r := bp_ s q.2.2.1 q.2.2.2
  (⟨p.1, q.1, r.1⟩, r.2.2.1, r.2.2.2)
def av_ (s : ByteArray) (a : Int) (b : Bool) : S81 × Int × Bool :=
  let p := bp_ s a b
  let q := bp_ s p.2.2.1 p.2.2.2
  let r := al_ s q.2.2.1 q.2.2.2
  (⟨p.1, q.1, r.1⟩, r.2.2.1, r.2.2.2)
theorem dj_ (s : ByteArray) (a : Int) : (ai_ s a true).2.2 = true := by simp only [ai_, aZ_, cI_]
theorem cm_ (s : ByteArray) (a : Int) : (av_ s a true).2.2 = true := by simp only [av_, aZ_, cI_]
theorem cA_ {s p : ByteArray} {a : Int} {b : Bool} (h : bx_ s p a b) : bx_ s (p ++ bG_ (ai_ s a b).1) (ai_ s a b).2.1 (ai_ s a b).2.2 := by
  have h1 := (aC_ h).2.1
  have h2 := (aC_ h1).2.1
  have h3 := (aW_ h2).2.1
  simp only [ai_, bG_]
  simp only [ByteArray.append_assoc] at h3 ⊢
  exact h3
theorem cP_ {s p : ByteArray} {a : Int} {b : Bool} (h : bx_ s p a b) : bx_ s (p ++ bw_ (av_ s a b).1) (av_ s a b).2.1 (av_ s a b).2.2 := by
  have h1 := (aW_ h).2.1
  have h2 := (aW_ h1).2.1
  have h3 := (aC_ h2).2.1
  simp only [av_, bw_]
  simp only [ByteArray.append_assoc] at h3 ⊢
  exact h3
def goU {α : Type} (one : Int → Bool → α × Int × Bool) (n : Int) : Nat → Int → Bool → List α → List α × Int × Bool
  | 0, a, b, acc => (acc, a, b)
  | d + 1, a, b, acc => if (acc.length : Int) < n ∧ b = false then goU one n d (one a b).2.1 (one a b).2.2 (acc ++ [(one a b).1]) else (acc, a, b)
def goA {α : Type} (one : Int → Bool → α × Int × Bool) : Nat → Int → Bool → List α → List α × Int × Bool
  | 0, a, b, acc => (acc, a, b)
  | d + 1, a, b, acc => goA one d (one a b).2.1 (one a b).2.2 (acc ++ [(one a b).1])
theorem cE_ {α : Type} {one : Int → Bool → α × Int × Bool} (h : ∀ a, (one a true).2.2 = true) : ∀ d a acc, (goA one d a true acc).2.2 = true := by
  intro d
  induction d with
  | zero => intro a acc; rfl
  | succ d ih => intro a acc; simp only [goA, h a]; exact ih _ _
theorem bM_ {α : Type} {one : Int → Bool → α × Int × Bool} : ∀ d a b acc, (goA one d a b acc).1.length = acc.length + d := by
  intro d
  induction d with
  | zero => intro a b acc; rfl
  | succ d ih => intro a b acc; simp only [goA]; rw [ih, List.length_append, List.length_singleton]; omega
theorem cH_ {α : Type} {one : Int → Bool → α × Int × Bool} {n : Int} : ∀ d a acc, goU one n d a true acc = (acc, a, true) := by
  intro d a acc
  cases d with
  | zero => rfl
  | succ d => simp only [goU]; rw [if_neg (by simp)]
theorem dE_ {α : Type} {one : Int → Bool → α × Int × Bool} {n : Int} : ∀ d a b (acc : List α), ¬ ((acc.length : Int) < n) → goU one n d a b acc = (acc, a, b) := by
  intro d a b acc h
  cases d with
  | zero => rfl
  | succ d => simp only [goU]; rw [if_neg (fun hh => h hh.1)]
theorem bR_ {α : Type} {one : Int → Bool → α × Int × Bool} {n : Int} : ∀ d a b (acc : List α), (goU one n d a b acc).1.length ≤ acc.length + d ∧ ((goU one n d a b acc).2.2 = true ∨ n ≤ ((goU one n d a b acc).1.length : Int) ∨ (goU one n d a b acc).1.length = acc.length + d) := by
  intro d
  induction d with
  | zero => intro a b acc; exact ⟨by simp only [goU]; omega, .inr (.inr rfl)⟩
  | succ d ih =>
    intro a b acc
    simp only [goU]
    by_cases h : (acc.length : Int) < n ∧ b = false
    · simp only [if_pos h]
      have := ih (one a b).2.1 (one a b).2.2 (acc ++ [(one a b).1])
      rw [List.length_append, List.length_singleton] at this
      refine ⟨by omega, ?_⟩
      rcases this.2 with h1 | h1 | h1
      · exact .inl h1
      · exact .inr (.inl h1)
      · exact .inr (.inr (by omega))
    · simp only [if_neg h]
      refine ⟨by omega, ?_⟩
      cases b with
      | true => exact .inl rfl
      | false => exact .inr (.inl (by have : ¬ (acc.length : Int) < n := fun hh => h ⟨hh, rfl⟩; omega))
theorem do_ {α : Type} {one : Int → Bool → α × Int × Bool} (h : ∀ a, (one a true).2.2 = true) {n : Int} : ∀ (d d2 : Nat) (a : Int) (b : Bool) (acc : List α), (acc.length : Int) + d = n → d ≤ d2 →
    (goU one n d2 a b acc).2.2 = (goA one d a b acc).2.2 ∧ ((goA one d a b acc).2.2 = false → goU one n d2 a b acc = goA one d a b acc) := by
  intro d
  induction d with
  | zero =>
    intro d2 a b acc hn hd
    rw [dE_ d2 a b acc (by omega)]
    exact ⟨rfl, fun _ => rfl⟩
  | succ d ih =>
    intro d2 a b acc hn hd
    obtain ⟨d2, rfl⟩ : ∃ m, d2 = m + 1 := ⟨d2 - 1, by omega⟩
    cases b with
    | true =>
      rw [cH_, cE_ h]
      exact ⟨rfl, fun hh => by cases hh⟩
    | false =>
      simp only [goU, goA]
      rw [if_pos ⟨by omega, trivial⟩]
      exact ih d2 _ _ _ (by rw [List.length_append, List.length_singleton]; omega) (by omega)
theorem ck_ {α : Type} {one : Int → Bool → α × Int × Bool} {enc : α → ByteArray} {s : ByteArray} (h : ∀ p a b, bx_ s p a b → bx_ s (p ++ enc (one a b).1) (one a b).2.1 (one a b).2.2) : ∀ d p a b acc, bx_ s (p ++ aq_ enc acc) a b → bx_ s (p ++ aq_ enc (goA one d a b acc).1) (goA one d a b acc).2.1 (goA one d a b acc).2.2 := by
  have hc : ∀ (l : List α) (x : α), aq_ enc (l ++ [x]) = aq_ enc l ++ enc x := by
    intro l x
    induction l with
    | nil => simp only [List.nil_append, aq_, af_, aV_]
    | cons y l ih => simp only [List.cons_append, aq_, ih, ByteArray.append_assoc]
  intro d
  induction d with
  | zero => intro p a b acc hr; exact hr
  | succ d ih =>
    intro p a b acc hr
    simp only [goA]
    apply ih
    rw [hc, ← ByteArray.append_assoc]
    exact h _ _ _ hr
theorem aG_ (s : ByteArray) (a : Int) (b : Bool) (c : Int) (hs : s.size ≤ 9000000000000000000) : Ev (fun k => impl_scan_count.f k s a b c) (if (al_ s a b).1 > c then (0, s, (al_ s a b).2.2.1, true) else (al_ s a b)) := by
  unfold impl_scan_count.f
  refine Ev.bind (aj_ s a b hs) ?_
  by_cases h : (al_ s a b).1 > c
  · simp only [if_pos h, br_]
    exact Ev.now _
  · simp only [if_neg h]
    exact Ev.now _
theorem cn_ (s : ByteArray) (hs : s.size ≤ 9000000000000000000) (n : Int) (hn : n ≤ 100) (r : List S83 × List S81 × Bool) : ∀ (d : Nat) (a : Int) (b : Bool) (acc : List S83), (acc.length : Int) + d = n →
    Ev (fun k => (impl_scan_count.f k s (goA (ai_ s) d a b acc).2.1 (goA (ai_ s) d a b acc).2.2 8).bind fun bt => impl_ReadKeep.l1 k bt.1 0 bt.2.1 bt.2.2.1 bt.2.2.2 (goA (ai_ s) d a b acc).1 []) r →
    Ev (fun k => impl_ReadKeep.l0 k n (acc.length : Int) s a b acc) r := by
  intro d
  induction d with
  | zero =>
    intro a b acc hd hr
    refine Ev.step (fun k => by simp only [impl_ReadKeep.l0]; rw [if_neg (by omega)]) ?_
    exact hr
  | succ d ih =>
    intro a b acc hd hr
    refine Ev.step (fun k => by simp only [impl_ReadKeep.l0]; rw [if_pos (by omega)]) ?_
    refine Ev.bind (aj_ s a b hs) ?_
    simp only [br_]
    refine Ev.bind (aj_ s _ _ hs) ?_
    simp only [br_]
    refine Ev.bind (ax_ s _ _ hs) ?_
    simp only [cw_]
    rw [w64 (x := (acc.length : Int) + 1) (by omega) (by omega)]
    simp only [if_pos (show acc.length < 4398046511104 by omega)]
    have := ih (ai_ s a b).2.1 (ai_ s a b).2.2 (acc ++ [(ai_ s a b).1]) (by rw [List.length_append, List.length_singleton]; omega) hr
    rw [List.length_append, List.length_singleton] at this
    exact this
theorem bF_ (s : ByteArray) (hs : s.size ≤ 9000000000000000000) (n : Int) (hn : n ≤ 100) (A : List S83) (r : List S83 × List S81 × Bool) : ∀ (d : Nat) (a : Int) (b : Bool) (acc : List S81), (acc.length : Int) + d = n →
    Ev (fun k => (impl_scan_done.f s (goA (av_ s) d a b acc).2.1 (goA (av_ s) d a b acc).2.2).bind fun bt266 => (if bt266.1 = true then ((impl_KeepOk.f k A (goA (av_ s) d a b acc).1).bind fun t270 => (if t270 = true then (some (A, (goA (av_ s) d a b acc).1, true)) else (some (ae_)))) else (some (ae_)))) r →
    Ev (fun k => impl_ReadKeep.l1 k n (acc.length : Int) s a b A acc) r := by
  intro d
  induction d with
  | zero =>
    intro a b acc hd hr
    refine Ev.step (fun k => by simp only [impl_ReadKeep.l1]; rw [if_neg (by omega)]) ?_
    exact hr
  | succ d ih =>
    intro a b acc hd hr
    refine Ev.step (fun k => by simp only [impl_ReadKeep.l1]; rw [if_pos (by omega)]) ?_
    refine Ev.bind (ax_ s a b hs) ?_
    simp only [cw_]
    refine Ev.bind (ax_ s _ _ hs) ?_
    simp only [cw_]
    refine Ev.bind (aj_ s _ _ hs) ?_
    simp only [br_]
    rw [w64 (x := (acc.length : Int) + 1) (by omega) (by omega)]
    simp only [if_pos (show acc.length < 3518437208883 by omega)]
    have := ih (av_ s a b).2.1 (av_ s a b).2.2 (acc ++ [(av_ s a b).1]) (by rw [List.length_append, List.length_singleton]; omega) hr
    rw [List.length_append, List.length_singleton] at this
    exact this
theorem bJ_ (s : ByteArray) (A : List S83) (B : List S81) (a : Int) (b : Bool) (ha : A.length ≤ 1000) (hb : B.length ≤ 1000) : Ev (fun k => (impl_scan_done.f s a b).bind fun bt266 => (if bt266.1 = true then ((impl_KeepOk.f k A B).bind fun t270 => (if t270 = true then (some (A, B, true)) else (some (ae_)))) else (some (ae_)))) (if b = false ∧ a = (s.size : Int) ∧ ag_ A B = true then (A, B, true) else ae_) := by
  cases b with
  | true =>
    simp only [bO_, Option.bind_some, Bool.false_eq_true, if_false]
    rw [if_neg (by simp)]
    exact Ev.now _
  | false =>
    simp only [bm_, Option.bind_some]
    by_cases h : a = (s.size : Int)
    · simp only [h, beq_self_eq_true, if_true]
      refine Ev.bind (aP_ A B (by omega) (by omega)) ?_
      by_cases hk : ag_ A B = true
      · simp only [if_pos hk, hk, and_self, if_true]; exact Ev.now _
      · simp only [hk, and_false, if_false, Bool.false_eq_true]; exact Ev.now _
    · simp only [beq_eq_false_iff_ne.2 h, Bool.false_eq_true, if_false, h, false_and, and_false]
      exact Ev.now _
theorem cS_ (s : ByteArray) (hs : s.size ≤ 9000000000000000000) (n : Int) (r : List S83 × List S81 × Bool) : ∀ (d : Nat) (a : Int) (b : Bool) (acc : List S83), acc.length + d = 50 →
    Ev (fun k => (spec_l16Var.f k s (goU (ai_ s) n d a b acc).2.1 (goU (ai_ s) n d a b acc).2.2).bind fun bt => spec_ReadKeep.l1 k s bt.1 0 bt.2.1 bt.2.2.1 bt.2.2.2 (goU (ai_ s) n d a b acc).1 []) r →
    Ev (fun k => spec_ReadKeep.l0 k s n (acc.length : Int) s a b acc) r := by
  intro d
  have hout : ∀ x7 (a : Int) (b : Bool) (acc : List S83), Ev (fun k => (spec_l16Var.f k s a b).bind fun bt => spec_ReadKeep.l1 k s bt.1 0 bt.2.1 bt.2.2.1 bt.2.2.2 acc []) r → Ev (fun k => spec_ReadKeep.j1 k s n x7 false s a b acc) r := by
    intro x7 a b acc hr
    exact Ev.step (fun k => by simp only [spec_ReadKeep.j1, Bool.false_eq_true, if_false]) hr
  induction d with
  | zero =>
    intro a b acc hd hr
    refine Ev.step (f := fun k => spec_ReadKeep.j1 k s n (acc.length : Int) false s a b acc) (fun k => ?_) (hout _ _ _ _ hr)
    simp only [spec_ReadKeep.l0]
    by_cases h : (acc.length : Int) < n
    · rw [if_pos h, if_neg (by omega)]
    · rw [if_neg h]
  | succ d ih =>
    intro a b acc hd hr
    by_cases h : (acc.length : Int) < n ∧ b = false
    · obtain ⟨h, rfl⟩ := h
      have hg : ∀ a, goU (ai_ s) n (d + 1) a false acc = goU (ai_ s) n d (ai_ s a false).2.1 (ai_ s a false).2.2 (acc ++ [(ai_ s a false).1]) := fun a => by simp only [goU]; rw [if_pos ⟨h, trivial⟩]
      rw [hg] at hr
      refine Ev.step (f := fun k => spec_ReadKeep.j1 k s n (acc.length : Int) true s a false acc) (fun k => by simp only [spec_ReadKeep.l0]; rw [if_pos h, if_pos (by omega)]; rfl) ?_
      refine Ev.step (fun k => by simp only [spec_ReadKeep.j1, if_true]; rfl) ?_
      refine Ev.bind (aA_ s a false hs) ?_
      simp only [br_]
      refine Ev.bind (aA_ s _ _ hs) ?_
      simp only [br_]
      refine Ev.bind (aT_ s _ _ hs) ?_
      simp only [cw_]
      rw [w64 (x := (acc.length : Int) + 1) (by omega) (by omega)]
      simp only [if_pos (show acc.length < 4398046511104 by omega)]
      have := ih (ai_ s a false).2.1 (ai_ s a false).2.2 (acc ++ [(ai_ s a false).1]) (by rw [List.length_append, List.length_singleton]; omega) hr
      rw [List.length_append, List.length_singleton] at this
      exact this
    · have hg : goU (ai_ s) n (d + 1) a b acc = (acc, a, b) := by simp only [goU]; rw [if_neg h]
      rw [hg] at hr
      refine Ev.step (f := fun k => spec_ReadKeep.j1 k s n (acc.length : Int) false s a b acc) (fun k => ?_) (hout _ _ _ _ hr)
      simp only [spec_ReadKeep.l0]
      by_cases h1 : (acc.length : Int) < n
      · rw [if_pos h1, if_pos (by omega)]
        cases b with
        | true => rfl
        | false => exact absurd ⟨h1, rfl⟩ h
      · rw [if_neg h1]
theorem cX_ (s : ByteArray) (hs : s.size ≤ 9000000000000000000) (n : Int) (A : List S83) (r : List S83 × List S81 × Bool) : ∀ (d : Nat) (a : Int) (b : Bool) (acc : List S81), acc.length + d = 50 →
    Ev (fun k => (spec_KeepText.f k A (goU (av_ s) n d a b acc).1).bind fun bt193 => (if (goU (av_ s) n d a b acc).2.2 = true then (some (ae_)) else (if bt193.2 = true then (if bt193.1.toList = s.toList then (some (A, (goU (av_ s) n d a b acc).1, true)) else (some (ae_))) else (some (ae_))))) r →
    Ev (fun k => spec_ReadKeep.l1 k s n (acc.length : Int) s a b A acc) r := by
  intro d
  have hout : ∀ x9 (a : Int) (b : Bool) (acc : List S81), Ev (fun k => (spec_KeepText.f k A acc).bind fun bt193 => (if b = true then (some (ae_)) else (if bt193.2 = true then (if bt193.1.toList = s.toList then (some (A, acc, true)) else (some (ae_))) else (some (ae_))))) r → Ev (fun k => spec_ReadKeep.j3 k s n x9 false s a b A acc) r := by
    intro x9 a b acc hr
    first
      | exact Ev.step (fun k => by simp only [spec_ReadKeep.j3, Bool.false_eq_true, if_false]; rfl) hr
      | (refine Ev.step (fun k => by simp only [spec_ReadKeep.j3, Bool.false_eq_true, if_false]; rfl) ?_
         obtain ⟨K, hr⟩ := hr
         refine ⟨K + 1, fun k hk => ?_⟩
         obtain ⟨m, rfl⟩ : ∃ m, k = m + 1 := ⟨k - 1, by omega⟩
         rw [← hr (m + 1) (by omega)]
         refine congrArg (Option.bind _) (funext fun bt => ?_)
         simp only [spec_ReadKeep.j4]
         cases b <;> cases bt.2 <;> by_cases hq : bt.1.toList = s.toList <;> simp [hq, ae_])
  induction d with
  | zero =>
    intro a b acc hd hr
    refine Ev.step (f := fun k => spec_ReadKeep.j3 k s n (acc.length : Int) false s a b A acc) (fun k => ?_) (hout _ _ _ _ hr)
    simp only [spec_ReadKeep.l1]
    by_cases h : (acc.length : Int) < n
    · rw [if_pos h, if_neg (by omega)]
    · rw [if_neg h]
  | succ d ih =>
    intro a b acc hd hr
    by_cases h : (acc.length : Int) < n ∧ b = false
    · obtain ⟨h, rfl⟩ := h
      have hg : ∀ a, goU (av_ s) n (d + 1) a false acc = goU (av_ s) n d (av_ s a false).2.1 (av_ s a false).2.2 (acc ++ [(av_ s a false).1]) := fun a => by simp only [goU]; rw [if_pos ⟨h, trivial⟩]
      rw [hg] at hr
      refine Ev.step (f := fun k => spec_ReadKeep.j3 k s n (acc.length : Int) true s a false A acc) (fun k => by simp only [spec_ReadKeep.l1]; rw [if_pos h, if_pos (by omega)]; rfl) ?_
      refine Ev.step (fun k => by simp only [spec_ReadKeep.j3, if_true]; rfl) ?_
      refine Ev.bind (aT_ s a false hs) ?_
      simp only [cw_]
      refine Ev.bind (aT_ s _ _ hs) ?_
      simp only [cw_]
      refine Ev.bind (aA_ s _ _ hs) ?_
      simp only [br_]
      rw [w64 (x := (acc.length : Int) + 1) (by omega) (by omega)]
      simp only [if_pos (show acc.length < 3518437208883 by omega)]
      have := ih (av_ s a false).2.1 (av_ s a false).2.2 (acc ++ [(av_ s a false).1]) (by rw [List.length_append, List.length_singleton]; omega) hr
      rw [List.length_append, List.length_singleton] at this
      exact this
    · have hg : goU (av_ s) n (d + 1) a b acc = (acc, a, b) := by simp only [goU]; rw [if_neg h]
      rw [hg] at hr
      refine Ev.step (f := fun k => spec_ReadKeep.j3 k s n (acc.length : Int) false s a b A acc) (fun k => ?_) (hout _ _ _ _ hr)
      simp only [spec_ReadKeep.l1]
      by_cases h1 : (acc.length : Int) < n
      · rw [if_pos h1, if_pos (by omega)]
        cases b with
        | true => rfl
        | false => exact absurd ⟨h1, rfl⟩ h
      · rw [if_neg h1]
theorem cY_ (s : ByteArray) (A : List S83) (B : List S81) (b : Bool) (ha : A.length ≤ 1000) (hb : B.length ≤ 1000) : Ev (fun k => (spec_KeepText.f k A B).bind fun bt193 => (if b = true then (some (ae_)) else (if bt193.2 = true then (if bt193.1.toList = s.toList then (some (A, B, true)) else (some (ae_))) else (some (ae_))))) (if b = false ∧ az_ A B = s ∧ ag_ A B = true then (A, B, true) else ae_) := by
  refine Ev.bind (aJ_ A B (by omega) (by omega)) ?_
  cases b with
  | true =>
    simp only [if_true]
    rw [if_neg (by simp)]
    exact Ev.now _
  | false =>
    by_cases hk : ag_ A B = true
    · simp only [if_pos hk, hk, Bool.false_eq_true, if_false, if_true, aF_, and_true, true_and]
      by_cases ht : az_ A B = s
      · simp only [if_pos ht]; exact Ev.now _
      · simp only [if_neg ht]; exact Ev.now _
    · simp only [if_neg hk, Bool.false_eq_true, if_false, hk, and_false]
      exact Ev.now _

/-! ### rkboth -/
theorem dT_ {A : List S83} {B : List S81} {p : Prop} [Decidable p] : ((if p ∧ ag_ A B = true then (A, B, true) else ae_).1.length ≤ 3 ∧ (if p ∧ ag_ A B = true then (A, B, true) else ae_).2.1.length ≤ 8) := by
  by_cases h : p ∧ ag_ A B = true
  · rw [if_pos h]
    exact (ak_ h.2).1
  · rw [if_neg h]
    exact ⟨by simp [ae_], by simp [ae_]⟩
theorem ee_ {A : List S83} {B : List S81} {s : ByteArray} {p : Prop} [Decidable p] (hp : p → az_ A B = s) : ((if p ∧ ag_ A B = true then (A, B, true) else ae_).2.2 = true → ag_ (if p ∧ ag_ A B = true then (A, B, true) else ae_).1 (if p ∧ ag_ A B = true then (A, B, true) else ae_).2.1 = true ∧ az_ (if p ∧ ag_ A B = true then (A, B, true) else ae_).1 (if p ∧ ag_ A B = true then (A, B, true) else ae_).2.1 = s) := by
  by_cases h : p ∧ ag_ A B = true
  · rw [if_pos h]
    exact fun _ => ⟨h.2, hp h.1⟩
  · rw [if_neg h]
    exact fun hh => by cases hh
theorem bE_ (s : ByteArray) (hs : s.size ≤ 9000000000000000000) : ∃ r : List S83 × List S81 × Bool, Ev (fun k => spec_ReadKeep.f k s) r ∧ Ev (fun k => impl_ReadKeep.f k s) r ∧ r.1.length ≤ 3 ∧ r.2.1.length ≤ 8 ∧ (r.2.2 = true → ag_ r.1 r.2.1 = true ∧ az_ r.1 r.2.1 = s) := by
  have R0 : bx_ s (⟨#[]⟩ : ByteArray) 0 false := .inr ⟨rfl, by omega, by omega, aU_ (by rw [aM_]; rfl)⟩
  have hv := dR_ s 0 false
  have R1 := (aC_ R0).2.1
  rw [aV_] at R1
  have e0 := br_ s 0 false
  rcases q1 : al_ s 0 false with ⟨v, s1, i1, c1⟩
  rw [q1] at hv R1 e0
  simp only at hv R1 e0
  subst s1
  -- what the spec comes to
  have hS : Ev (fun k => spec_ReadKeep.f k s) (if (goU (av_ s) (al_ s (goU (ai_ s) v 50 i1 c1 []).2.1 (goU (ai_ s) v 50 i1 c1 []).2.2).1 50 (al_ s (goU (ai_ s) v 50 i1 c1 []).2.1 (goU (ai_ s) v 50 i1 c1 []).2.2).2.2.1 (al_ s (goU (ai_ s) v 50 i1 c1 []).2.1 (goU (ai_ s) v 50 i1 c1 []).2.2).2.2.2 []).2.2 = false ∧
      az_ (goU (ai_ s) v 50 i1 c1 []).1 (goU (av_ s) (al_ s (goU (ai_ s) v 50 i1 c1 []).2.1 (goU (ai_ s) v 50 i1 c1 []).2.2).1 50 (al_ s (goU (ai_ s) v 50 i1 c1 []).2.1 (goU (ai_ s) v 50 i1 c1 []).2.2).2.2.1 (al_ s (goU (ai_ s) v 50 i1 c1 []).2.1 (goU (ai_ s) v 50 i1 c1 []).2.2).2.2.2 []).1 = s ∧
      ag_ (goU (ai_ s) v 50 i1 c1 []).1 (goU (av_ s) (al_ s (goU (ai_ s) v 50 i1 c1 []).2.1 (goU (ai_ s) v 50 i1 c1 []).2.2).1 50 (al_ s (goU (ai_ s) v 50 i1 c1 []).2.1 (goU (ai_ s) v 50 i1 c1 []).2.2).2.2.1 (al_ s (goU (ai_ s) v 50 i1 c1 []).2.1 (goU (ai_ s) v 50 i1 c1 []).2.2).2.2.2 []).1 = true
      then ((goU (ai_ s) v 50 i1 c1 []).1, (goU (av_ s) (al_ s (goU (ai_ s) v 50 i1 c1 []).2.1 (goU (ai_ s) v 50 i1 c1 []).2.2).1 50 (al_ s (goU (ai_ s) v 50 i1 c1 []).2.1 (goU (ai_ s) v 50 i1 c1 []).2.2).2.2.1 (al_ s (goU (ai_ s) v 50 i1 c1 []).2.1 (goU (ai_ s) v 50 i1 c1 []).2.2).2.2.2 []).1, true) else ae_) := by
    unfold spec_ReadKeep.f
    refine Ev.bind (aA_ s 0 false hs) ?_
    simp only [q1]
    refine cS_ s hs v _ 50 i1 c1 [] (by simp) ?_
    refine Ev.bind (aA_ s _ _ hs) ?_
    simp only [br_]
    refine cX_ s hs _ _ _ 50 _ _ [] (by simp) ?_
    have l1 := (bR_ (one := ai_ s) (n := v) 50 i1 c1 ([] : List S83)).1
    have l2 := (bR_ (one := av_ s) (n := (al_ s (goU (ai_ s) v 50 i1 c1 []).2.1 (goU (ai_ s) v 50 i1 c1 []).2.2).1) 50 (al_ s (goU (ai_ s) v 50 i1 c1 []).2.1 (goU (ai_ s) v 50 i1 c1 []).2.2).2.2.1 (al_ s (goU (ai_ s) v 50 i1 c1 []).2.1 (goU (ai_ s) v 50 i1 c1 []).2.2).2.2.2 ([] : List S81)).1
    simp only [List.length_nil] at l1 l2
    exact cY_ s _ _ _ (by omega) (by omega)
  -- what impl comes to, from a count v of sessions
  have hI : ∀ w : Nat, w ≤ 3 → ∀ (i : Int) (c : Bool), Ev (fun k => impl_ReadKeep.l0 k (w : Int) 0 s i c []) (if ((al_ s (goA (ai_ s) w i c []).2.1 (goA (ai_ s) w i c []).2.2).1 ≤ 8 ∧ (goA (av_ s) (al_ s (goA (ai_ s) w i c []).2.1 (goA (ai_ s) w i c []).2.2).1.toNat (al_ s (goA (ai_ s) w i c []).2.1 (goA (ai_ s) w i c []).2.2).2.2.1 (al_ s (goA (ai_ s) w i c []).2.1 (goA (ai_ s) w i c []).2.2).2.2.2 []).2.2 = false ∧
      (goA (av_ s) (al_ s (goA (ai_ s) w i c []).2.1 (goA (ai_ s) w i c []).2.2).1.toNat (al_ s (goA (ai_ s) w i c []).2.1 (goA (ai_ s) w i c []).2.2).2.2.1 (al_ s (goA (ai_ s) w i c []).2.1 (goA (ai_ s) w i c []).2.2).2.2.2 []).2.1 = (s.size : Int)) ∧ ag_ (goA (ai_ s) w i c []).1 (goA (av_ s) (al_ s (goA (ai_ s) w i c []).2.1 (goA (ai_ s) w i c []).2.2).1.toNat (al_ s (goA (ai_ s) w i c []).2.1 (goA (ai_ s) w i c []).2.2).2.2.1 (al_ s (goA (ai_ s) w i c []).2.1 (goA (ai_ s) w i c []).2.2).2.2.2 []).1 = true
      then ((goA (ai_ s) w i c []).1, (goA (av_ s) (al_ s (goA (ai_ s) w i c []).2.1 (goA (ai_ s) w i c []).2.2).1.toNat (al_ s (goA (ai_ s) w i c []).2.1 (goA (ai_ s) w i c []).2.2).2.2.1 (al_ s (goA (ai_ s) w i c []).2.1 (goA (ai_ s) w i c []).2.2).2.2.2 []).1, true) else ae_) := by
    intro w hw i c
    refine cn_ s hs (w : Int) (by omega) _ w i c [] (by simp) ?_
    refine Ev.bind (aG_ s _ _ 8 hs) ?_
    have l1 := bM_ (one := ai_ s) w i c ([] : List S83)
    simp only [List.length_nil] at l1
    rcases qA : goA (ai_ s) w i c [] with ⟨A, i2, c2⟩
    rw [qA] at l1
    simp only at l1 ⊢
    have hm := dR_ s i2 c2
    have es := br_ s i2 c2
    rcases qm : al_ s i2 c2 with ⟨m, s2, i3, c3⟩
    rw [qm] at hm es
    simp only at hm es ⊢
    subst s2
    by_cases h8 : m > 8
    · simp only [if_pos h8]
      rw [if_neg (fun h => absurd h.1.1 (by omega))]
      refine bF_ s hs 0 (by omega) A _ 0 i3 true [] (by simp) ?_
      simp only [goA]
      have := bJ_ s A [] i3 true (by omega) (by simp)
      rw [if_neg (by simp)] at this
      exact this
    · simp only [if_neg h8]
      refine bF_ s hs m (by omega) A _ m.toNat i3 c3 [] (by simp; omega) ?_
      have l2 := bM_ (one := av_ s) m.toNat i3 c3 ([] : List S81)
      simp only [List.length_nil] at l2
      have hf := bJ_ s A (goA (av_ s) m.toNat i3 c3 []).1 (goA (av_ s) m.toNat i3 c3 []).2.1 (goA (av_ s) m.toNat i3 c3 []).2.2 (by omega) (by omega)
      have e : ((m ≤ 8 ∧ (goA (av_ s) m.toNat i3 c3 []).2.2 = false ∧ (goA (av_ s) m.toNat i3 c3 []).2.1 = (s.size : Int)) ∧ ag_ A (goA (av_ s) m.toNat i3 c3 []).1 = true) ↔ ((goA (av_ s) m.toNat i3 c3 []).2.2 = false ∧ (goA (av_ s) m.toNat i3 c3 []).2.1 = (s.size : Int) ∧ ag_ A (goA (av_ s) m.toNat i3 c3 []).1 = true) := ⟨fun h => ⟨h.1.2.1, h.1.2.2, h.2⟩, fun h => ⟨⟨by omega, h.1, h.2.1⟩, h.2.2⟩⟩
      simp only [e]
      exact hf
  have hI2 : (v > 3 ∧ Ev (fun k => impl_ReadKeep.f k s) ae_) ∨ (v ≤ 3 ∧ ∀ r, Ev (fun k => impl_ReadKeep.l0 k v 0 s i1 c1 []) r → Ev (fun k => impl_ReadKeep.f k s) r) := by
    by_cases h3 : v > 3
    · refine .inl ⟨h3, ?_⟩
      unfold impl_ReadKeep.f
      refine Ev.bind (aG_ s 0 false 3 hs) ?_
      simp only [q1, if_pos h3]
      have := hI 0 (by omega) i1 true
      simp only [goA, aZ_] at this
      rw [if_neg (by simp [goA])] at this
      exact this
    · refine .inr ⟨by omega, fun r hr => ?_⟩
      unfold impl_ReadKeep.f
      refine Ev.bind (aG_ s 0 false 3 hs) ?_
      simp only [q1, if_neg h3]
      exact hr
  have hrelS := do_ (one := ai_ s) (dj_ s) (n := v) v.toNat 50 i1 c1 ([] : List S83)
  have hlenS := bR_ (one := ai_ s) (n := v) 50 i1 c1 ([] : List S83)
  have hrdS := ck_ (one := ai_ s) (enc := bG_) (s := s) (fun p a b => cA_) v.toNat (ah_ v) i1 c1 [] (by simp only [aq_, af_]; exact R1)
  have hlA := bM_ (one := ai_ s) v.toNat i1 c1 ([] : List S83)
  rcases eA : goU (ai_ s) v 50 i1 c1 [] with ⟨A, i2, c2⟩
  rw [eA] at hS hrelS hlenS
  simp only at hS hrelS hlenS
  have hm := dR_ s i2 c2
  have es := br_ s i2 c2
  rcases q2 : al_ s i2 c2 with ⟨m, s2, i3, c3⟩
  rw [q2] at hS hm es
  simp only at hS hm es
  subst s2
  have hrelI := do_ (one := av_ s) (cm_ s) (n := m) m.toNat 50 i3 c3 ([] : List S81)
  have hlenI := bR_ (one := av_ s) (n := m) 50 i3 c3 ([] : List S81)
  have hbadI := cH_ (one := av_ s) (n := m) 50 i3 ([] : List S81)
  rcases eB : goU (av_ s) m 50 i3 c3 [] with ⟨B, i4, c4⟩
  rw [eB] at hS hrelI hlenI
  simp only [List.length_nil] at hS hrelI hlenI hlenS hlA
  -- where it is bad, or too long
  have no : (c4 = true ∨ v > 3 ∨ m > 8) → Ev (fun k => spec_ReadKeep.f k s) ae_ := by
    intro h
    rw [if_neg] at hS
    · exact hS
    · rintro ⟨hc, _, hk⟩
      have hl := (ak_ hk).1
      have hc2 : c2 = false := by
        cases c2 with
        | false => rfl
        | true =>
          rw [aZ_] at q2
          injection q2 with _ q2; injection q2 with _ q2; injection q2 with _ q2
          subst q2
          rw [hbadI] at eB
          injection eB with _ eB; injection eB with _ eB
          rw [← eB] at hc; cases hc
      rw [hc2] at hlenS
      rw [hc] at hlenI
      rcases h with h | h | h
      · rw [hc] at h; cases h
      · rcases hlenS.2 with h1 | h1 | h1
        · cases h1
        · omega
        · omega
      · rcases hlenI.2 with h1 | h1 | h1
        · cases h1
        · omega
        · omega
  rcases hI2 with ⟨h3, hI2⟩ | ⟨h3, hI2⟩
  · exact ⟨ae_, no (.inr (.inl h3)), hI2, by simp [ae_], by simp [ae_], by simp [ae_]⟩
  · have hI := hI v.toNat (by omega) i1 c1
    rw [show ((v.toNat : Nat) : Int) = v by omega] at hI
    have hrelS := hrelS (by simp; omega) (by omega)
    rcases eA2 : goA (ai_ s) v.toNat i1 c1 [] with ⟨A2, j2, d2⟩
    rw [eA2] at hI hrelS hrdS hlA
    simp only at hI hrelS hrdS hlA
    obtain ⟨hr1, hr2⟩ := hrelS
    subst hr1
    cases c2 with
    | true =>
      rw [aZ_] at q2
      injection q2 with qa q2; injection q2 with _ q2; injection q2 with qb q2
      subst q2
      rw [hbadI] at eB
      injection eB with _ eB; injection eB with _ eB
      rw [aZ_] at hI
      simp only at hI
      rw [if_neg (by rintro ⟨⟨_, h, _⟩, _⟩; rw [cE_ (cm_ s)] at h; cases h)] at hI
      exact ⟨ae_, no (.inl eB.symm), hI2 _ hI, by simp [ae_], by simp [ae_], by simp [ae_]⟩
    | false =>
      have hh := hr2 rfl
      injection hh with ha hh; injection hh with hb _
      subst ha hb
      rw [q2] at hI
      simp only at hI
      by_cases h8 : m > 8
      · rw [if_neg (fun h => absurd h.1.1 (by omega))] at hI
        exact ⟨ae_, no (.inr (.inr h8)), hI2 _ hI, by simp [ae_], by simp [ae_], by simp [ae_]⟩
      · have hrelI := hrelI (by simp; omega) (by omega)
        have R2 := (aC_ hrdS).2.1
        rw [q2] at R2
        simp only at R2
        have hrdI := ck_ (one := av_ s) (enc := bw_) (s := s) (fun p a b => cP_) m.toNat (ah_ v ++ aq_ bG_ A ++ ah_ m) i3 c3 [] (by simp only [aq_, af_]; exact R2)
        have hlB := bM_ (one := av_ s) m.toNat i3 c3 ([] : List S81)
        rcases eB2 : goA (av_ s) m.toNat i3 c3 [] with ⟨B2, j4, d4⟩
        rw [eB2] at hI hrelI hrdI hlB
        simp only [List.length_nil] at hI hrelI hrdI hlB
        obtain ⟨hr3, hr4⟩ := hrelI
        subst hr3
        cases c4 with
        | true =>
          rw [if_neg (by rintro ⟨⟨_, h, _⟩, _⟩; cases h)] at hI
          exact ⟨ae_, no (.inl rfl), hI2 _ hI, by simp [ae_], by simp [ae_], by simp [ae_]⟩
        | false =>
          have hh := hr4 rfl
          injection hh with ha hh; injection hh with hb _
          subst ha hb
          have hp : ah_ v ++ aq_ bG_ A ++ ah_ m ++ aq_ bw_ B = az_ A B := by
            unfold az_
            rw [show (A.length : Int) = v by omega, show (B.length : Int) = m by omega]
            simp only [ByteArray.append_assoc]
          rw [hp] at hrdI
          have he := cj_ hrdI
          have hiff : ((m ≤ 8 ∧ false = false ∧ i4 = (s.size : Int)) ∧ ag_ A B = true) ↔ ((false = false ∧ az_ A B = s) ∧ ag_ A B = true) := ⟨fun h => ⟨⟨rfl, he.2 h.1.2.2⟩, h.2⟩, fun h => ⟨⟨by omega, rfl, he.1 h.1.2⟩, h.2⟩⟩
          have hiff2 : (false = false ∧ az_ A B = s ∧ ag_ A B = true) ↔ ((false = false ∧ az_ A B = s) ∧ ag_ A B = true) := ⟨fun h => ⟨⟨rfl, h.2.1⟩, h.2.2⟩, fun h => ⟨rfl, h.1.2, h.2⟩⟩
          have f1 : ∀ (p q : Prop) (ip : Decidable p) (iq : Decidable q) (x y : List S83 × List S81 × Bool), (p ↔ q) → (@ite _ p ip x y) = (@ite _ q iq x y) := by
            intro p q ip iq x y h
            by_cases hq : q
            · rw [if_pos hq, if_pos (h.2 hq)]
            · rw [if_neg hq, if_neg (fun hp => hq (h.1 hp))]
          rw [f1 _ _ _ inferInstance _ _ hiff] at hI
          rw [f1 _ _ _ inferInstance _ _ hiff2] at hS
          have hl := dT_ (A := A) (B := B) (p := (false = false ∧ az_ A B = s))
          exact ⟨_, hS, hI2 _ hI, hl.1, hl.2, ee_ (fun h => h.2)⟩

/-! ### readfwd -/
theorem bQ_ {s : ByteArray} {p : Nat} {x : Int} {l : List Int} (h : (bytesOf s).drop p = x :: l) : p < s.size ∧ bt s (p : Int) = x ∧ (bytesOf s).drop (p + 1) = l := by
  have hl : p < (bytesOf s).length := by
    rcases Nat.lt_or_ge p (bytesOf s).length with h1 | h1
    · exact h1
    · rw [List.drop_of_length_le h1] at h; cases h
  rw [List.drop_eq_getElem_cons hl] at h
  injection h with h1 h2
  refine ⟨by rw [← bytesOf_length]; exact hl, ?_, h2⟩
  rw [dw_, ← h1]
  unfold rd
  simp [List.getD_eq_getElem?_getD, List.getElem?_eq_getElem hl]
theorem dX_ (s : ByteArray) (p : Nat) (X : Int) (hX : X ≤ 1000000000) (rest : List Int) : ∀ (d i m : Nat) (x n : Int), i + d = 5 → d ≤ m → 1 ≤ d → 0 ≤ x → n + x * 128 ^ i = X → (i = 0 ∨ 1 ≤ x) → x < 128 ^ d → (bytesOf s).drop (p + i) = as_ m x ++ rest →
    rv s (p : Int) d i n = (X, ((p + i + (as_ m x).length : Nat) : Int), true) := by
  intro d
  induction d with
  | zero => intro i m x n _ _ h; omega
  | succ d ih =>
    intro i m x n hi hm _ hx hn hz hd hb
    obtain ⟨m, rfl⟩ : ∃ q, m = q + 1 := ⟨m - 1, by omega⟩
    have hs : (128 : Int) ^ (i + 1) = 128 ^ i * 128 := Int.pow_succ 128 i
    have hsd : (128 : Int) ^ (d + 1) = 128 ^ d * 128 := Int.pow_succ 128 d
    have ep : (p : Int) + (i : Int) = ((p + i : Nat) : Int) := by omega
    unfold rv
    rw [ep]
    unfold as_ at hb ⊢
    by_cases h : x > 127
    · simp only [if_pos h, List.cons_append] at hb ⊢
      obtain ⟨h1, h2, h3⟩ := bQ_ hb
      rw [if_pos (by omega), h2, if_pos (by omega)]
      have e1 : (x % 128 + 128) % 256 % 128 = x % 128 := by omega
      rw [e1]
      have hd1 : 1 ≤ d := by
        rcases Nat.eq_zero_or_pos d with h0 | h0
        · subst h0
          rw [show (128 : Int) ^ (0 + 1) = 128 from rfl] at hd
          omega
        · exact h0
      have e2 : n + x % 128 * 128 ^ i + x / 128 * 128 ^ (i + 1) = X := by
        rw [← hn, hs]
        generalize (128 : Int) ^ i = P
        have e3 : x = 128 * (x / 128) + x % 128 := by omega
        have e4 : x * P = (128 * (x / 128)) * P + x % 128 * P := by rw [← Int.add_mul, ← e3]
        have e5 : x / 128 * (P * 128) = (128 * (x / 128)) * P := by rw [Int.mul_comm P 128, ← Int.mul_assoc, Int.mul_comm (x / 128) 128]
        omega
      have e6 : x / 128 < 128 ^ d := by
        rw [hsd] at hd
        generalize (128 : Int) ^ d = P at hd ⊢
        omega
      have := ih (i + 1) m (x / 128) (n + x % 128 * 128 ^ i) (by omega) (by omega) hd1 (by omega) e2 (.inr (by omega)) e6 (by rw [show p + (i + 1) = p + i + 1 by omega]; exact h3)
      rw [this]
      congr 2
      simp only [List.length_cons]
      omega
    · simp only [if_neg h, List.cons_append, List.nil_append] at hb ⊢
      obtain ⟨h1, h2, h3⟩ := bQ_ hb
      rw [if_pos (by omega), h2]
      have e0 : x % 256 = x := by omega
      have e1 : x % 128 = x := by omega
      rw [e0] at h2
      rw [if_neg (by omega), e0, e1, hn]
      have hc : ¬ ((0 < i ∧ x = 0) ∨ X > 1000000000) := by omega
      rw [if_neg hc]
      congr 2
theorem bZ_ {s : ByteArray} {p : Nat} {X : Int} {rest : List Int} (h0 : 0 ≤ X) (h1 : X ≤ 1000000000) (hb : (bytesOf s).drop p = as_ 8 X ++ rest) : ac_ s (p : Int) = (X, ((p + (as_ 8 X).length : Nat) : Int), true) := by
  unfold ac_
  have hl : as_ 8 X ≠ [] := by unfold as_; split <;> simp
  have hp : p < s.size := by
    cases hc : as_ 8 X with
    | nil => exact absurd hc hl
    | cons x l => rw [hc, List.cons_append] at hb; exact (bQ_ hb).1
  rw [if_pos (an_.2 ⟨by omega, by omega⟩)]
  have h2 : X < 128 ^ 5 := by
    rw [show (128 : Int) ^ 5 = 34359738368 from rfl]
    omega
  have := dX_ s p X h1 rest 5 0 8 X 0 (by omega) (by omega) (by omega) h0 (by rw [show (128 : Int) ^ 0 = 1 from rfl]; omega) (.inl rfl) h2 hb
  exact this
theorem dg_ {s : ByteArray} {p : Nat} {X : Int} {rest : List Int} (h0 : 0 ≤ X) (h1 : X ≤ 1000000000) (hb : (bytesOf s).drop p = as_ 8 X ++ rest) : al_ s (p : Int) false = (X, s, ((p + (as_ 8 X).length : Nat) : Int), false) ∧ (bytesOf s).drop (p + (as_ 8 X).length) = rest := by
  refine ⟨?_, ?_⟩
  · unfold al_
    rw [bZ_ h0 h1 hb]
    simp
  · rw [← List.drop_drop, hb, List.drop_left]

/-! ### samekeep -/
def bW_ (x y : S83) : Bool := !(!(x.f0 == y.f0) || (!(x.f1 == y.f1) || (!(x.f2.toList == y.f2.toList))))
def bS_ (x y : S81) : Bool := !(!(x.f0.toList == y.f0.toList) || (!(x.f1.toList == y.f1.toList) || (!(x.f2 == y.f2))))
def aw_ (a : List S83) (b : List S81) (c : List S83) (d : List S81) : Bool :=
  decide (a.length = c.length) && (decide (b.length = d.length) && (aQ_ (fun j => bW_ (rd_T83 a j) (rd_T83 c j)) 0 a.length && aQ_ (fun j => bS_ (rd_T81 b j) (rd_T81 d j)) 0 b.length))
theorem ea_ (a c : List S83) (ha : a.length ≤ 1048576) (hc : c.length ≤ 1048576) : Ev (fun k => impl_Session.f k a c) (decide (a.length = c.length) && aQ_ (fun j => bW_ (rd_T83 a j) (rd_T83 c j)) 0 a.length) := by
  unfold impl_Session.f
  by_cases h1 : a.length = c.length
  · have h1' : (a.length : Int) = (c.length : Int) := by omega
    simp only [if_pos h1', h1, decide_true, Bool.true_and]
    rw [← h1]
    have := bB_ (F := fun k j => impl_Session.l0 k a c (a.length : Int) (j : Int)) (n := a.length) (p := fun j => bW_ (rd_T83 a j) (rd_T83 c j)) (R := true) (fun j hj => ?_) ?_ a.length 0 (by omega) (by omega)
    · simpa using this
    · have es : ∀ k, impl_Session.l0 (k + 1) a c (a.length : Int) (j : Int) = if bW_ (rd_T83 a j) (rd_T83 c j) = false then some false else impl_Session.l0 k a c (a.length : Int) ((j + 1 : Nat) : Int) := fun k => by
        simp only [impl_Session.l0]
        rw [if_pos (by omega), if_pos (by omega), if_pos (by omega), if_pos (by omega), w64 (by omega) (by omega)]
        unfold bW_
        simp only [Bool.not_eq_false']
        rfl
      refine ⟨fun hp r hr => Ev.step (fun k => by rw [es, if_neg (by simp [hp])]) hr, fun hp => Ev.here (fun k => by rw [es, if_pos hp]) (fun _ => rfl)⟩
    · exact Ev.here (f := fun _ => some true) (fun k => by simp only [impl_Session.l0]; rw [if_neg (by omega)]) (fun _ => rfl)
  · have h1' : ¬ (a.length : Int) = (c.length : Int) := by omega
    simp only [if_neg h1', h1, decide_false, Bool.false_and]
    exact Ev.now _
theorem ei_ (a c : List S81) (ha : a.length ≤ 1048576) (hc : c.length ≤ 1048576) : Ev (fun k => impl_Item.f k a c) (decide (a.length = c.length) && aQ_ (fun j => bS_ (rd_T81 a j) (rd_T81 c j)) 0 a.length) := by
  unfold impl_Item.f
  by_cases h1 : a.length = c.length
  · have h1' : (a.length : Int) = (c.length : Int) := by omega
    simp only [if_pos h1', h1, decide_true, Bool.true_and]
    rw [← h1]
    have := bB_ (F := fun k j => impl_Item.l0 k a c (a.length : Int) (j : Int)) (n := a.length) (p := fun j => bS_ (rd_T81 a j) (rd_T81 c j)) (R := true) (fun j hj => ?_) ?_ a.length 0 (by omega) (by omega)
    · simpa using this
    · have es : ∀ k, impl_Item.l0 (k + 1) a c (a.length : Int) (j : Int) = if bS_ (rd_T81 a j) (rd_T81 c j) = false then some false else impl_Item.l0 k a c (a.length : Int) ((j + 1 : Nat) : Int) := fun k => by
        simp only [impl_Item.l0]
        rw [if_pos (by omega), if_pos (by omega), if_pos (by omega), if_pos (by omega), w64 (by omega) (by omega)]
        unfold bS_
        simp only [Bool.not_eq_false']
        rfl
      refine ⟨fun hp r hr => Ev.step (fun k => by rw [es, if_neg (by simp [hp])]) hr, fun hp => Ev.here (fun k => by rw [es, if_pos hp]) (fun _ => rfl)⟩
    · exact Ev.here (f := fun _ => some true) (fun k => by simp only [impl_Item.l0]; rw [if_neg (by omega)]) (fun _ => rfl)
  · have h1' : ¬ (a.length : Int) = (c.length : Int) := by omega
    simp only [if_neg h1', h1, decide_false, Bool.false_and]
    exact Ev.now _
theorem dJ_ (a : List S83) (b : List S81) (c : List S83) (d : List S81) (ha : a.length ≤ 1048576) (hb : b.length ≤ 1048576) (hc : c.length ≤ 1048576) (hd : d.length ≤ 1048576) :
    Ev (fun k => impl_SameKeep.f k a b c d) (aw_ a b c d) := by
  unfold impl_SameKeep.f
  refine Ev.bind (ea_ a c ha hc) ?_
  by_cases h : (decide (a.length = c.length) && aQ_ (fun j => bW_ (rd_T83 a j) (rd_T83 c j)) 0 a.length) = true
  · simp only [h, if_true]
    refine Ev.bind (ei_ b d hb hd) ?_
    have : aw_ a b c d = (decide (b.length = d.length) && aQ_ (fun j => bS_ (rd_T81 b j) (rd_T81 d j)) 0 b.length) := by
      rw [Bool.and_eq_true] at h
      unfold aw_
      rw [h.1, h.2]
      simp
    rw [this]
    exact Ev.now _
  · rw [Bool.not_eq_true] at h
    simp only [h]
    have : aw_ a b c d = false := by
      unfold aw_
      rcases Bool.and_eq_false_iff.1 h with h | h <;> rw [h] <;> simp
    rw [this]
    exact Ev.now _

/-! ### keepinj -/
theorem cR_ : ∀ d x, ∀ y ∈ as_ d x, 0 ≤ y ∧ y ≤ 255 := by
  intro d
  induction d with
  | zero =>
    intro x y hy
    simp only [as_, List.mem_singleton] at hy
    omega
  | succ d ih =>
    intro x y hy
    unfold as_ at hy
    split at hy
    · rcases List.mem_cons.1 hy with h | h
      · omega
      · exact ih _ y h
    · rw [List.mem_singleton] at hy
      omega
theorem blV (x : Int) : bytesOf (ah_ x) = as_ 8 x := cl_ (cR_ 8 x)
def dL_ (x : S83) : Prop := (0 ≤ x.f0 ∧ x.f0 ≤ 1000000000) ∧ (0 ≤ x.f1 ∧ x.f1 ≤ 1000000000) ∧ x.f2.size ≤ 1000
def dB_ (x : S81) : Prop := x.f0.size ≤ 1000 ∧ x.f1.size ≤ 1000 ∧ (0 ≤ x.f2 ∧ x.f2 ≤ 1000000000)
theorem bX_ {a : List S83} {b : List S81} (h : ag_ a b = true) : (a.length ≤ 3 ∧ b.length ≤ 8) ∧ (∀ x ∈ a, dL_ x) ∧ (∀ x ∈ b, dB_ x) := by
  obtain ⟨hl, h1, h2⟩ := ak_ h
  refine ⟨hl, fun x hx => ?_, fun x hx => ?_⟩
  · obtain ⟨j, hj, rfl⟩ := List.getElem_of_mem hx
    have := h1 j hj
    exact ⟨⟨by omega, by omega⟩, ⟨by omega, by omega⟩, by omega⟩
  · obtain ⟨j, hj, rfl⟩ := List.getElem_of_mem hx
    have := h2 j hj
    exact ⟨by omega, by omega, by omega, by omega⟩
theorem cN_ {p : Nat → Bool} : ∀ d j, (∀ i, j ≤ i → i < j + d → p i = true) → aQ_ p j d = true := by
  intro d
  induction d with
  | zero => intro j _; rfl
  | succ d ih =>
    intro j h
    unfold aQ_
    rw [h j (by omega) (by omega), ih (j + 1) (fun i h1 h2 => h i (by omega) (by omega))]
    rfl
theorem cc_ (x y : S83) : bW_ x y = true ↔ x = y := by
  unfold bW_
  cases x
  cases y
  simp only [Bool.not_eq_true', Bool.or_eq_false_iff, Bool.not_eq_false', beq_iff_eq, aF_]
  constructor
  · rintro ⟨rfl, rfl, rfl⟩; rfl
  · intro h; injection h with h1 h2 h3; exact ⟨h1, h2, h3⟩
theorem bY_ (x y : S81) : bS_ x y = true ↔ x = y := by
  unfold bS_
  cases x
  cases y
  simp only [Bool.not_eq_true', Bool.or_eq_false_iff, Bool.not_eq_false', beq_iff_eq, aF_]
  constructor
  · rintro ⟨rfl, rfl, rfl⟩; rfl
  · intro h; injection h with h1 h2 h3; exact ⟨h1, h2, h3⟩
theorem ds_ {l : List S83} {j : Nat} (h : j < l.length) : rd_T83 l (j : Int) = l[j] := by unfold rd_T83; exact aI_ _ h
theorem du_ {l : List S81} {j : Nat} (h : j < l.length) : rd_T81 l (j : Int) = l[j] := by unfold rd_T81; exact aI_ _ h
theorem cW_ (a : List S83) (b : List S81) (c : List S83) (d : List S81) : aw_ a b c d = true ↔ a = c ∧ b = d := by
  unfold aw_
  simp only [Bool.and_eq_true, decide_eq_true_eq]
  constructor
  · rintro ⟨h1, h2, h3, h4⟩
    refine ⟨List.ext_getElem h1 fun j q1 q2 => ?_, List.ext_getElem h2 fun j q1 q2 => ?_⟩
    · have := bi_ _ _ h3 j (by omega) (by omega)
      rwa [ds_ q1, ds_ q2, cc_] at this
    · have := bi_ _ _ h4 j (by omega) (by omega)
      rwa [du_ q1, du_ q2, bY_] at this
  · rintro ⟨rfl, rfl⟩
    exact ⟨rfl, rfl, cN_ _ _ fun i _ _ => (cc_ _ _).2 rfl, cN_ _ _ fun i _ _ => (bY_ _ _).2 rfl⟩
theorem cQ_ (a : List S83) (b : List S81) : aw_ a b a b = true := (cW_ a b a b).2 ⟨rfl, rfl⟩
theorem di_ (d : Nat) (x : Int) : 0 < (as_ d x).length := by
  cases d with
  | zero => simp [as_]
  | succ d => unfold as_; split <;> simp
theorem bq_ {s t : ByteArray} {p : Nat} {rest : List Int} (ht : t.size ≤ 1000) (hb : (bytesOf s).drop p = bytesOf (ab_ t) ++ rest) : bp_ s (p : Int) false = (t, s, ((p + (bytesOf (ab_ t)).length : Nat) : Int), false) ∧ (bytesOf s).drop (p + (bytesOf (ab_ t)).length) = rest := by
  refine ⟨?_, by rw [← List.drop_drop, hb, List.drop_left]⟩
  have e : bytesOf (ab_ t) = as_ 8 (t.size : Int) ++ bytesOf t := by unfold ab_; rw [am_, blV]
  rw [e] at hb ⊢
  rw [List.append_assoc] at hb
  have hl0 := congrArg List.length hb
  rw [List.length_drop, List.length_append, List.length_append, bytesOf_length, bytesOf_length] at hl0
  have hp0 := di_ 8 (t.size : Int)
  have hv := bZ_ (X := (t.size : Int)) (by omega) (by omega) hb
  have hd2 : (bytesOf s).drop (p + (as_ 8 (t.size : Int)).length) = bytesOf t ++ rest := by rw [← List.drop_drop, hb, List.drop_left]
  have hx : s.extract (p + (as_ 8 (t.size : Int)).length) (p + (as_ 8 (t.size : Int)).length + t.size) = t := by
    apply aU_
    rw [aM_, hd2, show p + (as_ 8 (t.size : Int)).length + t.size - (p + (as_ 8 (t.size : Int)).length) = (bytesOf t).length by rw [bytesOf_length]; omega, List.take_left]
  have hr : aE_ s (p : Int) = (t, ((p + ((as_ 8 (t.size : Int)).length + t.size) : Nat) : Int), true) := by
    unfold aE_
    rw [hv]
    have c1 : (t.size : Int) ≤ 20000 := by omega
    have c2 : (t.size : Int) ≤ (s.size : Int) - ((p + (as_ 8 (t.size : Int)).length : Nat) : Int) := by omega
    rw [if_pos ⟨rfl, c1, c2⟩]
    rw [show ((p + (as_ 8 (t.size : Int)).length : Nat) : Int).toNat = p + (as_ 8 (t.size : Int)).length by omega, show (((p + (as_ 8 (t.size : Int)).length : Nat) : Int) + (t.size : Int)).toNat = p + (as_ 8 (t.size : Int)).length + t.size by omega, hx]
    rw [show ((p + (as_ 8 (t.size : Int)).length : Nat) : Int) + (t.size : Int) = ((p + ((as_ 8 (t.size : Int)).length + t.size) : Nat) : Int) by omega]
  unfold bp_
  rw [hr]
  simp only [Bool.false_eq_true, if_false, if_true]
  rw [List.length_append, bytesOf_length]
theorem aO_ {s : ByteArray} {p : Nat} {X : Int} {rest : List Int} (h0 : 0 ≤ X ∧ X ≤ 1000000000) (hb : (bytesOf s).drop p = bytesOf (ah_ X) ++ rest) : al_ s (p : Int) false = (X, s, ((p + (bytesOf (ah_ X)).length : Nat) : Int), false) ∧ (bytesOf s).drop (p + (bytesOf (ah_ X)).length) = rest := by
  rw [blV] at hb ⊢
  exact dg_ h0.1 h0.2 hb
theorem dd_ {s : ByteArray} (x : S83) (p : Nat) (rest : List Int) (hx : dL_ x) (hb : (bytesOf s).drop p = bytesOf (bG_ x) ++ rest) : ai_ s (p : Int) false = (x, ((p + (bytesOf (bG_ x)).length : Nat) : Int), false) ∧ (bytesOf s).drop (p + (bytesOf (bG_ x)).length) = rest := by
  refine ⟨?_, by rw [← List.drop_drop, hb, List.drop_left]⟩
  unfold bG_ at hb ⊢
  rw [am_, am_] at hb ⊢
  rw [List.append_assoc, List.append_assoc] at hb
  obtain ⟨h1, hb⟩ := aO_ hx.1 hb
  obtain ⟨h2, hb⟩ := aO_ hx.2.1 hb
  obtain ⟨h3, hb⟩ := bq_ hx.2.2 hb
  simp only [ai_, h1, h2, h3, List.length_append]
  refine Prod.ext rfl (Prod.ext ?_ rfl)
  exact congrArg Int.ofNat (by omega)
theorem dk_ {s : ByteArray} (x : S81) (p : Nat) (rest : List Int) (hx : dB_ x) (hb : (bytesOf s).drop p = bytesOf (bw_ x) ++ rest) : av_ s (p : Int) false = (x, ((p + (bytesOf (bw_ x)).length : Nat) : Int), false) ∧ (bytesOf s).drop (p + (bytesOf (bw_ x)).length) = rest := by
  refine ⟨?_, by rw [← List.drop_drop, hb, List.drop_left]⟩
  unfold bw_ at hb ⊢
  rw [am_, am_] at hb ⊢
  rw [List.append_assoc, List.append_assoc] at hb
  obtain ⟨h1, hb⟩ := bq_ hx.1 hb
  obtain ⟨h2, hb⟩ := bq_ hx.2.1 hb
  obtain ⟨h3, hb⟩ := aO_ hx.2.2 hb
  simp only [av_, h1, h2, h3, List.length_append]
  refine Prod.ext rfl (Prod.ext ?_ rfl)
  exact congrArg Int.ofNat (by omega)
theorem cD_ {α : Type} {one : Int → Bool → α × Int × Bool} {enc : α → ByteArray} {G : α → Prop} {s : ByteArray} (h : ∀ (x : α) (p : Nat) (rest : List Int), G x → (bytesOf s).drop p = bytesOf (enc x) ++ rest → one (p : Int) false = (x, ((p + (bytesOf (enc x)).length : Nat) : Int), false) ∧ (bytesOf s).drop (p + (bytesOf (enc x)).length) = rest) :
    ∀ (l acc : List α) (p : Nat) (rest : List Int), (∀ x ∈ l, G x) → (bytesOf s).drop p = bytesOf (aq_ enc l) ++ rest → goA one l.length (p : Int) false acc = (acc ++ l, ((p + (bytesOf (aq_ enc l)).length : Nat) : Int), false) ∧ (bytesOf s).drop (p + (bytesOf (aq_ enc l)).length) = rest := by
  intro l
  induction l with
  | nil =>
    intro acc p rest _ hb
    simp only [aq_, bj_, List.nil_append] at hb
    simp only [List.length_nil, goA, List.append_nil, aq_, bj_, Nat.add_zero]
    exact ⟨trivial, hb⟩
  | cons x l ih =>
    intro acc p rest hg hb
    simp only [aq_] at hb ⊢
    rw [am_, List.append_assoc] at hb
    obtain ⟨h1, hb⟩ := h x p _ (hg x (by simp)) hb
    obtain ⟨h2, hb⟩ := ih (acc ++ [x]) _ rest (fun y hy => hg y (by simp [hy])) hb
    simp only [List.length_cons, goA, h1, h2, am_, List.length_append, List.append_assoc, List.singleton_append, ← Nat.add_assoc]
    exact ⟨trivial, hb⟩
theorem bU_ (a : List S83) (b : List S81) (h : ag_ a b = true) (hs : (az_ a b).size ≤ 9000000000000000000) : Ev (fun k => impl_ReadKeep.f k (az_ a b)) (a, b, true) := by
  obtain ⟨hl, h1, h2⟩ := bX_ h
  have hb : (bytesOf (az_ a b)).drop 0 = bytesOf (ah_ (a.length : Int)) ++ (bytesOf (aq_ bG_ a) ++ (bytesOf (ah_ (b.length : Int)) ++ (bytesOf (aq_ bw_ b) ++ []))) := by
    rw [List.drop_zero]
    unfold az_
    rw [am_, am_, am_, List.append_assoc, List.append_nil]
  have hz : (bytesOf (az_ a b)).length = (az_ a b).size := bytesOf_length _
  generalize az_ a b = s at hb hz hs ⊢
  have hlen := congrArg List.length hb
  simp only [List.drop_zero, List.length_append, List.length_nil, hz] at hlen
  obtain ⟨e1, hb⟩ := aO_ (p := 0) ⟨by omega, by omega⟩ hb
  obtain ⟨e2, hb⟩ := cD_ (one := ai_ s) (enc := bG_) (G := dL_) dd_ a [] _ _ h1 hb
  obtain ⟨e3, hb⟩ := aO_ ⟨by omega, by omega⟩ hb
  obtain ⟨e4, hb⟩ := cD_ (one := av_ s) (enc := bw_) (G := dB_) dk_ b [] _ _ h2 hb
  unfold impl_ReadKeep.f
  refine Ev.bind (aG_ s 0 false 3 hs) ?_
  rw [show ((0 : Nat) : Int) = 0 from rfl] at e1
  simp only [e1, if_neg (show ¬ (a.length : Int) > 3 by omega)]
  refine cn_ s hs (a.length : Int) (by omega) _ a.length _ _ [] (by simp) ?_
  simp only [e2, List.nil_append]
  refine Ev.bind (aG_ s _ _ 8 hs) ?_
  simp only [e3, if_neg (show ¬ (b.length : Int) > 8 by omega)]
  refine bF_ s hs (b.length : Int) (by omega) a _ b.length _ _ [] (by simp) ?_
  simp only [e4, List.nil_append]
  have hf := bJ_ s a b ((0 + (bytesOf (ah_ (a.length : Int))).length + (bytesOf (aq_ bG_ a)).length + (bytesOf (ah_ (b.length : Int))).length + (bytesOf (aq_ bw_ b)).length : Nat) : Int) false (by omega) (by omega)
  rw [if_pos ⟨rfl, by omega, h⟩] at hf
  exact hf

/-! ### commandok -/
theorem bT_ : rng 0 0 1000000 = true := by decide
theorem bt_ (o t q : Int) (key val : ByteArray) (v : Int) (k : Nat) (hk : 2 < k) : ∃ b, spec_CommandOk.f k o t q key val v = some b ∧ impl_CommandOk.f k o t q key val v = some b := by
  obtain ⟨k, rfl⟩ : ∃ m, k = m + 3 := ⟨k - 3, by omega⟩
  unfold spec_CommandOk.f impl_CommandOk.f
  simp only [cf_, aN_, Option.bind_some, spec_CommandOk.j0, spec_CommandOk.j1, impl_CommandOk.j0, impl_CommandOk.j1, impl_isIndex.f, impl_keyOk.f, impl_valOk.f]
  have hv : ((val.size : Int) > 20) ↔ ¬ ((val.size : Int) ≤ 20) := by omega
  by_cases h1 : o = 1
  · subst h1
    have : rng 1 1 5 = true := by decide
    by_cases a : t = 0
    · subst a
      by_cases b : q = 0
      · subst b
        by_cases c : key.toList = [] <;> by_cases d : val.toList = [] <;> simp [bT_, this, c, d]
      · cases rng q 0 1000000 <;> simp [bT_, this, b]
    · cases rng t 0 1000000 <;> cases rng q 0 1000000 <;> simp [this, a]
  · cases ht : rng t 0 1000000 <;> cases hq : rng q 0 1000000 <;> cases ho : rng o 1 5 <;> cases hkk : rng (key.size : Int) 1 8 <;> cases hvv : rng v 1 1000000000 <;>
      by_cases h20 : (val.size : Int) ≤ 20 <;> by_cases h2 : o = 2 <;> by_cases h3 : o = 3 <;> by_cases h4 : o = 4 <;> by_cases h5 : o = 5 <;>
      first
      | (exfalso; omega)
      | (exfalso; subst h2; revert ho; decide)
      | (exfalso; subst h3; revert ho; decide)
      | (exfalso; subst h4; revert ho; decide)
      | (exfalso; subst h5; revert ho; decide)
      | (exfalso; have := an_.1 ho; omega)
      | (by_cases hl : val.toList = [] <;> by_cases hv0 : v = 0 <;> simp [h1, h2, h3, h4, h5, hv, h20, hl, hv0])

/-! ### bytes -/
theorem cy_ (l : List Int) (hl : l.length ≤ 2000000) : ∀ (d j : Nat) (acc : List Int), l.length - j = d → j ≤ l.length → acc.length = j → ∀ k, d < k → impl_byteTexts.l0 k acc l (l.length : Int) (j : Int) = some (strOfNums (acc ++ (l.drop j).map (· % 256))) := by
  intro d
  induction d with
  | zero =>
    intro j acc hd hj ha k hk
    obtain ⟨k, rfl⟩ : ∃ m, k = m + 1 := ⟨k - 1, by omega⟩
    simp only [impl_byteTexts.l0]
    rw [if_neg (by omega), List.drop_of_length_le (by omega)]
    simp
  | succ d ih =>
    intro j acc hd hj ha k hk
    obtain ⟨k, rfl⟩ : ∃ m, k = m + 1 := ⟨k - 1, by omega⟩
    have hjl : j < l.length := by omega
    have hget : rd l (j : Int) = l[j] := by unfold rd; simp [List.getD_eq_getElem?_getD, List.getElem?_eq_getElem hjl]
    have hdrop : l.drop j = l[j] :: l.drop (j + 1) := List.drop_eq_getElem_cons hjl
    simp only [impl_byteTexts.l0]
    rw [if_pos (by omega), if_pos (by omega), if_pos (by omega), if_pos (by omega), hget, w64 (x := (j : Int) + 1) (by omega) (by omega), hdrop]
    have := ih (j + 1) (acc ++ [l[j] % 256]) (by omega) (by omega) (by rw [List.length_append, List.length_singleton]; omega) k (by omega)
    rw [List.append_assoc] at this
    exact this
theorem cZ_ (l : List Int) (hl : l.length ≤ 2000000) : ∀ k, l.length < k → impl_byteTexts.f k l = some (strOfNums (l.map (· % 256))) := fun k hk =>
  cy_ l hl l.length 0 [] (by omega) (by omega) rfl k hk

/-! ### cmdspec -/
theorem aR_ {s : ByteArray} (h : s.toList = ([] : List UInt8)) : s.size = 0 := by
  have h1 := bA_.1 h
  have h2 := bytesOf_length s
  rw [h1] at h2
  simpa using h2.symm
theorem aS_ (o t q : Int) (key val : ByteArray) (v : Int) (k : Nat) (h : spec_CommandOk.f (k + 2) o t q key val v = some true) : (0 ≤ t ∧ t ≤ 1000000) ∧ (0 ≤ q ∧ q ≤ 1000000) ∧ (0 ≤ v ∧ v ≤ 1000000000) ∧ (1 ≤ o ∧ o ≤ 5) ∧ key.size ≤ 8 ∧ val.size ≤ 20 := by
  unfold spec_CommandOk.f at h
  simp only [cf_, Option.bind_some, spec_CommandOk.j0, spec_CommandOk.j1] at h
  cases ht : rng t 0 1000000 with
  | false => simp [ht] at h
  | true =>
    cases hq : rng q 0 1000000 with
    | false => simp [ht, hq] at h
    | true =>
      cases ho : rng o 1 5 with
      | false => simp [ht, hq, ho] at h
      | true =>
        refine ⟨an_.1 ht, an_.1 hq, ?_⟩
        simp only [ht, hq, ho, if_true, Bool.not_true, Bool.false_eq_true, if_false] at h
        by_cases h1 : o = 1
        · subst h1
          by_cases c : key.toList = []
          · by_cases d : val.toList = []
            · by_cases hv : v = 0
              · have := aR_ c
                have := aR_ d
                exact ⟨by omega, by omega, by omega, by omega⟩
              · exfalso
                revert h
                by_cases h7 : t = 0 <;> by_cases h8 : q = 0 <;> simp [h7, h8, hv, c, d]
            · simp [c, d] at h
          · simp [c] at h
        · simp only [if_neg h1] at h
          cases hk : rng (key.size : Int) 1 8 with
          | false => simp [hk] at h
          | true =>
            have hk' := an_.1 hk
            simp only [hk, if_true, decide_eq_true_eq] at h
            by_cases hv20 : (val.size : Int) > 20
            · simp [hv20] at h
            · simp only [if_neg hv20] at h
              refine ⟨?_, an_.1 ho, by omega, by omega⟩
              by_cases h2 : o = 2
              · simp only [if_pos h2, Option.some.injEq, beq_iff_eq] at h
                omega
              · by_cases h5 : o = 5
                · simp only [if_neg h2, if_pos h5, Option.some.injEq] at h
                  have := an_.1 h
                  omega
                · by_cases d : val.toList = []
                  · simp only [if_neg h2, if_neg h5, if_pos d, Option.some.injEq, beq_iff_eq] at h
                    omega
                  · simp [h2, h5, d] at h
def bv_ (o t q : Int) (key val : ByteArray) (v : Int) : ByteArray := strOfNums [o % 256] ++ ah_ t ++ ah_ q ++ ab_ key ++ ab_ val ++ ah_ v
theorem bz_ (o t q : Int) (key val : ByteArray) (v : Int) (k : Nat) : spec_CommandOk.f (k + 3) o t q key val v = spec_CommandOk.f (0 + 3) o t q key val v := by
  unfold spec_CommandOk.f
  simp only [spec_CommandOk.j0, spec_CommandOk.j1]
theorem ce_ (o t q : Int) (key val : ByteArray) (v : Int) : ∃ b, Ev (fun k => spec_CommandOk.f k o t q key val v) b ∧ (b = true → (0 ≤ t ∧ t ≤ 1000000) ∧ (0 ≤ q ∧ q ≤ 1000000) ∧ (0 ≤ v ∧ v ≤ 1000000000) ∧ (1 ≤ o ∧ o ≤ 5) ∧ key.size ≤ 8 ∧ val.size ≤ 20) := by
  have ht : (spec_CommandOk.f (0 + 3) o t q key val v).isSome = true := by
    unfold spec_CommandOk.f
    simp only [cf_, Option.bind_some, spec_CommandOk.j0, spec_CommandOk.j1]
    repeat' split
    all_goals rfl
  obtain ⟨b, hb⟩ := Option.isSome_iff_exists.1 ht
  refine ⟨b, ⟨3, fun k hk => ?_⟩, fun h => ?_⟩
  · obtain ⟨m, rfl⟩ : ∃ m, k = m + 3 := ⟨k - 3, by omega⟩
    show spec_CommandOk.f (m + 3) o t q key val v = some b
    rw [bz_]
    exact hb
  · subst h
    exact aS_ o t q key val v 1 hb
theorem aL_ (o t q : Int) (key val : ByteArray) (v : Int) {b : Bool} (f1 : Ev (fun k => spec_CommandOk.f k o t q key val v) b) (hb : b = true → (0 ≤ t ∧ t ≤ 1000000) ∧ (0 ≤ q ∧ q ≤ 1000000) ∧ (0 ≤ v ∧ v ≤ 1000000000) ∧ (1 ≤ o ∧ o ≤ 5) ∧ key.size ≤ 8 ∧ val.size ≤ 20) :
    Ev (fun k => spec_CommandText.f k o t q key val v) (if b = true then (bv_ o t q key val v, true) else ((⟨#[]⟩ : ByteArray), false)) := by
  unfold spec_CommandText.f
  refine Ev.bind f1 ?_
  cases b with
  | false =>
    simp only [Bool.false_eq_true, if_false]
    exact Ev.now _
  | true =>
    obtain ⟨ht, hq, hv, ho, hk, hl⟩ := hb rfl
    have h1 : (strOfNums [o % 256]).size = 1 := by rw [strOfNums_size]; rfl
    have h2 := aa_ t
    have h3 := aa_ q
    have h4 := ad_ key
    have h5 := ad_ val
    have h6 := aa_ v
    simp only [if_true, Option.bind_some]
    refine Ev.bind (au_ t ht.1 (by omega)) ?_
    simp only [if_pos (show (strOfNums [o % 256]).size + (ah_ t).size ≤ 9223372036854775807 by omega)]
    refine Ev.bind (au_ q hq.1 (by omega)) ?_
    simp only [if_pos (show (strOfNums [o % 256] ++ ah_ t).size + (ah_ q).size ≤ 9223372036854775807 by rw [ByteArray.size_append]; omega)]
    refine Ev.bind (aD_ key (by omega)) ?_
    simp only [if_pos (show (strOfNums [o % 256] ++ ah_ t ++ ah_ q).size + (ab_ key).size ≤ 9223372036854775807 by rw [ByteArray.size_append, ByteArray.size_append]; omega)]
    refine Ev.bind (aD_ val (by omega)) ?_
    simp only [if_pos (show (strOfNums [o % 256] ++ ah_ t ++ ah_ q ++ ab_ key).size + (ab_ val).size ≤ 9223372036854775807 by rw [ByteArray.size_append, ByteArray.size_append, ByteArray.size_append]; omega)]
    refine Ev.bind (au_ v hv.1 hv.2) ?_
    simp only [if_pos (show (strOfNums [o % 256] ++ ah_ t ++ ah_ q ++ ab_ key ++ ab_ val).size + (ah_ v).size ≤ 9223372036854775807 by rw [ByteArray.size_append, ByteArray.size_append, ByteArray.size_append, ByteArray.size_append]; omega)]
    exact Ev.now _

/-! ### commandtext -/
theorem cv_ (o t q : Int) (key val : ByteArray) (v : Int) (k : Nat) : impl_CommandOk.f (k + 3) o t q key val v = impl_CommandOk.f (0 + 3) o t q key val v := by
  unfold impl_CommandOk.f
  simp only [impl_CommandOk.j0, impl_CommandOk.j1]
theorem bh_ (o t q : Int) (key val : ByteArray) (v : Int) : ∃ b, Ev (fun k => spec_CommandOk.f k o t q key val v) b ∧ Ev (fun k => impl_CommandOk.f k o t q key val v) b ∧ (b = true → (0 ≤ t ∧ t ≤ 1000000) ∧ (0 ≤ q ∧ q ≤ 1000000) ∧ (0 ≤ v ∧ v ≤ 1000000000) ∧ (1 ≤ o ∧ o ≤ 5) ∧ key.size ≤ 8 ∧ val.size ≤ 20) := by
  obtain ⟨b, e1, e2⟩ := bt_ o t q key val v 3 (by omega)
  refine ⟨b, ⟨3, fun k hk => ?_⟩, ⟨3, fun k hk => ?_⟩, fun hb => ?_⟩
  · obtain ⟨m, rfl⟩ : ∃ m, k = m + 3 := ⟨k - 3, by omega⟩
    show spec_CommandOk.f (m + 3) o t q key val v = some b
    rw [bz_]
    exact e1
  · obtain ⟨m, rfl⟩ : ∃ m, k = m + 3 := ⟨k - 3, by omega⟩
    show impl_CommandOk.f (m + 3) o t q key val v = some b
    rw [cv_]
    exact e2
  · subst hb
    exact aS_ o t q key val v 1 e1
theorem bd_ (o t q : Int) (key val : ByteArray) (v : Int) {b : Bool} (f2 : Ev (fun k => impl_CommandOk.f k o t q key val v) b) (hb : b = true → (0 ≤ t ∧ t ≤ 1000000) ∧ (0 ≤ q ∧ q ≤ 1000000) ∧ (0 ≤ v ∧ v ≤ 1000000000) ∧ (1 ≤ o ∧ o ≤ 5) ∧ key.size ≤ 8 ∧ val.size ≤ 20) :
    Ev (fun k => impl_CommandText.f k o t q key val v) (if b = true then (bv_ o t q key val v, true) else ((⟨#[]⟩ : ByteArray), false)) := by
  unfold impl_CommandText.f
  refine Ev.bind f2 ?_
  cases b with
  | false =>
    simp only [Bool.false_eq_true, if_false]
    exact Ev.now _
  | true =>
    obtain ⟨ht, hq, hv, ho, hk, hl⟩ := hb rfl
    have h1 : (strOfNums [o % 256]).size = 1 := by rw [strOfNums_size]; rfl
    have h2 := aa_ t
    have h3 := aa_ q
    have h4 := ad_ key
    have h5 := ad_ val
    have h6 := aa_ v
    simp only [if_true]
    refine Ev.bind ⟨2, fun k hk => cZ_ [o] (by simp) k (by simp only [List.length_cons, List.length_nil]; omega)⟩ ?_
    refine Ev.bind (ap_ [t, q] (by simp) (by simp only [List.mem_cons, List.not_mem_nil, or_false]; rintro x (rfl | rfl) <;> omega)) ?_
    simp only [aq_, af_, List.map_cons, List.map_nil]
    simp only [if_pos (show (strOfNums [o % 256]).size + (ah_ t ++ ah_ q).size ≤ 9223372036854775807 by rw [ByteArray.size_append]; omega)]
    refine Ev.bind (aH_ [key, val] (by simp) (by simp only [List.mem_cons, List.not_mem_nil, or_false]; rintro x (rfl | rfl) <;> omega)) ?_
    simp only [aq_, af_]
    simp only [if_pos (show (strOfNums [o % 256] ++ (ah_ t ++ ah_ q)).size + (ab_ key ++ ab_ val).size ≤ 9223372036854775807 by rw [ByteArray.size_append, ByteArray.size_append, ByteArray.size_append]; omega)]
    refine Ev.bind (ap_ [v] (by simp) (by simp only [List.mem_cons, List.not_mem_nil, or_false]; rintro x rfl; omega)) ?_
    simp only [aq_, af_]
    simp only [if_pos (show (strOfNums [o % 256] ++ (ah_ t ++ ah_ q) ++ (ab_ key ++ ab_ val)).size + (ah_ v).size ≤ 9223372036854775807 by rw [ByteArray.size_append, ByteArray.size_append, ByteArray.size_append, ByteArray.size_append]; omega)]
    have e : strOfNums [o % 256] ++ (ah_ t ++ ah_ q) ++ (ab_ key ++ ab_ val) ++ ah_ v = bv_ o t q key val v := by
      unfold bv_
      simp only [ByteArray.append_assoc]
    rw [e]
    exact Ev.now _
theorem ct_ (s : ByteArray) (h : 0 < s.size) : s.extract 0 1 = strOfNums [bt s 0 % 256] := by
  have hb := bt_range s 0
  have hl : 0 < (bytesOf s).length := by rw [bytesOf_length]; exact h
  have hr := cV_ (s := s)
  apply aU_
  rw [aM_, cl_ (by simp only [List.mem_singleton]; rintro x rfl; omega), List.drop_zero, dw_]
  cases hx : bytesOf s with
  | nil => rw [hx] at hl; simp at hl
  | cons x l =>
    have h2 := hr x (by rw [hx]; exact List.mem_cons_self)
    have e2 : rd (x :: l) 0 = x := by unfold rd; simp
    rw [e2]
    simp only [Nat.sub_zero, List.take_succ_cons, List.take_zero]
    congr 1
    omega
theorem cO_ (s : ByteArray) (hs : s.size ≤ 9000000000000000000) : ∃ o t q key val v ok, Ev (fun k => spec_ReadCommand.f k s) (o, t, q, key, val, v, ok) ∧ Ev (fun k => impl_ReadCommand.f k s) (o, t, q, key, val, v, ok) ∧
    (ok = true → Ev (fun k => spec_CommandText.f k o t q key val v) (s, true)) := by
  by_cases h0 : s.toList = ([] : List UInt8)
  · have hz : s.size = 0 := aR_ h0
    refine ⟨0, 0, 0, (⟨#[]⟩ : ByteArray), (⟨#[]⟩ : ByteArray), 0, false, ?_, ?_, fun h => by cases h⟩
    · unfold spec_ReadCommand.f
      simp only [if_pos h0]
      exact Ev.now _
    · unfold impl_ReadCommand.f
      simp only [dF_ s 0 (show (0 : Int) ≥ (s.size : Int) by omega), Option.bind_some]
      have n1 : ∀ a, al_ s a true = (0, s, a, true) := fun a => by unfold al_; rw [if_pos rfl]
      have n2 : ∀ a, bp_ s a true = ((⟨#[]⟩ : ByteArray), s, a, true) := fun a => by unfold bp_; rw [if_pos rfl]
      refine Ev.bind (aj_ s 0 true hs) ?_
      simp only [n1]
      refine Ev.bind (aj_ s 0 true hs) ?_
      simp only [n1]
      refine Ev.bind (ax_ s 0 true hs) ?_
      simp only [n2]
      refine Ev.bind (ax_ s 0 true hs) ?_
      simp only [n2]
      refine Ev.bind (aj_ s 0 true hs) ?_
      simp only [n1, bO_, Option.bind_some, Bool.false_eq_true, if_false]
      exact Ev.now _
  · have hz : 0 < s.size := by
      rcases Nat.eq_zero_or_pos s.size with h | h
      · exact absurd (bA_.2 (List.length_eq_zero_iff.1 (by rw [bytesOf_length]; exact h))) h0
      · exact h
    have hb := bt_range s 0
    have R0 : bx_ s (strOfNums [bt s 0 % 256]) 1 false := .inr ⟨rfl, by omega, by omega, ct_ s hz⟩
    rcases q1 : al_ s 1 false with ⟨t, s1, i1, c1⟩
    have g1 := aC_ R0
    rw [q1] at g1
    obtain ⟨rfl, R1, ht⟩ : s1 = s ∧ bx_ s (strOfNums [bt s 0 % 256] ++ ah_ t) i1 c1 ∧ (0 ≤ t ∧ t ≤ 1000000000) := g1
    rcases q2 : al_ s1 i1 c1 with ⟨q, s2, i2, c2⟩
    have g2 := aC_ R1
    rw [q2] at g2
    obtain ⟨rfl, R2, hq⟩ : s2 = s1 ∧ bx_ s1 (strOfNums [bt s1 0 % 256] ++ ah_ t ++ ah_ q) i2 c2 ∧ (0 ≤ q ∧ q ≤ 1000000000) := g2
    rcases q3 : bp_ s2 i2 c2 with ⟨key, s3, i3, c3⟩
    have g3 := aW_ R2
    rw [q3] at g3
    obtain ⟨rfl, R3, hk⟩ : s3 = s2 ∧ bx_ s2 (strOfNums [bt s2 0 % 256] ++ ah_ t ++ ah_ q ++ ab_ key) i3 c3 ∧ key.size ≤ 20000 := g3
    rcases q4 : bp_ s3 i3 c3 with ⟨val, s4, i4, c4⟩
    have g4 := aW_ R3
    rw [q4] at g4
    obtain ⟨rfl, R4, hv⟩ : s4 = s3 ∧ bx_ s3 (strOfNums [bt s3 0 % 256] ++ ah_ t ++ ah_ q ++ ab_ key ++ ab_ val) i4 c4 ∧ val.size ≤ 20000 := g4
    rcases q5 : al_ s4 i4 c4 with ⟨v, s5, i5, c5⟩
    have g5 := aC_ R4
    rw [q5] at g5
    obtain ⟨rfl, R5, hw⟩ : s5 = s4 ∧ bx_ s4 (bv_ (bt s4 0) t q key val v) i5 c5 ∧ (0 ≤ v ∧ v ≤ 1000000000) := g5
    obtain ⟨b, k1, k2, k3⟩ := bh_ (bt s5 0) t q key val v
    have k4 := aL_ (bt s5 0) t q key val v k1 k3
    have e0 : wrap64 (bt s5 0) = bt s5 0 := w64 (by omega) (by omega)
    have hS : ∀ r, Ev (fun k => if c5 = true then (some (0, 0, 0, (⟨#[]⟩ : ByteArray), (⟨#[]⟩ : ByteArray), 0, false)) else (if (if b = true then (bv_ (bt s5 0) t q key val v, true) else ((⟨#[]⟩ : ByteArray), false)).2 = true then (if (if b = true then (bv_ (bt s5 0) t q key val v, true) else ((⟨#[]⟩ : ByteArray), false)).1.toList = s5.toList then (some (bt s5 0, t, q, key, val, v, true)) else (some (0, 0, 0, (⟨#[]⟩ : ByteArray), (⟨#[]⟩ : ByteArray), 0, false))) else (some (0, 0, 0, (⟨#[]⟩ : ByteArray), (⟨#[]⟩ : ByteArray), 0, false)))) r → Ev (fun k => spec_ReadCommand.f k s5) r := by
      intro r hr
      unfold spec_ReadCommand.f
      simp only [if_neg h0, if_pos (show (0 : Int) < (s5.size : Int) by omega), e0]
      refine Ev.bind (aA_ s5 1 false hs) ?_
      simp only [q1]
      refine Ev.bind (aA_ s5 i1 c1 hs) ?_
      simp only [q2]
      refine Ev.bind (aT_ s5 i2 c2 hs) ?_
      simp only [q3]
      refine Ev.bind (aT_ s5 i3 c3 hs) ?_
      simp only [q4]
      refine Ev.bind (aA_ s5 i4 c4 hs) ?_
      simp only [q5]
      first
        | exact Ev.bind k4 hr
        | (refine Ev.bind k4 ?_
           obtain ⟨K, hr⟩ := hr
           refine ⟨K + 1, fun k hk => ?_⟩
           obtain ⟨m, rfl⟩ : ∃ m, k = m + 1 := ⟨k - 1, by omega⟩
           rw [← hr (m + 1) (by omega)]
           simp only [spec_ReadCommand.j0]
           cases c5 <;> cases b <;> by_cases hq : (bv_ (bt s5 0) t q key val v).toList = s5.toList <;> simp [hq])
    have hI : ∀ r, Ev (fun k => (impl_scan_done.f s5 i5 c5).bind fun bt208 => (if bt208.1 = true then ((impl_CommandOk.f k (bt s5 0) t q key val v).bind fun t212 => (if t212 = true then (some (bt s5 0, t, q, key, val, v, true)) else (some (0, 0, 0, (⟨#[]⟩ : ByteArray), (⟨#[]⟩ : ByteArray), 0, false)))) else (some (0, 0, 0, (⟨#[]⟩ : ByteArray), (⟨#[]⟩ : ByteArray), 0, false)))) r → Ev (fun k => impl_ReadCommand.f k s5) r := by
      intro r hr
      unfold impl_ReadCommand.f
      simp only [dl_ s5 0 (by omega) (by omega) hs, Option.bind_some]
      refine Ev.bind (aj_ s5 1 false hs) ?_
      simp only [q1]
      refine Ev.bind (aj_ s5 i1 c1 hs) ?_
      simp only [q2]
      refine Ev.bind (ax_ s5 i2 c2 hs) ?_
      simp only [q3]
      refine Ev.bind (ax_ s5 i3 c3 hs) ?_
      simp only [q4]
      refine Ev.bind (aj_ s5 i4 c4 hs) ?_
      simp only [q5]
      exact hr
    cases c5 with
    | true =>
      refine ⟨0, 0, 0, (⟨#[]⟩ : ByteArray), (⟨#[]⟩ : ByteArray), 0, false, hS _ ?_, hI _ ?_, fun h => by cases h⟩
      · simp only [if_true]; exact Ev.now _
      · simp only [bO_, Option.bind_some, Bool.false_eq_true, if_false]; exact Ev.now _
    | false =>
      have hend := cj_ R5
      cases b with
      | false =>
        refine ⟨0, 0, 0, (⟨#[]⟩ : ByteArray), (⟨#[]⟩ : ByteArray), 0, false, hS _ ?_, hI _ ?_, fun h => by cases h⟩
        · simp only [Bool.false_eq_true, if_false]; exact Ev.now _
        · simp only [bm_, Option.bind_some]
          by_cases he : i5 = (s5.size : Int)
          · simp only [he, beq_self_eq_true, if_true]
            refine Ev.bind k2 ?_
            simp only [Bool.false_eq_true, if_false]; exact Ev.now _
          · simp only [beq_eq_false_iff_ne.2 he, Bool.false_eq_true, if_false]; exact Ev.now _
      | true =>
        by_cases he : i5 = (s5.size : Int)
        · have hc := hend.2 he
          refine ⟨bt s5 0, t, q, key, val, v, true, hS _ ?_, hI _ ?_, fun _ => ?_⟩
          · simp only [Bool.false_eq_true, if_false, if_true, hc]; exact Ev.now _
          · simp only [bm_, Option.bind_some, he, beq_self_eq_true, if_true]
            refine Ev.bind k2 ?_
            simp only [if_true]; exact Ev.now _
          · rw [if_pos rfl, hc] at k4
            exact k4
        · have hc : ¬ (bv_ (bt s5 0) t q key val v).toList = s5.toList := fun h => he (hend.1 (aF_.1 h))
          refine ⟨0, 0, 0, (⟨#[]⟩ : ByteArray), (⟨#[]⟩ : ByteArray), 0, false, hS _ ?_, hI _ ?_, fun h => by cases h⟩
          · simp only [Bool.false_eq_true, if_false, if_true, if_neg hc]; exact Ev.now _
          · simp only [bm_, Option.bind_some, beq_eq_false_iff_ne.2 he, Bool.false_eq_true, if_false]; exact Ev.now _

/-! ### draw -/
def Cur (b : List Int) (i : Int) : Prop := 0 ≤ i ∧ i ≤ (b.length : Int)
theorem dh_ (b : List Int) : ∀ (d : Nat) (i x : Int), 0 ≤ i → i ≤ 4000 → 4000 - i ≤ d → ∃ h, ∀ k, d < k → spec_l01New.l0 k b x i = some (b, 0, h) := by
  intro d
  induction d with
  | zero =>
    intro i x h0 h1 hd
    refine ⟨x, fun k hk => ?_⟩
    obtain ⟨k, rfl⟩ : ∃ m, k = m + 1 := ⟨k - 1, by omega⟩
    simp only [spec_l01New.l0]
    by_cases hl : i < (b.length : Int)
    · rw [if_pos hl, if_neg (by omega)]
    · rw [if_neg hl]
  | succ d ih =>
    intro i x h0 h1 hd
    by_cases hl : i < (b.length : Int) ∧ i < 4000
    · obtain ⟨h, ih⟩ := ih (i + 1) (Go.bits .and .i64 (wrap64 ((wrap64 ((wrap64 (x * 131)) + (wrap64 (rd b i)))) + 7)) 1073741823) (by omega) (by omega) (by omega)
      refine ⟨h, fun k hk => ?_⟩
      obtain ⟨k, rfl⟩ : ∃ m, k = m + 1 := ⟨k - 1, by omega⟩
      simp only [spec_l01New.l0]
      rw [if_pos hl.1, if_pos hl.2, if_pos h0, w64 (x := i + 1) (by omega) (by omega)]
      exact ih k (by omega)
    · refine ⟨x, fun k hk => ?_⟩
      obtain ⟨k, rfl⟩ : ∃ m, k = m + 1 := ⟨k - 1, by omega⟩
      simp only [spec_l01New.l0]
      by_cases hl2 : i < (b.length : Int)
      · rw [if_pos hl2, if_neg (by omega)]
      · rw [if_neg hl2]
theorem cq_ (b : List Int) : ∃ h, Ev (fun k => spec_l01New.f k b) (b, 0, h) := by
  obtain ⟨h, hk⟩ := dh_ b 4000 0 (wrap64 (37401 + (b.length : Int))) (by omega) (by omega) (by omega)
  exact ⟨h, 4001, fun k h1 => hk k (by omega)⟩
theorem bg_ (b : List Int) : Cur b 0 := ⟨by omega, by omega⟩
theorem aX_ {b : List Int} {i : Int} (h : Int) (hb : b.length ≤ 1048576) (hi : Cur b i) : ∃ v i' h', spec_l01Byte.f b i h = some (v, i', h') ∧ (0 ≤ v ∧ v ≤ 255) ∧ Cur b i' := by
  obtain ⟨h0, h1⟩ := hi
  unfold spec_l01Byte.f
  by_cases hl : i < (b.length : Int)
  · rw [if_pos hl, if_pos h0]
    refine ⟨_, _, _, rfl, ?_, ?_⟩
    · rw [dn_]; omega
    · rw [w64 (by omega) (by omega)]; exact ⟨by omega, by omega⟩
  · rw [if_neg hl]
    refine ⟨_, _, _, rfl, ?_, h0, h1⟩
    rw [dn_]; omega
theorem bD_ {x n : Int} (hx : 0 ≤ x) (hn : 0 < n) : 0 ≤ Int.tmod x n ∧ Int.tmod x n < n := by
  rw [Int.tmod_eq_emod_of_nonneg hx]
  exact ⟨Int.emod_nonneg _ (by omega), Int.emod_lt_of_pos _ hn⟩
theorem be_ {b : List Int} {i : Int} (h n : Int) (hb : b.length ≤ 1048576) (hi : Cur b i) : ∃ v i' h', spec_l01Below.f b i h n = some (v, i', h') ∧ (0 ≤ v ∧ (0 < n → v < n) ∧ (n ≤ 0 → v = 0)) ∧ Cur b i' := by
  unfold spec_l01Below.f
  by_cases hn : n ≤ 0
  · rw [if_pos hn]
    exact ⟨0, i, h, rfl, ⟨by omega, fun h => by omega, fun _ => rfl⟩, hi⟩
  · rw [if_neg hn]
    by_cases hs : n ≤ 256
    · rw [if_pos hs]
      obtain ⟨v, i', h', e, hv, hi'⟩ := aX_ h hb hi
      rw [e]
      simp only [Option.bind_some]
      rw [if_neg (by omega)]
      have := bD_ hv.1 (show 0 < n by omega)
      exact ⟨_, _, _, rfl, ⟨this.1, fun _ => this.2, fun h => absurd h hn⟩, hi'⟩
    · rw [if_neg hs]
      obtain ⟨v1, i1, h1, e1, hv1, hi1⟩ := aX_ h hb hi
      rw [e1]
      simp only [Option.bind_some]
      obtain ⟨v2, i2, h2, e2, hv2, hi2⟩ := aX_ h1 hb hi1
      rw [e2]
      simp only [Option.bind_some]
      obtain ⟨v3, i3, h3, e3, hv3, hi3⟩ := aX_ h2 hb hi2
      rw [e3]
      simp only [Option.bind_some]
      obtain ⟨v4, i4, h4, e4, hv4, hi4⟩ := aX_ h3 hb hi3
      rw [e4]
      simp only [Option.bind_some]
      rw [if_neg (by omega)]
      rw [w64 (x := v1 * 16777216) (by omega) (by omega), w64 (x := v2 * 65536) (by omega) (by omega), w64 (x := v3 * 256) (by omega) (by omega), w64 (x := v1 * 16777216 + v2 * 65536) (by omega) (by omega),
        w64 (x := v1 * 16777216 + v2 * 65536 + v3 * 256) (by omega) (by omega), w64 (x := v1 * 16777216 + v2 * 65536 + v3 * 256 + v4) (by omega) (by omega)]
      have := bD_ (show 0 ≤ v1 * 16777216 + v2 * 65536 + v3 * 256 + v4 by omega) (show 0 < n by omega)
      exact ⟨_, _, _, rfl, ⟨this.1, fun _ => this.2, fun h => absurd h hn⟩, hi4⟩
theorem dm_ (b : List Int) : laws_big.f b = some (decide ((b.length : Int) > 1048576)) := rfl

/-! ### tot -/
def Tot {α : Type} (g : Nat → Option α) (P : α → Prop) : Prop := ∃ r, Ev g r ∧ P r
theorem Tot.bind {α β : Type} {g : Nat → Option α} {f : Nat → α → Option β} {P : α → Prop} {Q : β → Prop} (h : Tot g P) (h2 : ∀ r, P r → Tot (fun k => f k r) Q) : Tot (fun k => (g k).bind (f k)) Q := by
  obtain ⟨r, e, hr⟩ := h
  obtain ⟨q, e2, hq⟩ := h2 r hr
  exact ⟨q, Ev.bind e e2, hq⟩
theorem Tot.ret {α : Type} {P : α → Prop} (r : α) (h : P r) : Tot (fun _ => some r) P := ⟨r, Ev.now _, h⟩
theorem Tot.step {α : Type} {F f : Nat → Option α} {P : α → Prop} (hs : ∀ k, F (k + 1) = f k) (h : Tot f P) : Tot F P := by
  obtain ⟨r, e, hr⟩ := h
  exact ⟨r, Ev.step hs e, hr⟩
theorem Tot.mono {α : Type} {g : Nat → Option α} {P Q : α → Prop} (h : Tot g P) (hpq : ∀ r, P r → Q r) : Tot g Q := by
  obtain ⟨r, e, hr⟩ := h
  exact ⟨r, e, hpq r hr⟩
theorem Tot.of_some {α : Type} {o : Option α} {P : α → Prop} (r : α) (e : o = some r) (h : P r) : Tot (fun _ => o) P := ⟨r, ⟨0, fun _ _ => e⟩, h⟩
theorem el_ {b : List Int} {i : Int} (h : Int) (hb : b.length ≤ 1048576) (hi : Cur b i) : Tot (fun _ => spec_l01Byte.f b i h) (fun r => (0 ≤ r.1 ∧ r.1 ≤ 255) ∧ Cur b r.2.1) := by
  obtain ⟨v, i', h', e, hv, hi'⟩ := aX_ h hb hi
  exact Tot.of_some _ e ⟨hv, hi'⟩
theorem ao_ {b : List Int} {i : Int} (h n : Int) (hb : b.length ≤ 1048576) (hi : Cur b i) : Tot (fun _ => spec_l01Below.f b i h n) (fun r => (0 ≤ r.1 ∧ (0 < n → r.1 < n) ∧ (n ≤ 0 → r.1 = 0)) ∧ Cur b r.2.1) := by
  obtain ⟨v, i', h', e, hv, hi'⟩ := be_ h n hb hi
  exact Tot.of_some _ e ⟨hv, hi'⟩
theorem ed_ {l : List Int} {i : Int} (h0 : 0 ≤ i) (h1 : i < (l.length : Int)) : rd l i ∈ l := by
  unfold rd
  rw [List.getD_eq_getElem?_getD, List.getElem?_eq_getElem (by omega), Option.getD_some]
  exact List.getElem_mem _
theorem cC_ {b : List Int} {i : Int} (h : Int) (l : List Int) (hb : b.length ≤ 1048576) (hi : Cur b i) (hl : 0 < l.length) : Tot (fun _ => spec_l01PickInt.f b i h l) (fun r => r.1 ∈ l ∧ Cur b r.2.1) := by
  obtain ⟨v, i', h', e, hv, hi'⟩ := be_ h (l.length : Int) hb hi
  have h1 := hv.2.1 (by omega)
  refine Tot.of_some (rd l v, i', h') ?_ ⟨ed_ hv.1 h1, hi'⟩
  unfold spec_l01PickInt.f
  rw [e]
  simp only [Option.bind_some]
  rw [if_pos hv.1, if_pos h1]
theorem dO_ {b : List Int} {i : Int} (h n : Int) (hb : b.length ≤ 1048576) (hi : Cur b i) : Tot (fun _ => spec_l01Once.f b i h n) (fun r => Cur b r.2.1) := by
  obtain ⟨v, i', h', e, _, hi'⟩ := be_ h n hb hi
  refine Tot.of_some (v == 0, i', h') ?_ hi'
  unfold spec_l01Once.f
  rw [e]
  rfl
theorem co_ {b : List Int} {i : Int} (h : Int) (l : List ByteArray) (hb : b.length ≤ 1048576) (hi : Cur b i) (hl : 0 < l.length) : Tot (fun _ => spec_l01Pick.f b i h l) (fun r => r.1 ∈ l ∧ Cur b r.2.1) := by
  obtain ⟨v, i', h', e, hv, hi'⟩ := be_ h (l.length : Int) hb hi
  have h1 := hv.2.1 (by omega)
  have hm : rdOf ByteArray.empty l v ∈ l := by
    unfold rdOf
    rw [List.getD_eq_getElem?_getD, List.getElem?_eq_getElem (by have := hv.1; omega), Option.getD_some]
    exact List.getElem_mem _
  refine Tot.of_some (rdOf ByteArray.empty l v, i', h') ?_ ⟨hm, hi'⟩
  unfold spec_l01Pick.f
  rw [e]
  simp only [Option.bind_some]
  rw [if_pos hv.1, if_pos h1]

/-! ### cmddraw -/
theorem df_ (a : List S83) (l : List S81) (s : ByteArray) (hl : l.length ≤ 1048576) : ∀ (d j : Nat), l.length - j = d → j ≤ l.length → Tot (fun k => spec_ItemOf.l0 k s (j : Int) a l) (fun _ => True) := by
  intro d
  induction d with
  | zero =>
    intro j hd hj
    refine Tot.step (fun k => rfl) ?_
    simp only [spec_ItemOf.l0, if_neg (show ¬ (j : Int) < (l.length : Int) by omega)]
    exact Tot.ret _ trivial
  | succ d ih =>
    intro j hd hj
    refine Tot.step (fun k => rfl) ?_
    simp only [spec_ItemOf.l0, if_pos (show (j : Int) < (l.length : Int) by omega), if_pos (show (0 : Int) ≤ (j : Int) by omega), w64 (x := (j : Int) + 1) (by omega) (by omega)]
    by_cases h : (rd_T81 l (j : Int)).f0.toList = s.toList
    · simp only [if_pos h]
      exact Tot.ret _ trivial
    · simp only [if_neg h]
      exact ih (j + 1) (by omega) (by omega)
theorem eo_ {b : List Int} {i : Int} (h : Int) (hb : b.length ≤ 1048576) (hi : Cur b i) (q : Bool) (o t s : Int) (k1 k2 : ByteArray) (v : Int) (y1 y2 : ByteArray) (y3 : Int) : Tot (fun k => spec_l15Of.j1 k q b i h o t s k1 k2 v y1 y2 y3) (fun r => Cur b r.2.2.2.2.2.2.1) := by
  refine Tot.step (fun k => rfl) ?_
  simp only [spec_l15Of.j1]
  by_cases h5 : o = 5
  · simp only [if_pos h5]
    refine Tot.bind (ao_ h 20 hb hi) fun r hr => ?_
    by_cases hq : q = true
    · simp only [if_pos hq]
      refine Tot.bind (dO_ _ 3 hb hr.2) fun u hu => ?_
      by_cases hu1 : u.1 = true
      · simp only [if_pos hu1]; exact Tot.ret _ hu
      · simp only [if_neg hu1]; exact Tot.ret _ hu
    · simp only [if_neg hq]
      exact Tot.ret _ hr.2
  · simp only [if_neg h5]
    exact Tot.ret _ hi
theorem em_ {b : List Int} {i : Int} (h : Int) (hb : b.length ≤ 1048576) (hi : Cur b i) (q w : Bool) (o t s : Int) (k1 k2 : ByteArray) (v : Int) (y1 y2 : ByteArray) (y3 : Int) : Tot (fun k => spec_l15Of.j0 k q w b i h o t s k1 k2 v y1 y2 y3) (fun r => Cur b r.2.2.2.2.2.2.1) := by
  refine Tot.step (fun k => rfl) ?_
  simp only [spec_l15Of.j0]
  by_cases hw : w = true
  · simp only [if_pos hw]
    refine Tot.bind (co_ _ _ hb hi (by simp)) fun u hu => ?_
    exact eo_ _ hb hu.2 _ _ _ _ _ _ _ _ _ _
  · simp only [if_neg hw]
    exact eo_ _ hb hi _ _ _ _ _ _ _ _ _ _
theorem tOf {b : List Int} {i : Int} (h : Int) (hb : b.length ≤ 1048576) (hi : Cur b i) (x : List S83) (y : List S81) (hy : y.length ≤ 1048576) : Tot (fun k => spec_l15Of.f k b i h x y) (fun r => Cur b r.2.2.2.2.2.2.1) := by
  unfold spec_l15Of.f
  refine Tot.bind (cC_ h _ hb hi (by simp)) fun r hr => ?_
  refine Tot.bind (co_ _ _ hb hr.2 (by simp)) fun u hu => ?_
  refine Tot.bind (P := fun _ => True) (show Tot (fun k => spec_ItemOf.f k x y u.1) _ from df_ x y u.1 hy y.length 0 (by omega) (by omega)) fun v _ => ?_
  by_cases h2 : r.1 = 2
  · simp only [if_pos h2]
    exact em_ _ hb hu.2 _ _ _ _ _ _ _ _ _ _ _
  · simp only [if_neg h2]
    exact em_ _ hb hu.2 _ _ _ _ _ _ _ _ _ _ _
theorem eg_ {b : List Int} {i : Int} (h : Int) (hb : b.length ≤ 1048576) (hi : Cur b i) (o t s : Int) (k1 k2 : ByteArray) (v y1 y2 : Int) (y3 : ByteArray) : Tot (fun k => spec_l15Command.j1 k b i h o t s k1 k2 v y1 y2 y3) (fun r => Cur b r.2.2.2.2.2.2.1) := by
  refine Tot.step (fun k => rfl) ?_
  simp only [spec_l15Command.j1]
  refine Tot.bind (ao_ h 16 hb hi) fun r hr => ?_
  by_cases h0 : r.1 = 0
  · simp only [if_pos h0]; (try (refine Tot.step (fun k => rfl) ?_; simp only [spec_l15Command.j2])); exact Tot.ret _ hr.2
  · by_cases h1 : r.1 = 1
    · simp only [if_neg h0, if_pos h1]
      refine Tot.bind (ao_ _ 4 hb hr.2) fun u hu => ?_
      (try (refine Tot.step (fun k => rfl) ?_; simp only [spec_l15Command.j2])); exact Tot.ret _ hu.2
    · by_cases h2 : r.1 = 2
      · simp only [if_neg h0, if_neg h1, if_pos h2]
        refine Tot.bind (ao_ _ 9 hb hr.2) fun u hu => ?_
        (try (refine Tot.step (fun k => rfl) ?_; simp only [spec_l15Command.j2])); exact Tot.ret _ hu.2
      · simp only [if_neg h0, if_neg h1, if_neg h2]; (try (refine Tot.step (fun k => rfl) ?_; simp only [spec_l15Command.j2])); exact Tot.ret _ hr.2
theorem ep_ {b : List Int} {i : Int} (h : Int) (hb : b.length ≤ 1048576) (hi : Cur b i) (x : List S83) (y : List S81) (hx : 0 < x.length ∧ x.length ≤ 1048576) (hy : y.length ≤ 1048576) : Tot (fun k => spec_l15Command.f k b i h x y) (fun r => Cur b r.2.2.2.2.2.2.1) := by
  unfold spec_l15Command.f
  simp only [if_neg (show ¬ (x.length : Int) = 0 by omega)]
  refine Tot.bind (dO_ h 16 hb hi) fun r hr => ?_
  refine Tot.step (fun k => rfl) ?_
  simp only [spec_l15Command.j0]
  by_cases hr1 : r.1 = true
  · simp only [if_pos hr1]
    exact Tot.ret _ hr
  · simp only [if_neg hr1]
    refine Tot.bind (tOf _ hb hr x y hy) fun u hu => ?_
    simp only [w64 (x := (x.length : Int) - 1) (by omega) (by omega), if_pos (show (0 : Int) ≤ (x.length : Int) - 1 by omega), if_pos (show (x.length : Int) - 1 < (x.length : Int) by omega)]
    refine Tot.bind (dO_ _ 4 hb hu) fun v hv => ?_
    by_cases hv1 : v.1 = true
    · simp only [if_pos hv1]
      refine Tot.bind (ao_ _ (x.length : Int) hb hv) fun w hw => ?_
      have hw1 := hw.1.2.1 (by omega)
      simp only [if_pos hw.1.1, if_pos hw1]
      exact eg_ _ hb hw.2 _ _ _ _ _ _ _ _ _
    · simp only [if_neg hv1]
      exact eg_ _ hb hv _ _ _ _ _ _ _ _ _

/-! ### decimal -/
theorem cT_ (s : Bool) : ∀ (d : Nat) (x : Int) (acc : ByteArray), 0 ≤ x → x < 10 ^ d → x ≤ 1000000000000 → acc.size ≤ 100 → d + acc.size ≤ 100 → Tot (fun k => spec_Decimal.l0 k x s acc) (fun r => r.size ≤ acc.size + d + 1) := by
  intro d
  induction d with
  | zero =>
    intro x acc h0 h1 _ ha hd
    have hx : x = 0 := by rw [show (10 : Int) ^ 0 = 1 from rfl] at h1; omega
    refine Tot.step (fun k => rfl) ?_
    simp only [spec_Decimal.l0, if_pos hx]
    by_cases hs : s = true
    · simp only [if_pos hs, if_pos (show 1 + acc.size ≤ 9223372036854775807 by omega)]
      exact Tot.ret _ (by rw [ByteArray.size_append]; show 1 + acc.size ≤ _; omega)
    · simp only [if_neg hs]
      exact Tot.ret _ (by omega)
  | succ d ih =>
    intro x acc h0 h1 h2 ha hd
    refine Tot.step (fun k => rfl) ?_
    by_cases hx : x = 0
    · simp only [spec_Decimal.l0, if_pos hx]
      by_cases hs : s = true
      · simp only [if_pos hs, if_pos (show 1 + acc.size ≤ 9223372036854775807 by omega)]
        exact Tot.ret _ (by rw [ByteArray.size_append]; show 1 + acc.size ≤ _; omega)
      · simp only [if_neg hs]
        exact Tot.ret _ (by omega)
    · have hm : Int.tmod x 10 = x % 10 := Int.tmod_eq_emod_of_nonneg h0
      have hq : Int.tdiv x 10 = x / 10 := Int.tdiv_eq_ediv_of_nonneg h0
      have hp : (10 : Int) ^ (d + 1) = 10 ^ d * 10 := Int.pow_succ 10 d
      rw [hp] at h1
      obtain ⟨v, hv⟩ : ∃ v, spec_l01Figure.f (Int.tmod x 10) = some v := by
        unfold spec_l01Figure.f
        split <;> exact ⟨_, rfl⟩
      simp only [spec_Decimal.l0, if_neg hx, if_neg (show ¬ Int.tmod x 10 < 0 by omega), hv, Option.bind_some]
      (try (refine Tot.step (fun k => rfl) ?_; simp only [spec_Decimal.j1, hv, Option.bind_some]))
      have hz : (strOfNums [v]).size = 1 := by rw [strOfNums_size]; rfl
      simp only [if_pos (show (strOfNums [v]).size + acc.size ≤ 9223372036854775807 by omega), hq, w64 (x := x / 10) (by omega) (by omega)]
      have hlt : x / 10 < 10 ^ d := by generalize (10 : Int) ^ d = P at *; omega
      refine Tot.mono (ih (x / 10) (strOfNums [v] ++ acc) (by omega) hlt (by omega) (by rw [ByteArray.size_append]; omega) (by rw [ByteArray.size_append]; omega)) fun r hr => ?_
      rw [ByteArray.size_append] at hr
      omega
theorem dU_ (x : Int) (h0 : 0 ≤ x) (h1 : x ≤ 1000000000) : Tot (fun k => spec_Decimal.f k x) (fun r => r.size ≤ 20) := by
  unfold spec_Decimal.f
  by_cases hx : x = 0
  · simp only [if_pos hx]
    exact Tot.ret _ (by show 1 ≤ 20; omega)
  · simp only [if_neg hx]
    refine Tot.mono (cT_ _ 12 x _ h0 (by rw [show (10 : Int) ^ 12 = 1000000000000 from by decide]; omega) (by omega) (by show 0 ≤ 100; omega) (by show 12 + 0 ≤ 100; omega)) fun r hr => ?_
    have : (⟨#[]⟩ : ByteArray).size = 0 := rfl
    omega

/-! ### text -/
theorem ca_ {b : List Int} (hb : b.length ≤ 1048576) (n : Int) (hn : n ≤ 5000) : ∀ (d : Nat) (acc : List Int) (j : Int) (i h : Int), Cur b i → (acc.length : Int) = j → n - j ≤ d → (j ≤ n ∨ j = 0) →
    Tot (fun k => spec_l01Text.l0 k n acc j b i h) (fun r => (r.1.size : Int) = mx 0 n ∧ Cur b r.2.1) := by
  intro d
  induction d with
  | zero =>
    intro acc j i h hi hl hd hj
    refine Tot.step (f := fun _ => some (strOfNums acc, i, h)) (fun k => by simp only [spec_l01Text.l0]; rw [if_neg (by omega)]) (Tot.ret _ ⟨?_, hi⟩)
    rw [strOfNums_size]
    unfold mx
    split <;> omega
  | succ d ih =>
    intro acc j i h hi hl hd hj
    by_cases hjn : j < n
    · refine Tot.step (fun k => rfl) ?_
      simp only [spec_l01Text.l0, if_pos hjn]
      refine Tot.bind (el_ h hb hi) fun r hr => ?_
      have hlen : acc.length < 140737488355328 := by omega
      simp only [if_pos hlen]
      rw [w64 (by omega) (by omega)]
      exact ih (acc ++ [r.1 % 256]) (j + 1) r.2.1 r.2.2 hr.2 (by rw [List.length_append, List.length_singleton]; omega) (by omega) (by omega)
    · refine Tot.step (f := fun _ => some (strOfNums acc, i, h)) (fun k => by simp only [spec_l01Text.l0]; rw [if_neg hjn]) (Tot.ret _ ⟨?_, hi⟩)
      rw [strOfNums_size]
      unfold mx
      split <;> omega
theorem eb_ {b : List Int} {i : Int} (h n : Int) (hb : b.length ≤ 1048576) (hi : Cur b i) : Tot (fun k => spec_l01Text.f k b i h n) (fun r => r.1.size ≤ 5000 ∧ (0 ≤ n → n ≤ 5000 → (r.1.size : Int) = n) ∧ Cur b r.2.1) := by
  unfold spec_l01Text.f
  by_cases hn : n > 5000
  · simp only [if_pos hn]
    refine Tot.step (f := fun k => spec_l01Text.l0 k 5000 [] 0 b i h) (fun k => rfl) ((ca_ hb 5000 (by omega) 5000 [] 0 i h hi rfl (by omega) (by omega)).mono fun r hr => ⟨?_, fun h0 h1 => absurd h1 (by omega), hr.2⟩)
    have := hr.1
    unfold mx at this
    rw [if_pos (by omega)] at this
    omega
  · simp only [if_neg hn]
    refine Tot.step (f := fun k => spec_l01Text.l0 k n [] 0 b i h) (fun k => rfl) ((ca_ hb n (by omega) 5000 [] 0 i h hi rfl (by omega) (by omega)).mono fun r hr => ?_)
    have h2 := hr.1
    unfold mx at h2
    refine ⟨?_, fun h0 h1 => ?_, hr.2⟩
    · split at h2 <;> omega
    · split at h2 <;> omega
theorem cK_ (n c : Int) (hn : n ≤ 1000000) : ∀ (d : Nat) (j : Int) (l : List Int), (l.length : Int) = n → 0 ≤ j → n - j ≤ d → j ≤ n → Tot (fun k => spec_l01Long.l0 k n c l j) (fun r => (r.size : Int) = n) := by
  intro d
  induction d with
  | zero =>
    intro j l hl h0 hd hj
    refine Tot.step (f := fun _ => some (strOfNums l)) (fun k => by simp only [spec_l01Long.l0]; rw [if_neg (by omega)]) (Tot.ret _ (by rw [strOfNums_size]; exact hl))
  | succ d ih =>
    intro j l hl h0 hd hj
    by_cases hjn : j < n
    · refine Tot.step (fun k => by simp only [spec_l01Long.l0]; rw [if_pos hjn, if_pos h0, if_pos (by omega), w64 (by omega) (by omega)]) ?_
      exact ih (j + 1) (l.set j.toNat c) (by rw [List.length_set]; exact hl) (by omega) (by omega) (by omega)
    · refine Tot.step (f := fun _ => some (strOfNums l)) (fun k => by simp only [spec_l01Long.l0]; rw [if_neg hjn]) (Tot.ret _ (by rw [strOfNums_size]; exact hl))
theorem ec_ (n c : Int) (h0 : 0 ≤ n) (hn : n ≤ 1000000) : Tot (fun k => spec_l01Long.f k n c) (fun r => (r.size : Int) = n) := by
  unfold spec_l01Long.f
  simp only [if_pos h0, if_pos (show n.toNat ≤ 281474976710656 by omega)]
  exact cK_ n c hn n.toNat 0 _ (by rw [List.length_replicate]; omega) (by omega) (by omega) (by omega)

/-! ### keepdraw -/
theorem dH_ (x : List S83) (y : List S81) (hx : x.length ≤ 1000) (hy : y.length ≤ 1000) : spec_l15Copy.f x y = some (x, y) := by
  unfold spec_l15Copy.f
  simp only [Option.bind_some, List.nil_append, List.length_nil]
  rw [if_pos (by omega), if_pos (by omega)]
theorem cg_ (x : List S83) (y : List S81) (hx : x.length ≤ 1000) (hy : y.length ≤ 1000) : Tot (fun _ => spec_l15Copy.f x y) (fun r => r = (x, y)) := Tot.of_some _ (dH_ x y hx hy) rfl
theorem dy_ (i : Int) (h0 : 0 ≤ i) (h1 : i ≤ 1000000) (a : List S83) (b : List S81) (c : List S83) (e : List S81) (ha : a.length ≤ 3) : ∀ (d j : Nat) (x : List S83), a.length - j = d → j ≤ a.length → x.length ≤ j + 4 → Tot (fun k => spec_l15Open.l1 k i x (j : Int) a b c e) (fun r => r.1.length ≤ 20 ∧ r.2.1 = e) := by
  intro d
  induction d with
  | zero =>
    intro j x hd hj hx
    refine Tot.step (fun k => rfl) ?_
    simp only [spec_l15Open.l1, if_neg (show ¬ (j : Int) < (a.length : Int) by omega)]
    by_cases h3 : (x.length : Int) > 3
    · simp only [if_pos h3, Option.bind_some, if_pos (show 1 ≤ (x.length : Int) by omega), List.length_nil, List.nil_append, if_pos (show 0 + (x.drop 1).length < 4398046511104 by rw [List.length_drop]; omega)]
      (try (refine Tot.step (fun k => rfl) ?_; simp only [spec_l15Open.j2])); refine Tot.bind (dU_ i h0 (by omega)) fun t ht => ?_
      simp only [if_pos (show 5 + t.size ≤ 9223372036854775807 by omega)]
      exact Tot.ret _ ⟨by show (x.drop 1).length ≤ 20; rw [List.length_drop]; omega, rfl⟩
    · simp only [if_neg h3]
      (try (refine Tot.step (fun k => rfl) ?_; simp only [spec_l15Open.j2])); refine Tot.bind (dU_ i h0 (by omega)) fun t ht => ?_
      simp only [if_pos (show 5 + t.size ≤ 9223372036854775807 by omega)]
      exact Tot.ret _ ⟨by show x.length ≤ 20; omega, rfl⟩
  | succ d ih =>
    intro j x hd hj hx
    refine Tot.step (fun k => rfl) ?_
    simp only [spec_l15Open.l1, if_pos (show (j : Int) < (a.length : Int) by omega), if_pos (show (0 : Int) ≤ (j : Int) by omega), w64 (x := (j : Int) + 1) (by omega) (by omega)]
    by_cases h : (rd_T83 a (j : Int)).f0 > i
    · simp only [if_pos h, if_pos (show x.length < 4398046511104 by omega)]
      exact ih (j + 1) _ (by omega) (by omega) (by rw [List.length_append, List.length_singleton]; omega)
    · simp only [if_neg h]
      exact ih (j + 1) _ (by omega) (by omega) (by omega)
theorem dG_ (i : Int) (h0 : 0 ≤ i) (h1 : i ≤ 1000000) (a : List S83) (b : List S81) (c : List S83) (e : List S81) (ha : a.length ≤ 3) : ∀ (d j : Nat) (x : List S83), a.length - j = d → j ≤ a.length → x.length ≤ j → Tot (fun k => spec_l15Open.l0 k i x (j : Int) a b c e) (fun r => r.1.length ≤ 20 ∧ r.2.1 = e) := by
  intro d
  induction d with
  | zero =>
    intro j x hd hj hx
    refine Tot.step (fun k => rfl) ?_
    simp only [spec_l15Open.l0, if_neg (show ¬ (j : Int) < (a.length : Int) by omega), if_pos (show x.length < 4398046511104 by omega)]
    exact dy_ i h0 h1 a b c e ha a.length 0 _ (by omega) (by omega) (by rw [List.length_append, List.length_singleton]; omega)
  | succ d ih =>
    intro j x hd hj hx
    refine Tot.step (fun k => rfl) ?_
    simp only [spec_l15Open.l0, if_pos (show (j : Int) < (a.length : Int) by omega), if_pos (show (0 : Int) ≤ (j : Int) by omega), w64 (x := (j : Int) + 1) (by omega) (by omega)]
    by_cases h : (rd_T83 a (j : Int)).f0 < i
    · simp only [if_pos h, if_pos (show x.length < 4398046511104 by omega)]
      exact ih (j + 1) _ (by omega) (by omega) (by rw [List.length_append, List.length_singleton]; omega)
    · simp only [if_neg h]
      exact ih (j + 1) _ (by omega) (by omega) (by omega)
theorem ek_ (i : Int) (h0 : 0 ≤ i) (h1 : i ≤ 1000000) (a : List S83) (b : List S81) (ha : a.length ≤ 3) (hb : b.length ≤ 20) : Tot (fun k => spec_l15Open.f k a b i) (fun r => r.1.length ≤ 20 ∧ r.2.1.length ≤ 20) := by
  unfold spec_l15Open.f
  refine Tot.bind (cg_ a b (by omega) (by omega)) fun r hr => ?_
  subst hr
  refine Tot.mono (dG_ i h0 h1 a b a b ha a.length 0 [] (by omega) (by omega) (by simp)) fun q hq => ?_
  exact ⟨hq.1, by rw [hq.2]; exact hb⟩
theorem ef_ (a : List S83) (b : List S81) (p q : ByteArray) (v : Int) (hb : b.length ≤ 8) : ∀ (d j : Nat) (x : List S81), b.length - j = d → j ≤ b.length → x.length ≤ j + 10 → Tot (fun k => spec_l15Put.l1 k x (j : Int) a b p q v) (fun r => r.2.length ≤ 8) := by
  intro d
  induction d with
  | zero =>
    intro j x hd hj hx
    refine Tot.step (fun k => rfl) ?_
    simp only [spec_l15Put.l1, if_neg (show ¬ (j : Int) < (b.length : Int) by omega)]
    by_cases h3 : (x.length : Int) > 8
    · simp only [if_pos h3]
      exact Tot.ret _ hb
    · simp only [if_neg h3]
      exact Tot.ret _ (by show x.length ≤ 8; omega)
  | succ d ih =>
    intro j x hd hj hx
    refine Tot.step (fun k => rfl) ?_
    simp only [spec_l15Put.l1, if_pos (show (j : Int) < (b.length : Int) by omega), if_pos (show (0 : Int) ≤ (j : Int) by omega), w64 (x := (j : Int) + 1) (by omega) (by omega)]
    by_cases h : (Op.bytesLess p.toList (rd_T81 b (j : Int)).f0.toList) = true
    · simp only [if_pos h, if_pos (show x.length < 3518437208883 by omega)]
      exact ih (j + 1) _ (by omega) (by omega) (by rw [List.length_append, List.length_singleton]; omega)
    · simp only [if_neg h]
      exact ih (j + 1) _ (by omega) (by omega) (by omega)
theorem eh_ (a : List S83) (b : List S81) (p q : ByteArray) (v : Int) (hb : b.length ≤ 8) : ∀ (d j : Nat) (x : List S81), b.length - j = d → j ≤ b.length → x.length ≤ j → Tot (fun k => spec_l15Put.l0 k x (j : Int) a b p q v) (fun r => r.2.length ≤ 8) := by
  intro d
  induction d with
  | zero =>
    intro j x hd hj hx
    refine Tot.step (fun k => rfl) ?_
    simp only [spec_l15Put.l0, if_neg (show ¬ (j : Int) < (b.length : Int) by omega), if_pos (show x.length < 3518437208883 by omega)]
    exact ef_ a b p q v hb b.length 0 _ (by omega) (by omega) (by rw [List.length_append, List.length_singleton]; omega)
  | succ d ih =>
    intro j x hd hj hx
    refine Tot.step (fun k => rfl) ?_
    simp only [spec_l15Put.l0, if_pos (show (j : Int) < (b.length : Int) by omega), if_pos (show (0 : Int) ≤ (j : Int) by omega), w64 (x := (j : Int) + 1) (by omega) (by omega)]
    by_cases h : (Op.bytesLess (rd_T81 b (j : Int)).f0.toList p.toList) = true
    · simp only [if_pos h, if_pos (show x.length < 3518437208883 by omega)]
      exact ih (j + 1) _ (by omega) (by omega) (by rw [List.length_append, List.length_singleton]; omega)
    · simp only [if_neg h]
      exact ih (j + 1) _ (by omega) (by omega) (by omega)
theorem cG_ (a : List S83) (l : List S81) (s : ByteArray) (hl : l.length ≤ 1048576) (hg : ∀ j (hj : j < l.length), l[j].f0.size ≤ 8 ∧ l[j].f1.size ≤ 20 ∧ (1 ≤ l[j].f2 ∧ l[j].f2 ≤ 1000000000)) : ∀ (d j : Nat), l.length - j = d → j ≤ l.length → Tot (fun k => spec_ItemOf.l0 k s (j : Int) a l) (fun r => r.2.1.size ≤ 20 ∧ 0 ≤ r.2.2.1 ∧ r.2.2.1 ≤ 1000000000) := by
  intro d
  induction d with
  | zero =>
    intro j hd hj
    refine Tot.step (fun k => rfl) ?_
    simp only [spec_ItemOf.l0, if_neg (show ¬ (j : Int) < (l.length : Int) by omega)]
    exact Tot.ret _ ⟨by show 0 ≤ 20; omega, by show (0 : Int) ≤ 0; omega, by show (0 : Int) ≤ 1000000000; omega⟩
  | succ d ih =>
    intro j hd hj
    have hjl : j < l.length := by omega
    have hget : rd_T81 l (j : Int) = l[j] := by unfold rd_T81; exact aI_ _ hjl
    have hh := hg j hjl
    refine Tot.step (fun k => rfl) ?_
    simp only [spec_ItemOf.l0, if_pos (show (j : Int) < (l.length : Int) by omega), if_pos (show (0 : Int) ≤ (j : Int) by omega), w64 (x := (j : Int) + 1) (by omega) (by omega), hget]
    by_cases h : l[j].f0.toList = s.toList
    · simp only [if_pos h]
      exact Tot.ret _ ⟨hh.2.1, by show 0 ≤ l[j].f2; omega, hh.2.2.2⟩
    · simp only [if_neg h]
      exact ih (j + 1) (by omega) (by omega)
theorem dD_ (a : List S83) (b : List S81) (o t s : Int) (p q : ByteArray) (v : Int) (hb : b.length ≤ 8) : ∀ (d j : Nat) (x : List S81), b.length - j = d → j ≤ b.length → x.length ≤ j → Tot (fun k => spec_l15Do.l0 k x (j : Int) a b o t s p q v) (fun r => r.2.length ≤ 8) := by
  intro d
  induction d with
  | zero =>
    intro j x hd hj hx
    refine Tot.step (fun k => rfl) ?_
    simp only [spec_l15Do.l0, if_neg (show ¬ (j : Int) < (b.length : Int) by omega)]
    exact Tot.ret _ (by show x.length ≤ 8; omega)
  | succ d ih =>
    intro j x hd hj hx
    refine Tot.step (fun k => rfl) ?_
    simp only [spec_l15Do.l0, if_pos (show (j : Int) < (b.length : Int) by omega), if_pos (show (0 : Int) ≤ (j : Int) by omega), w64 (x := (j : Int) + 1) (by omega) (by omega)]
    by_cases h : (rd_T81 b (j : Int)).f0.toList = p.toList
    · simp only [if_pos h]
      exact ih (j + 1) _ (by omega) (by omega) (by omega)
    · simp only [if_neg h, if_pos (show x.length < 3518437208883 by omega)]
      exact ih (j + 1) _ (by omega) (by omega) (by rw [List.length_append, List.length_singleton]; omega)
theorem en_ (i : Int) (h0 : 0 ≤ i) (h1 : i ≤ 1000000) (a : List S83) (b : List S81) (o t s : Int) (p q : ByteArray) (v : Int) (hb : b.length ≤ 8) : Tot (fun k => spec_l15Do.j1 k i a b o t s p q v) (fun r => r.2.length ≤ 8) := by
  refine Tot.step (fun k => rfl) ?_
  simp only [spec_l15Do.j1]
  refine Tot.bind (show Tot (fun k => spec_l15Put.f k a b p q i) _ from eh_ a b p q i hb b.length 0 [] (by omega) (by omega) (by simp)) fun r hr => ?_
  by_cases h : r.1 = true
  · simp only [if_pos h]
    refine Tot.bind (dU_ i h0 (by omega)) fun u hu => ?_
    simp only [if_pos (show 4 + u.size ≤ 9223372036854775807 by omega)]
    exact Tot.ret _ hr
  · simp only [if_neg h]
    exact Tot.ret _ hr
theorem tDo (i : Int) (h0 : 0 ≤ i) (h1 : i ≤ 1000000) (a : List S83) (b : List S81) (o t s : Int) (p q : ByteArray) (v : Int) (hb : b.length ≤ 8) (hg : ∀ j (hj : j < b.length), b[j].f0.size ≤ 8 ∧ b[j].f1.size ≤ 20 ∧ (1 ≤ b[j].f2 ∧ b[j].f2 ≤ 1000000000)) : Tot (fun k => spec_l15Do.f k a b i o t s p q v) (fun r => r.2.length ≤ 8) := by
  unfold spec_l15Do.f
  refine Tot.bind (show Tot (fun k => spec_ItemOf.f k a b p) _ from cG_ a b p (by omega) hg b.length 0 (by omega) (by omega)) fun r hr => ?_
  obtain ⟨hr1, hr2, hr3⟩ := hr
  by_cases o3 : o = 3
  · simp only [if_pos o3]
    by_cases hh : r.2.2.2 = true
    · simp only [if_pos hh]
      refine Tot.bind (dU_ r.2.2.1 hr2 hr3) fun u hu => ?_
      have s1 : (⟨#[105, 115, 32]⟩ : ByteArray).size = 3 := rfl
      have s2 : (⟨#[32]⟩ : ByteArray).size = 1 := rfl
      simp only [if_pos (show 3 + u.size ≤ 9223372036854775807 by omega), if_pos (show ((⟨#[105, 115, 32]⟩ : ByteArray) ++ u).size + 1 ≤ 9223372036854775807 by rw [ByteArray.size_append]; omega), if_pos (show (((⟨#[105, 115, 32]⟩ : ByteArray) ++ u) ++ (⟨#[32]⟩ : ByteArray)).size + r.2.1.size ≤ 9223372036854775807 by rw [ByteArray.size_append, ByteArray.size_append]; omega)]
      exact Tot.ret _ hb
    · simp only [if_neg hh]
      exact Tot.ret _ hb
  · simp only [if_neg o3]
    by_cases o4 : o = 4
    · simp only [if_pos o4]
      by_cases hh : r.2.2.2 = true
      · simp only [if_pos hh]
        exact dD_ a b o t s p q v hb b.length 0 [] (by omega) (by omega) (by simp)
      · simp only [if_neg hh]
        exact Tot.ret _ hb
    · simp only [if_neg o4]
      by_cases o5 : o = 5
      · simp only [if_pos o5]
        by_cases hh : r.2.2.2 = true
        · simp only [if_pos hh]
          by_cases hv : r.2.2.1 = v
          · simp only [if_pos hv]
            exact en_ i h0 h1 a b o t s p q v hb
          · simp only [if_neg hv]
            refine Tot.bind (dU_ r.2.2.1 hr2 hr3) fun u hu => ?_
            simp only [if_pos (show 4 + u.size ≤ 9223372036854775807 by omega)]
            exact Tot.ret _ hb
        · simp only [if_neg hh]
          exact Tot.ret _ hb
      · simp only [if_neg o5]
        exact en_ i h0 h1 a b o t s p q v hb
theorem dq_ (i : Int) (h0 : 0 ≤ i) (h1 : i ≤ 1000000) (m : Nat) (w : Bool) (a : List S83) (b : List S81) (o t s : Int) (p q : ByteArray) (v y1 y2 : Int) (y3 : ByteArray) (hk : ag_ a b = true) (hm : m < a.length) : Tot (fun k => spec_Perform.j2 k i (m : Int) w a b o t s p q v y1 y2 y3) (fun r => r.1.length ≤ 20 ∧ r.2.1.length ≤ 20) := by
  obtain ⟨⟨ha, hb⟩, _, hg⟩ := ak_ hk
  refine Tot.step (fun k => rfl) ?_
  simp only [spec_Perform.j2]
  by_cases hw : w = true
  · simp only [if_pos hw]
    refine Tot.bind (cg_ a b (by omega) (by omega)) fun r hr => ?_
    subst hr
    exact Tot.ret _ ⟨by show a.length ≤ 20; omega, by show b.length ≤ 20; omega⟩
  · simp only [if_neg hw]
    by_cases c1 : s = y2
    · simp only [if_pos c1]
      refine Tot.bind (cg_ a b (by omega) (by omega)) fun r hr => ?_
      subst hr
      exact Tot.ret _ ⟨by show a.length ≤ 20; omega, by show b.length ≤ 20; omega⟩
    · simp only [if_neg c1]
      by_cases c2 : s > wrap64 (y2 + 1)
      · simp only [if_pos c2]
        refine Tot.bind (cg_ a b (by omega) (by omega)) fun r hr => ?_
        subst hr
        exact Tot.ret _ ⟨by show a.length ≤ 20; omega, by show b.length ≤ 20; omega⟩
      · simp only [if_neg c2]
        refine Tot.bind (cg_ a b (by omega) (by omega)) fun r hr => ?_
        subst hr
        refine Tot.bind (tDo i h0 h1 a b o t s p q v hb hg) fun u hu => ?_
        simp only [if_pos (show (0 : Int) ≤ (m : Int) by omega), if_pos (show (m : Int) < (a.length : Int) by omega), Option.bind_some]
        exact Tot.ret _ ⟨by show (List.set _ _ _).length ≤ 20; rw [List.length_set, List.length_set]; omega, by show u.2.length ≤ 20; omega⟩
theorem dP_ (i : Int) (h0 : 0 ≤ i) (h1 : i ≤ 1000000) (a : List S83) (b : List S81) (o t s : Int) (p q : ByteArray) (v : Int) (hk : ag_ a b = true) : ∀ (d j : Nat) (x : Int), a.length - j = d → j ≤ a.length → (x = -1 ∨ (0 ≤ x ∧ x < (a.length : Int))) → Tot (fun k => spec_Perform.l0 k i x (j : Int) a b o t s p q v) (fun r => r.1.length ≤ 20 ∧ r.2.1.length ≤ 20) := by
  obtain ⟨⟨ha, hb⟩, _, hg⟩ := ak_ hk
  intro d
  induction d with
  | zero =>
    intro j x hd hj hx
    refine Tot.step (fun k => rfl) ?_
    simp only [spec_Perform.l0, if_neg (show ¬ (j : Int) < (a.length : Int) by omega)]
    by_cases hx0 : x < 0
    · simp only [if_pos hx0]
      refine Tot.bind (cg_ a b (by omega) (by omega)) fun r hr => ?_
      subst hr
      exact Tot.ret _ ⟨by show a.length ≤ 20; omega, by show b.length ≤ 20; omega⟩
    · obtain ⟨m, rfl⟩ : ∃ m : Nat, x = (m : Int) := ⟨x.toNat, by omega⟩
      simp only [if_neg hx0, if_pos (show (0 : Int) ≤ (m : Int) by omega), if_pos (show (m : Int) < (a.length : Int) by omega)]
      by_cases hs : s = 0
      · simp only [if_pos hs]
        exact dq_ i h0 h1 m true a b o t s p q v _ _ _ hk (by omega)
      · simp only [if_neg hs]
        exact dq_ i h0 h1 m _ a b o t s p q v _ _ _ hk (by omega)
  | succ d ih =>
    intro j x hd hj hx
    refine Tot.step (fun k => rfl) ?_
    simp only [spec_Perform.l0, if_pos (show (j : Int) < (a.length : Int) by omega), if_pos (show (0 : Int) ≤ (j : Int) by omega), w64 (x := (j : Int) + 1) (by omega) (by omega)]
    by_cases h : (rd_T83 a (j : Int)).f0 = t
    · simp only [if_pos h]
      exact ih (j + 1) _ (by omega) (by omega) (.inr ⟨by omega, by omega⟩)
    · simp only [if_neg h]
      exact ih (j + 1) _ (by omega) (by omega) hx
theorem bL_ (i : Int) (a : List S83) (b : List S81) (o t s : Int) (p q : ByteArray) (v : Int) : Tot (fun k => spec_Perform.j0 k i true a b o t s p q v) (fun r => r.1.length ≤ 20 ∧ r.2.1.length ≤ 20) := by
  refine Tot.step (fun k => rfl) ?_
  simp only [spec_Perform.j0, if_true]
  exact Tot.ret _ ⟨by simp, by simp⟩
theorem dY_ (i : Int) (a : List S83) (b : List S81) (o t s : Int) (p q : ByteArray) (v : Int) (ha : a.length ≤ 1000) (hb : b.length ≤ 1000) : Tot (fun k => spec_Perform.f k a b i o t s p q v) (fun r => r.1.length ≤ 20 ∧ r.2.1.length ≤ 20) := by
  unfold spec_Perform.f
  refine Tot.bind (P := fun r => r = ag_ a b) ⟨_, ar_ a b (by omega) (by omega), rfl⟩ fun r hr => ?_
  subst hr
  by_cases hk : ag_ a b = true
  · simp only [if_pos hk, cf_, Option.bind_some]
    by_cases hi : rng i 1 1000000 = true
    · simp only [if_pos hi]
      have hi' := an_.1 hi
      by_cases h4 : i > 400000
      · simp only [if_pos h4]
        exact bL_ i a b o t s p q v
      · simp only [if_neg h4]
        obtain ⟨c, hc, _⟩ := ce_ o t s p q v
        refine Tot.bind (P := fun _ => True) ⟨c, hc, trivial⟩ fun u _ => ?_
        cases u with
        | false => exact bL_ i a b o t s p q v
        | true =>
          obtain ⟨⟨la, lb⟩, _⟩ := ak_ hk
          refine Tot.step (fun k => rfl) ?_
          simp only [spec_Perform.j0, Bool.not_true, Bool.false_eq_true, if_false]
          by_cases ho : o = 1
          · simp only [if_pos ho]
            refine Tot.bind (ek_ i (by omega) (by omega) a b la (by omega)) fun w hw => ?_
            exact Tot.ret _ hw
          · simp only [if_neg ho]
            exact dP_ i (by omega) (by omega) a b o t s p q v hk a.length 0 (-1) (by omega) (by omega) (.inl rfl)
    · simp only [if_neg hi]
      exact bL_ i a b o t s p q v
  · simp only [if_neg hk]
    exact bL_ i a b o t s p q v
theorem dW_ {b : List Int} {i : Int} (h : Int) (hb : b.length ≤ 1048576) (hi : Cur b i) (x : List S83) (y : List S81) (hx : x.length ≤ 1048576) (hy : y.length ≤ 1048576) : Tot (fun k => spec_l15Command.f k b i h x y) (fun r => Cur b r.2.2.2.2.2.2.1) := by
  rcases Nat.eq_zero_or_pos x.length with h0 | h0
  · unfold spec_l15Command.f
    simp only [if_pos (show (x.length : Int) = 0 by omega)]
    refine Tot.step (fun k => rfl) ?_
    simp only [spec_l15Command.j0, if_true]
    exact Tot.ret _ hi
  · exact ep_ h hb hi x y ⟨h0, hx⟩ hy
theorem dA_ {b : List Int} (hb : b.length ≤ 1048576) (n : Int) (hn : n ≤ 20) : ∀ (d : Nat) (x i h : Int) (a : List S83) (c : List S81), n - x ≤ d → 0 ≤ x → x ≤ 20 → a.length ≤ 20 → c.length ≤ 20 → Cur b i → Tot (fun k => spec_l15Keep.l0 k n x b i h a c) (fun r => (r.1.length ≤ 20 ∧ r.2.1.length ≤ 20) ∧ Cur b r.2.2.1) := by
  intro d
  induction d with
  | zero =>
    intro x i h a c hd h0 h2 ha hc hi
    refine Tot.step (fun k => rfl) ?_
    simp only [spec_l15Keep.l0]
    refine Tot.bind (ao_ h n hb hi) fun r hr => ?_
    have h3 : r.1 ≤ x := by
      by_cases hn0 : 0 < n
      · have := hr.1.2.1 hn0; omega
      · have := hr.1.2.2 (by omega); omega
    simp only [if_neg (show ¬ x < r.1 by omega)]
    exact Tot.ret _ ⟨⟨ha, hc⟩, hr.2⟩
  | succ d ih =>
    intro x i h a c hd h0 h2 ha hc hi
    refine Tot.step (fun k => rfl) ?_
    simp only [spec_l15Keep.l0]
    refine Tot.bind (ao_ h n hb hi) fun r hr => ?_
    by_cases hx : x < r.1
    · have h3 : x < n := by
        by_cases hn0 : 0 < n
        · have := hr.1.2.1 hn0; omega
        · have := hr.1.2.2 (by omega); omega
      simp only [if_pos hx]
      refine Tot.bind (dW_ _ hb hr.2 a c (by omega) (by omega)) fun u hu => ?_
      refine Tot.bind (dY_ _ a c u.1 u.2.1 u.2.2.1 u.2.2.2.1 u.2.2.2.2.1 u.2.2.2.2.2.1 (by omega) (by omega)) fun w hw => ?_
      by_cases hw1 : w.2.2.2 = true
      · simp only [if_pos hw1, w64 (x := x + 1) (by omega) (by omega)]
        exact ih (x + 1) _ _ _ _ (by omega) (by omega) (by omega) hw.1 hw.2 hu
      · simp only [if_neg hw1, w64 (x := x + 1) (by omega) (by omega)]
        exact ih (x + 1) _ _ _ _ (by omega) (by omega) (by omega) ha hc hu
    · simp only [if_neg hx]
      exact Tot.ret _ ⟨⟨ha, hc⟩, hr.2⟩
theorem dQ_ {b : List Int} {i : Int} (h n : Int) (hn : n ≤ 20) (hb : b.length ≤ 1048576) (hi : Cur b i) : Tot (fun k => spec_l15Keep.f k b i h n) (fun r => (r.1.length ≤ 20 ∧ r.2.1.length ≤ 20) ∧ Cur b r.2.2.1) := by
  unfold spec_l15Keep.f spec_KeepNew.f
  simp only [Option.bind_some]
  refine Tot.bind (dY_ 1 _ _ 1 0 0 _ _ 0 (by simp) (by simp)) fun r hr => ?_
  exact dA_ hb n hn 20 0 i h r.1 r.2.1 (by omega) (by omega) (by omega) hr.1 hr.2 hi
theorem dV_ {b : List Int} (hb : b.length ≤ 1048576) (a : List S83) : ∀ (d : Nat) (i h : Int) (c : List S81), 10 - c.length ≤ d → c.length ≤ 40 → Cur b i → Tot (fun k => spec_l15Any.l0 k b i h a c) (fun r => (r.1 = a ∧ r.2.1.length ≤ 40) ∧ Cur b r.2.2.1) := by
  intro d
  induction d with
  | zero =>
    intro i h c hd hc hi
    refine Tot.step (fun k => rfl) ?_
    simp only [spec_l15Any.l0]
    refine Tot.bind (ao_ h 2 hb hi) fun r hr => ?_
    have h1 := hr.1.2.1 (by omega)
    have h0 := hr.1.1
    simp only [w64 (x := 8 + r.1) (by omega) (by omega), if_neg (show ¬ (c.length : Int) < 8 + r.1 by omega)]
    (try (refine Tot.step (fun k => rfl) ?_; simp only [spec_l15Any.j1])); exact Tot.ret _ ⟨⟨rfl, hc⟩, hr.2⟩
  | succ d ih =>
    intro i h c hd hc hi
    refine Tot.step (fun k => rfl) ?_
    simp only [spec_l15Any.l0]
    refine Tot.bind (ao_ h 2 hb hi) fun r hr => ?_
    have h1 := hr.1.2.1 (by omega)
    have h0 := hr.1.1
    simp only [w64 (x := 8 + r.1) (by omega) (by omega)]
    by_cases hx : (c.length : Int) < 8 + r.1
    · simp only [if_pos hx]
      refine Tot.bind (dU_ (c.length : Int) (by omega) (by omega)) fun t ht => ?_
      simp only [if_pos (show 1 + t.size ≤ 9223372036854775807 by omega), if_pos (show c.length < 3518437208883 by omega)]
      exact ih _ _ _ (by rw [List.length_append, List.length_singleton]; omega) (by rw [List.length_append, List.length_singleton]; omega) hr.2
    · simp only [if_neg hx]
      (try (refine Tot.step (fun k => rfl) ?_; simp only [spec_l15Any.j1])); exact Tot.ret _ ⟨⟨rfl, hc⟩, hr.2⟩
theorem dt_ {b : List Int} {i : Int} (h : Int) (hb : b.length ≤ 1048576) (hi : Cur b i) : Tot (fun k => spec_l15Any.f k b i h) (fun r => (r.1.length ≤ 40 ∧ r.2.1.length ≤ 40) ∧ Cur b r.2.2.1) := by
  unfold spec_l15Any.f
  refine Tot.bind (dQ_ h 14 (by omega) hb hi) fun u hu => ?_
  obtain ⟨⟨hu1, hu2⟩, hu3⟩ := hu
  refine Tot.bind (cg_ u.1 u.2.1 (by omega) (by omega)) fun r hr => ?_
  subst hr
  refine Tot.bind (ao_ _ 16 hb hu3) fun q hq => ?_
  by_cases h0 : q.1 = 0
  · simp only [if_pos h0]
    refine Tot.bind (co_ _ _ hb hq.2 (by simp)) fun w hw => ?_
    simp only [if_pos (show u.2.1.length < 3518437208883 by omega)]
    (try (refine Tot.step (fun k => rfl) ?_; simp only [spec_l15Any.j1])); exact Tot.ret _ ⟨⟨by show u.1.length ≤ 40; omega, by show (List.append _ _).length ≤ 40; rw [List.append_eq, List.length_append, List.length_singleton]; omega⟩, hw.2⟩
  · simp only [if_neg h0]
    by_cases h1 : q.1 = 1
    · simp only [if_pos h1]
      refine Tot.bind (ao_ _ 40 hb hq.2) fun w hw => ?_
      refine Tot.bind (ao_ _ 2 hb hw.2) fun z hz => ?_
      simp only [if_pos (show u.1.length < 4398046511104 by omega)]
      (try (refine Tot.step (fun k => rfl) ?_; simp only [spec_l15Any.j1])); exact Tot.ret _ ⟨⟨by show (List.append _ _).length ≤ 40; rw [List.append_eq, List.length_append, List.length_singleton]; omega, by show u.2.1.length ≤ 40; omega⟩, hz.2⟩
    · simp only [if_neg h1]
      by_cases h2 : q.1 = 2
      · simp only [if_pos h2]
        by_cases hl : (u.2.1.length : Int) > 0
        · simp only [if_pos hl]
          refine Tot.bind (cC_ _ _ hb hq.2 (by simp)) fun w hw => ?_
          try simp only [if_pos (show 0 < (u.2.1.length : Int) by omega)]
          (try (refine Tot.step (fun k => rfl) ?_; simp only [spec_l15Any.j1])); exact Tot.ret _ ⟨⟨by show u.1.length ≤ 40; omega, by show (List.set _ _ _).length ≤ 40; rw [List.length_set]; omega⟩, hw.2⟩
        · simp only [if_neg hl]
          (try (refine Tot.step (fun k => rfl) ?_; simp only [spec_l15Any.j1])); exact Tot.ret _ ⟨⟨by show u.1.length ≤ 40; omega, by show u.2.1.length ≤ 40; omega⟩, hq.2⟩
      · simp only [if_neg h2]
        by_cases h3 : q.1 = 3
        · simp only [if_pos h3]
          by_cases hl : (u.2.1.length : Int) > 0
          · simp only [if_pos hl]
            refine Tot.bind (ao_ _ 2 hb hq.2) fun w hw => ?_
            have w1 := hw.1.2.1 (by omega)
            have w0 := hw.1.1
            rw [w64 (x := 20 + w.1) (by omega) (by omega)]
            refine Tot.bind (ec_ (20 + w.1) 65 (by omega) (by omega)) fun z _ => ?_
            try simp only [if_pos (show 0 < (u.2.1.length : Int) by omega)]
            (try (refine Tot.step (fun k => rfl) ?_; simp only [spec_l15Any.j1])); exact Tot.ret _ ⟨⟨by show u.1.length ≤ 40; omega, by show (List.set _ _ _).length ≤ 40; rw [List.length_set]; omega⟩, hw.2⟩
          · simp only [if_neg hl]
            (try (refine Tot.step (fun k => rfl) ?_; simp only [spec_l15Any.j1])); exact Tot.ret _ ⟨⟨by show u.1.length ≤ 40; omega, by show u.2.1.length ≤ 40; omega⟩, hq.2⟩
        · simp only [if_neg h3]
          by_cases h4 : q.1 = 4
          · simp only [if_pos h4]
            refine Tot.mono (dV_ hb u.1 10 _ _ u.2.1 (by omega) (by omega) hq.2) fun w hw => ?_
            exact ⟨⟨by rw [hw.1.1]; omega, hw.1.2⟩, hw.2⟩
          · simp only [if_neg h4]
            (try (refine Tot.step (fun k => rfl) ?_; simp only [spec_l15Any.j1])); exact Tot.ret _ ⟨⟨by show u.1.length ≤ 40; omega, by show u.2.1.length ≤ 40; omega⟩, hq.2⟩

/-! ### spoilt -/
theorem bC_ {b : List Int} {i : Int} (h : Int) (s : ByteArray) (c : Bool) (hb : b.length ≤ 1048576) (hi : Cur b i) (hs : s.size ≤ 1000000) : Tot (fun k => spec_l02Spoilt.j0 k s c b i h) (fun r => r.1.size ≤ s.size + 5000 ∧ Cur b r.2.1) := by
  refine Tot.step (fun k => rfl) ?_
  simp only [spec_l02Spoilt.j0]
  cases c
  · simp only [Bool.false_eq_true, if_false]
    exact Tot.ret _ ⟨by show s.size ≤ s.size + 5000; omega, hi⟩
  · simp only [if_true]
    by_cases h0 : (s.size : Int) > 0
    · simp only [if_pos h0]
      refine Tot.bind (ao_ h (s.size : Int) hb hi) fun r hr => ?_
      have hv := hr.1.2.1 (by omega)
      have hv0 := hr.1.1
      have hw : wrap64 (r.1 + 1) = r.1 + 1 := w64 (by omega) (by omega)
      simp only [if_pos hr.1.1, if_pos (show r.1 ≤ (s.size : Int) by omega), hw, if_pos (show (0 : Int) ≤ r.1 + 1 by omega), if_pos (show r.1 + 1 ≤ (s.size : Int) by omega)]
      refine Tot.bind (eb_ r.2.2 1 hb hr.2) fun q hq => ?_
      have h1 : (s.extract 0 r.1.toNat).size ≤ s.size := by rw [ByteArray.size_extract]; omega
      have h2 : (s.extract (r.1 + 1).toNat s.size).size ≤ s.size := by rw [ByteArray.size_extract]; omega
      have h4 : (s.extract 0 r.1.toNat).size + (s.extract (r.1 + 1).toNat s.size).size ≤ s.size := by rw [ByteArray.size_extract, ByteArray.size_extract]; omega
      have hq1 := hq.1
      have h3 : (s.extract 0 r.1.toNat ++ q.1).size ≤ s.size + 5000 := by rw [ByteArray.size_append]; omega
      simp only [if_pos (show (s.extract 0 r.1.toNat).size + q.1.size ≤ 9223372036854775807 by omega), if_pos (show (s.extract 0 r.1.toNat ++ q.1).size + (s.extract (r.1 + 1).toNat s.size).size ≤ 9223372036854775807 by omega)]
      exact Tot.ret _ ⟨by rw [ByteArray.size_append, ByteArray.size_append]; omega, hq.2.2⟩
    · simp only [if_neg h0]
      exact Tot.ret _ ⟨by show s.size ≤ s.size + 5000; omega, hi⟩
theorem cL_ {b : List Int} {i : Int} (h : Int) (s : ByteArray) (hb : b.length ≤ 1048576) (hi : Cur b i) (hs : s.size ≤ 1000000) : Tot (fun k => spec_l02Spoilt.f k b i h s) (fun r => r.1.size ≤ s.size + 5000 ∧ Cur b r.2.1) := by
  unfold spec_l02Spoilt.f
  refine Tot.bind (ao_ h 12 hb hi) fun r hr => ?_
  by_cases h0 : r.1 = 0
  · simp only [if_pos h0]
    refine Tot.bind (eb_ r.2.2 1 hb hr.2) fun q hq => ?_
    have hq1 := hq.1
    simp only [if_pos (show s.size + q.1.size ≤ 9223372036854775807 by omega)]
    exact Tot.ret _ ⟨by rw [ByteArray.size_append]; omega, hq.2.2⟩
  · simp only [if_neg h0]
    by_cases h1 : r.1 = 1
    · simp only [if_pos h1, w64 (x := (s.size : Int) + 1) (by omega) (by omega)]
      refine Tot.bind (ao_ r.2.2 ((s.size : Int) + 1) hb hr.2) fun q hq => ?_
      have hv := hq.1.2.1 (by omega)
      simp only [if_pos hq.1.1, if_pos (show q.1 ≤ (s.size : Int) by omega)]
      exact Tot.ret _ ⟨by rw [ByteArray.size_extract]; omega, hq.2⟩
    · simp only [if_neg h1]
      by_cases h2 : r.1 = 2
      · simp only [if_pos h2]
        exact bC_ _ s _ hb hr.2 hs
      · simp only [if_neg h2]
        exact bC_ _ s _ hb hr.2 hs

/-! ### cmdfwd -/
theorem cM_ (o t q : Int) (key val : ByteArray) (v : Int) (ho : 0 ≤ o ∧ o ≤ 255) : bytesOf (bv_ o t q key val v) = o :: (bytesOf (ah_ t) ++ (bytesOf (ah_ q) ++ (bytesOf (ab_ key) ++ (bytesOf (ab_ val) ++ (bytesOf (ah_ v) ++ []))))) := by
  unfold bv_
  rw [am_, am_, am_, am_, am_, cl_ (by simp only [List.mem_singleton]; rintro x rfl; omega), show o % 256 = o by omega]
  simp
theorem ba_ (o t q : Int) (key val : ByteArray) (v : Int) (f2 : Ev (fun k => impl_CommandOk.f k o t q key val v) true) (hb : (0 ≤ t ∧ t ≤ 1000000) ∧ (0 ≤ q ∧ q ≤ 1000000) ∧ (0 ≤ v ∧ v ≤ 1000000000) ∧ (1 ≤ o ∧ o ≤ 5) ∧ key.size ≤ 8 ∧ val.size ≤ 20) :
    Ev (fun k => impl_ReadCommand.f k (bv_ o t q key val v)) (o, t, q, key, val, v, true) := by
  obtain ⟨ht, hq, hv, ho, hk, hl⟩ := hb
  have hL := cM_ o t q key val v (by omega)
  have hz := bytesOf_length (bv_ o t q key val v)
  have hs : (bv_ o t q key val v).size ≤ 1000 := by
    have h2 := aa_ t
    have h3 := aa_ q
    have h4 := ad_ key
    have h5 := ad_ val
    have h6 := aa_ v
    unfold bv_
    rw [ByteArray.size_append, ByteArray.size_append, ByteArray.size_append, ByteArray.size_append, ByteArray.size_append, strOfNums_size]
    simp only [List.length_singleton]
    omega
  generalize bv_ o t q key val v = s at hL hz hs ⊢
  have hlen := congrArg List.length hL
  simp only [List.length_cons, List.length_append, List.length_nil, hz] at hlen
  obtain ⟨h0, h1, hb⟩ := bQ_ (p := 0) (show (bytesOf s).drop 0 = _ by rw [List.drop_zero]; exact hL)
  obtain ⟨e1, hb⟩ := aO_ ⟨ht.1, by omega⟩ hb
  obtain ⟨e2, hb⟩ := aO_ ⟨hq.1, by omega⟩ hb
  obtain ⟨e3, hb⟩ := bq_ (by omega) hb
  obtain ⟨e4, hb⟩ := bq_ (by omega) hb
  obtain ⟨e5, hb⟩ := aO_ hv hb
  have o1 := dl_ s 0 (by omega) (by omega) (by omega)
  rw [show bt s 0 = o from h1] at o1
  rw [show ((0 + 1 : Nat) : Int) = 0 + 1 from rfl] at e1
  unfold impl_ReadCommand.f
  simp only [o1, Option.bind_some]
  refine Ev.bind (aj_ s (0 + 1) false (by omega)) ?_
  simp only [e1]
  refine Ev.bind (aj_ s _ false (by omega)) ?_
  simp only [e2]
  refine Ev.bind (ax_ s _ false (by omega)) ?_
  simp only [e3]
  refine Ev.bind (ax_ s _ false (by omega)) ?_
  simp only [e4]
  refine Ev.bind (aj_ s _ false (by omega)) ?_
  simp only [e5, bm_, Option.bind_some]
  have hpos : ((0 + 1 + (bytesOf (ah_ t)).length + (bytesOf (ah_ q)).length + (bytesOf (ab_ key)).length + (bytesOf (ab_ val)).length + (bytesOf (ah_ v)).length : Nat) : Int) = (s.size : Int) := by omega
  simp only [hpos, beq_self_eq_true, if_true]
  refine Ev.bind f2 ?_
  simp only [if_true]
  exact Ev.now _
theorem cF_ (o t q : Int) (key val : ByteArray) (v : Int) (hk : key.size ≤ 8) (hl : val.size ≤ 20) : (bv_ o t q key val v).size ≤ 1000 := by
  have h2 := aa_ t
  have h3 := aa_ q
  have h4 := ad_ key
  have h5 := ad_ val
  have h6 := aa_ v
  unfold bv_
  rw [ByteArray.size_append, ByteArray.size_append, ByteArray.size_append, ByteArray.size_append, ByteArray.size_append, strOfNums_size]
  simp only [List.length_singleton]
  omega
theorem cJ_ {b : List Int} {i : Int} (h : Int) (hb : b.length ≤ 1048576) (hi : Cur b i) (x : List S83) (y : List S81) (hx : x.length ≤ 1048576) (hy : y.length ≤ 1048576) : Tot (fun k => spec_l15AnyCommand.f k b i h x y) (fun r => Cur b r.2.2.2.2.2.2.1) := by
  unfold spec_l15AnyCommand.f
  refine Tot.bind (dW_ h hb hi x y hx hy) fun r hr => ?_
  refine Tot.bind (ao_ _ 16 hb hr) fun q hq => ?_
  by_cases h0 : q.1 = 0
  · simp only [if_pos h0]
    refine Tot.bind (ao_ _ 7 hb hq.2) fun u hu => ?_
    (try (refine Tot.step (fun k => rfl) ?_; simp only [spec_l15AnyCommand.j0])); exact Tot.ret _ hu.2
  · simp only [if_neg h0]
    by_cases h1 : q.1 = 1
    · simp only [if_pos h1]
      refine Tot.bind (cC_ q.2.2 _ hb hq.2 (by simp)) fun u hu => ?_
      (try (refine Tot.step (fun k => rfl) ?_; simp only [spec_l15AnyCommand.j0])); exact Tot.ret _ hu.2
    · simp only [if_neg h1]
      by_cases h2 : q.1 = 2
      · simp only [if_pos h2]
        refine Tot.bind (co_ q.2.2 _ hb hq.2 (by simp)) fun u hu => ?_
        (try (refine Tot.step (fun k => rfl) ?_; simp only [spec_l15AnyCommand.j0])); exact Tot.ret _ hu.2
      · simp only [if_neg h2]
        by_cases h3 : q.1 = 3
        · simp only [if_pos h3]
          refine Tot.bind (cC_ q.2.2 [0, 20, 21] hb hq.2 (by simp)) fun u hu => ?_
          have hu1 : 0 ≤ u.1 ∧ u.1 ≤ 21 := by have := hu.1; simp at this; omega
          refine Tot.bind (ec_ u.1 66 hu1.1 (by omega)) fun v hv => ?_
          (try (refine Tot.step (fun k => rfl) ?_; simp only [spec_l15AnyCommand.j0])); exact Tot.ret _ hu.2
        · simp only [if_neg h3]
          by_cases h4 : q.1 = 4
          · simp only [if_pos h4]
            refine Tot.bind (cC_ q.2.2 _ hb hq.2 (by simp)) fun u hu => ?_
            (try (refine Tot.step (fun k => rfl) ?_; simp only [spec_l15AnyCommand.j0])); exact Tot.ret _ hu.2
          · simp only [if_neg h4]
            (try (refine Tot.step (fun k => rfl) ?_; simp only [spec_l15AnyCommand.j0])); exact Tot.ret _ hq.2

/-! ### FnKeepTexts -/
theorem Ev.det {α : Type} {g : Nat → Option α} {r q : α} (h : Ev g r) (h2 : Ev g q) : r = q := by
  obtain ⟨K, hK⟩ := Ev.both h h2
  obtain ⟨a, b⟩ := hK K (Nat.le_refl _)
  exact Option.some.inj (a.symm.trans b)
theorem dZ_ {b : List Int} (hb : b.length ≤ 1048576) : Tot (fun k => spec_DrawKeepText.f k b) (fun r => r.1.length ≤ 40 ∧ r.2.length ≤ 40) := by
  obtain ⟨h, hn⟩ := cq_ b
  unfold spec_DrawKeepText.f
  refine Tot.bind (P := fun r => r = (b, 0, h)) ⟨_, hn, rfl⟩ fun r hr => ?_
  subst hr
  refine Tot.bind (dt_ h hb (bg_ b)) fun u hu => ?_
  exact Tot.ret _ hu.1
theorem dr_ {α : Type} {f : α → ByteArray} (n : Nat) : ∀ l : List α, (∀ x ∈ l, (f x).size ≤ n) → (aq_ f l).size ≤ n * l.length := by
  intro l
  induction l with
  | nil => intro _; show 0 ≤ _; omega
  | cons x l ih =>
    intro h
    have h1 := h x (by simp)
    have h2 := ih (fun y hy => h y (by simp [hy]))
    simp only [aq_, List.length_cons]
    rw [ByteArray.size_append, Nat.mul_add]
    omega
theorem bo_ {a : List S83} {b : List S81} (h : ag_ a b = true) : (az_ a b).size ≤ 900000 := by
  obtain ⟨⟨hl1, hl2⟩, h1, h2⟩ := bX_ h
  have c1 := dr_ (f := bG_) 3000 a (fun x hx => by
    obtain ⟨_, _, h3⟩ := h1 x hx
    have s0 := aa_ x.f0
    have s1 := aa_ x.f1
    have s2 := ad_ x.f2
    unfold bG_
    rw [ByteArray.size_append, ByteArray.size_append]
    omega)
  have c2 := dr_ (f := bw_) 3000 b (fun x hx => by
    obtain ⟨h3, h4, _⟩ := h2 x hx
    have s0 := ad_ x.f0
    have s1 := ad_ x.f1
    have s2 := aa_ x.f2
    unfold bw_
    rw [ByteArray.size_append, ByteArray.size_append]
    omega)
  have s0 := aa_ (a.length : Int)
  have s1 := aa_ (b.length : Int)
  unfold az_
  rw [ByteArray.size_append, ByteArray.size_append, ByteArray.size_append]
  omega
theorem dN_ {b : List Int} (hb : b.length ≤ 1048576) : Tot (fun k => spec_DrawReadKeep.f k b) (fun r => r.size ≤ 1000000) := by
  obtain ⟨h, hn⟩ := cq_ b
  unfold spec_DrawReadKeep.f
  refine Tot.bind (P := fun r => r = (b, 0, h)) ⟨_, hn, rfl⟩ fun r hr => ?_
  subst hr
  refine Tot.bind (dt_ h hb (bg_ b)) fun u hu => ?_
  refine Tot.bind (P := fun r => r.1.size ≤ 900000) ⟨_, aJ_ u.1 u.2.1 (by omega) (by omega), ?_⟩ fun t ht => ?_
  · by_cases hk : ag_ u.1 u.2.1 = true
    · rw [if_pos hk]; exact bo_ hk
    · rw [if_neg hk]; show (⟨#[]⟩ : ByteArray).size ≤ _; decide
  refine Tot.bind (cL_ u.2.2.2 t.1 hb hu.2 (by omega)) fun q hq => ?_
  have := hq.1
  exact Tot.ret _ (by omega)
theorem dx_ {b : List Int} (hb : b.length ≤ 1048576) : Tot (fun k => spec_DrawCommandText.f k b) (fun _ => True) := by
  obtain ⟨h, hn⟩ := cq_ b
  unfold spec_DrawCommandText.f
  refine Tot.bind (P := fun r => r = (b, 0, h)) ⟨_, hn, rfl⟩ fun r hr => ?_
  subst hr
  refine Tot.bind (dQ_ h 8 (by omega) hb (bg_ b)) fun u hu => ?_
  have h1 := hu.1.1
  have h2 := hu.1.2
  refine Tot.bind (cJ_ _ hb hu.2 u.1 u.2.1 (by omega) (by omega)) fun t ht => ?_
  exact Tot.ret _ trivial
theorem dS_ {b : List Int} (hb : b.length ≤ 1048576) : Tot (fun k => spec_DrawReadCommand.f k b) (fun r => r.size ≤ 1000000) := by
  obtain ⟨h, hn⟩ := cq_ b
  unfold spec_DrawReadCommand.f
  refine Tot.bind (P := fun r => r = (b, 0, h)) ⟨_, hn, rfl⟩ fun r hr => ?_
  subst hr
  refine Tot.bind (dQ_ h 8 (by omega) hb (bg_ b)) fun u hu => ?_
  have h1 := hu.1.1
  have h2 := hu.1.2
  refine Tot.bind (cJ_ _ hb hu.2 u.1 u.2.1 (by omega) (by omega)) fun t ht => ?_
  obtain ⟨c, f1, f2, f3⟩ := bh_ t.1 t.2.1 t.2.2.1 t.2.2.2.1 t.2.2.2.2.1 t.2.2.2.2.2.1
  refine Tot.bind (P := fun r => r.1.size ≤ 1000) ⟨_, aL_ _ _ _ _ _ _ f1 f3, ?_⟩ fun q hq => ?_
  · cases c with
    | true => obtain ⟨_, _, _, _, k1, k2⟩ := f3 rfl; simp only [if_true]; exact cF_ _ _ _ _ _ _ k1 k2
    | false => simp only [Bool.false_eq_true, if_false]; show (⟨#[]⟩ : ByteArray).size ≤ _; decide
  refine Tot.bind (cL_ t.2.2.2.2.2.2.2 q.1 hb ht (by omega)) fun z hz => ?_
  have := hz.1
  exact Tot.ret _ (by omega)
theorem kt2 {c : Bool} (h : c = true) : Ev (fun k => laws_FnKeepTexts.j2 k c) true := by
  subst h
  exact Ev.here (f := fun _ => some true) (fun _ => by simp only [laws_FnKeepTexts.j2]) (fun _ => rfl)
theorem kt1 {b : List Int} (hb : b.length ≤ 1048576) : Ev (fun k => laws_FnKeepTexts.j1 k b false) true := by
  refine Ev.step (fun k => by simp only [laws_FnKeepTexts.j1, Bool.false_eq_true, if_false]; rfl) ?_
  obtain ⟨⟨o, t, q, key, val, v⟩, e1, -⟩ := dx_ hb
  obtain ⟨c, f1, f2, f3⟩ := bh_ o t q key val v
  obtain ⟨s, e2, hs⟩ := dS_ hb
  obtain ⟨o', t', q', key', val', v', ok, g1, g2, g3⟩ := cO_ s (by omega)
  obtain ⟨c', f1', f2', f3'⟩ := bh_ o' t' q' key' val' v'
  obtain ⟨⟨o3, t3, q3, key3, val3, v3, ok3⟩, g4, g5⟩ : ∃ r, Ev (fun k => impl_ReadCommand.f k (if c = true then (bv_ o t q key val v, true) else ((⟨#[]⟩ : ByteArray), false)).1) r ∧ (c = true → r = (o, t, q, key, val, v, true)) := by
    cases c with
    | true => exact ⟨_, ba_ o t q key val v f2 (f3 rfl), fun _ => rfl⟩
    | false =>
      obtain ⟨o5, t5, q5, key5, val5, v5, ok5, _, g6, _⟩ := cO_ (⟨#[]⟩ : ByteArray) (by decide)
      exact ⟨_, g6, fun h => by cases h⟩
  refine Ev.bind e1 ?_
  refine Ev.bind (bd_ o t q key val v f2 f3) ?_
  refine Ev.bind g4 ?_
  refine Ev.bind e2 ?_
  refine Ev.bind g2 ?_
  refine Ev.bind g1 ?_
  refine Ev.bind (bd_ o' t' q' key' val' v' f2' f3') ?_
  refine Ev.bind f1 ?_
  have last : ok = true → ((if c' = true then (bv_ o' t' q' key' val' v', true) else ((⟨#[]⟩ : ByteArray), false)).1.toList == s.toList) = true := by
    intro hok
    have := Ev.det (aL_ o' t' q' key' val' v' f1' f3') (g3 hok)
    rw [this]; simp
  have hfin : Ev (fun k => if ok = true then laws_FnKeepTexts.j2 k ((if c' = true then (bv_ o' t' q' key' val' v', true) else ((⟨#[]⟩ : ByteArray), false)).1.toList == s.toList) else laws_FnKeepTexts.j2 k true) true := by
    cases ok with
    | true => simp only [if_true]; exact kt2 (last rfl)
    | false => simp only [Bool.false_eq_true, if_false]; exact kt2 rfl
  cases c with
  | true =>
    have h5 := g5 rfl
    simp only [Prod.mk.injEq] at h5
    obtain ⟨rfl, rfl, rfl, rfl, rfl, rfl, rfl⟩ := h5
    simp only [if_true, beq_self_eq_true, Bool.and_self]
    exact hfin
  | false =>
    simp only [Bool.false_eq_true, if_false, beq_self_eq_true, if_true]
    exact hfin
theorem kt0 {b : List Int} (hb : b.length ≤ 1048576) : Ev (fun k => laws_FnKeepTexts.j0 k b false) true := by
  refine Ev.step (fun k => by simp only [laws_FnKeepTexts.j0, Bool.false_eq_true, if_false]; rfl) ?_
  obtain ⟨s, e1, hs⟩ := dN_ hb
  obtain ⟨⟨a, c, ok⟩, g1, g2, l1, l2, g3⟩ := bE_ s (by omega)
  simp only at l1 l2 g3
  refine Ev.bind e1 ?_
  refine Ev.bind g2 ?_
  refine Ev.bind g1 ?_
  refine Ev.bind (aK_ a c (by omega) (by omega)) ?_
  simp only [bne_self_eq_false, Bool.false_eq_true, if_false]
  cases ok with
  | true =>
    obtain ⟨h1, h2⟩ := g3 rfl
    simp only [if_true, if_pos h1, h2, bne_self_eq_false]
    exact kt1 hb
  | false =>
    simp only [Bool.false_eq_true, if_false]
    exact kt1 hb
theorem FnKeepTexts : StFnKeepTexts.Pure := by
  intro b
  intros
  by_cases hbig : (b.length : Int) > 1048576
  · exact ⟨0, by unfold laws_FnKeepTexts.f; rw [dm_]; simp [hbig]⟩
  · have hbl : b.length ≤ 1048576 := by omega
    obtain ⟨⟨a, c⟩, he, h1, h2⟩ := dZ_ hbl
    simp only at h1 h2
    refine Ev.ex ?_ (r := true)
    unfold laws_FnKeepTexts.f
    rw [dm_]
    simp only [Option.bind_some, hbig, decide_false, Bool.false_eq_true, if_false]
    refine Ev.bind he ?_
    refine Ev.bind (aK_ a c (by omega) (by omega)) ?_
    by_cases hk : ag_ a c = true
    · simp only [if_pos hk]
      refine Ev.bind (bU_ a c hk (by have := bo_ hk; omega)) ?_
      refine Ev.bind (ar_ a c (by omega) (by omega)) ?_
      simp only [hk, bne_self_eq_false, Bool.false_eq_true, if_false, if_true]
      refine Ev.bind (dJ_ a c a c (by omega) (by omega) (by omega) (by omega)) ?_
      simp only [cQ_, Bool.not_true]
      exact kt0 hbl
    · have hk' : ag_ a c = false := by simpa using hk
      obtain ⟨r, _, g2, _⟩ := bE_ (⟨#[]⟩ : ByteArray) (by decide)
      simp only [if_neg hk]
      refine Ev.bind g2 ?_
      refine Ev.bind (ar_ a c (by omega) (by omega)) ?_
      simp only [hk', bne_self_eq_false, Bool.false_eq_true, if_false]
      exact kt0 hbl

end Go.Proofs.Ytgffdijodnpolaa.Pure
