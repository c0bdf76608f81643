/- The pure statement of the law 'FnEntries', proved: over numbers, lists and texts alone. No condition. -/
import Derived.Test.YthgjcijcmacpmaaStFnEntries
import Derived.Laws.BitsLemmas
namespace Go.Proofs.Ythgjcijcmacpmaa.Pure
open Go.RowKit Go.Proofs.Ythgjcijcmacpmaa.QFnEntries Go.Proofs.YthgjcijcmacpmaaW.PrintWords Go.Proofs.YthgjcijcmacpmaaW.PrintLast Go.Proofs.YthgjcijcmacpmaaW.PrintMore Go.Proofs.Ythgjcijcmacpmaa.StFnEntries Go.Proofs.Ythgjcijcmacpmaa.Opens
set_option linter.unusedVariables false
set_option linter.unusedSimpArgs false

/-! ### base -/
theorem w64 {x : Int} (h0 : -9223372036854775808 ≤ x) (h1 : x ≤ 9223372036854775807) : wrap64 x = x := by unfold wrap64; omega
theorem w64_range (x : Int) : -9223372036854775808 ≤ wrap64 x ∧ wrap64 x ≤ 9223372036854775807 := by unfold wrap64; omega
theorem ip {α : Type} {c : Prop} [Decidable c] {a b : α} (h : c) : (if c then a else b) = a := if_pos h
theorem ineg {α : Type} {c : Prop} [Decidable c] {a b : α} (h : ¬ c) : (if c then a else b) = b := if_neg h
theorem wf_range {n : Int} (h : (Lit.int .i64 n).wf = true) : -9223372036854775808 ≤ n ∧ n ≤ 9223372036854775807 := by
  simp only [Lit.wf, IntKind.min, IntKind.max, IntKind.signed, IntKind.bits, Bool.and_eq_true, decide_eq_true_eq, if_true] at h
  omega
theorem wf_u8 {n : Int} (h : (Lit.int .u8 n).wf = true) : 0 ≤ n ∧ n ≤ 255 := by
  simp [Lit.wf, IntKind.min, IntKind.max, IntKind.signed, IntKind.bits] at h
  omega
theorem and_low (x : Int) (i : Nat) (hi : i ≤ 62) : Go.bits .and .i64 x (2 ^ i - 1) = x % 2 ^ i := by
  have hpos : 0 < 2 ^ i := Nat.two_pow_pos i
  have hc : ((2 : Int) ^ i - 1) = ((2 ^ i - 1 : Nat) : Int) := by rw [Int.natCast_sub hpos]; simp
  have h62 : 2 ^ i ≤ 2 ^ 62 := Nat.pow_le_pow_right (by decide) hi
  have hlt : 2 ^ i - 1 < 2 ^ 64 := by omega
  have hd : (2 ^ i : Nat) ∣ 2 ^ 64 := Nat.pow_dvd_pow 2 (by omega)
  rw [hc]
  simp only [Go.bits, BitVec.ofInt_natCast, BitVec.toNat_and, BitVec.toNat_ofNat, BitVec.toNat_ofInt]
  simp only [show IntKind.i64.bits = 64 from rfl]
  rw [Nat.mod_eq_of_lt hlt, Nat.and_two_pow_sub_one_eq_mod]
  have h1 : (((x % ((2 ^ 64 : Nat) : Int)).toNat % 2 ^ i : Nat) : Int) = x % 2 ^ i := by
    rw [Int.natCast_emod, Int.toNat_of_nonneg (Int.emod_nonneg _ (by decide))]
    rw [Int.natCast_pow]
    exact Int.emod_emod_of_dvd _ (by
      have : (((2 ^ i : Nat) : Int)) ∣ ((2 ^ 64 : Nat) : Int) := Int.natCast_dvd_natCast.2 hd
      simpa using this)
  rw [h1]
  have h2 : 0 ≤ x % 2 ^ i := Int.emod_nonneg _ (by
    have : (0 : Int) < 2 ^ i := by exact_mod_cast hpos
    omega)
  have h3 : x % 2 ^ i < 2 ^ i := Int.emod_lt_of_pos _ (by exact_mod_cast hpos)
  have h4 : (2 : Int) ^ i ≤ 2 ^ 62 := by exact_mod_cast h62
  rw [IntKind.wrap_i64]
  omega
theorem and255 (x : Int) : Go.bits .and .i64 x 255 = x % 256 := and_low x 8 (by omega)
theorem and65535 (x : Int) : Go.bits .and .i64 x 65535 = x % 65536 := and_low x 16 (by omega)
theorem and30 (x : Int) : Go.bits .and .i64 x 1073741823 = x % 1073741824 := and_low x 30 (by omega)
theorem and1 (x : Int) : Go.bits .and .i64 x 1 = x % 2 := and_low x 1 (by omega)
/-- A law's last step: both are one. -/
theorem same_end {v : Bool} : (if (v != v) = true then some false else some true : Option Bool) = some true := by simp
theorem Ev.ex {α : Type} {g : Nat → Option α} {r : α} (h : Ev g r) : ∃ k, g k = some r := h.rounds
theorem Ev.from_ {α : Type} {g : Nat → Option α} {r : α} (K : Nat) (h : ∀ k, K ≤ k → g k = some r) : Ev g r := ⟨K, h⟩
theorem Ev.both {α β : Type} {g : Nat → Option α} {f : Nat → Option β} {r : α} {q : β} (h : Ev g r) (h' : Ev f q) : ∃ K, ∀ k, K ≤ k → g k = some r ∧ f k = some q := by
  obtain ⟨K, h⟩ := h
  obtain ⟨K', h'⟩ := h'
  exact ⟨K + K', fun k hk => ⟨h k (by omega), h' k (by omega)⟩⟩

/-! ### in -/
def rng (a b c : Int) : Bool := decide (b ≤ a) && decide (a ≤ c)
theorem rng_iff {a b c : Int} : rng a b c = true ↔ b ≤ a ∧ a ≤ c := by simp [rng]
theorem rng_false {a b c : Int} : rng a b c = false ↔ ¬ (b ≤ a ∧ a ≤ c) := by rw [← rng_iff]; simp
theorem in_eq (a b c : Int) : spec_l01In.f a b c = some (rng a b c) := by
  unfold spec_l01In.f rng
  by_cases h : b ≤ a
  · rw [if_pos h]; simp [h]
  · rw [if_neg h]; simp [h]
theorem within_eq (a b c : Int) : impl_within.f a b c = some (rng a b c) := by
  unfold impl_within.f rng
  by_cases h : b ≤ a
  · rw [if_pos h]; simp [h]
  · rw [if_neg h]; simp [h]

/-! ### bl -/
theorem bl_inj {s t : ByteArray} (h : bytesOf s = bytesOf t) : s = t := by
  unfold bytesOf at h
  have h2 : s.data.toList = t.data.toList := by
    apply List.ext_getElem?
    intro i
    have h3 := congrArg (fun l => l[i]?) h
    simp only [List.getElem?_map] at h3
    cases h4 : s.data.toList[i]? <;> cases h5 : t.data.toList[i]? <;> rw [h4, h5] at h3 <;> simp at h3 ⊢
    exact UInt8.toNat_inj.1 (by omega)
  exact ByteArray.ext (by rw [← Array.toArray_toList (xs := s.data), h2])
theorem bl_app (s t : ByteArray) : bytesOf (s ++ t) = bytesOf s ++ bytesOf t := by
  unfold bytesOf
  rw [ByteArray.toList_data_append, List.map_append]
theorem bl_ext (s : ByteArray) (a b : Nat) : bytesOf (s.extract a b) = ((bytesOf s).drop a).take (b - a) := by
  unfold bytesOf
  rw [ByteArray.data_extract, Array.toList_extract, ← List.map_drop, ← List.map_take] <;> simp [List.extract_eq_drop_take]
theorem bl_range {s : ByteArray} : ∀ x ∈ bytesOf s, 0 ≤ x ∧ x ≤ 255 := by
  intro x hx
  obtain ⟨b, _, rfl⟩ := List.mem_map.1 hx
  have := b.toNat_lt
  omega
theorem bl_str {l : List Int} (h : ∀ x ∈ l, 0 ≤ x ∧ x ≤ 255) : bytesOf (strOfNums l) = l := by
  unfold bytesOf
  rw [strOfNums_data, List.map_map]
  have : ∀ x ∈ l, ((fun b : UInt8 => (b.toNat : Int)) ∘ fun n : Int => UInt8.ofNat n.toNat) x = x := by
    intro x hx
    have := h x hx
    simp only [Function.comp, UInt8.toNat_ofNat']
    omega
  rw [List.map_congr_left this, List.map_id']
theorem str_bl (s : ByteArray) : strOfNums (bytesOf s) = s := bl_inj (bl_str bl_range)
theorem bl_empty : bytesOf (⟨#[]⟩ : ByteArray) = [] := rfl
theorem bt_bl (s : ByteArray) (i : Int) : bt s i = rd (bytesOf s) i := (rd_bytesOf s i).symm
theorem toList_iff {s t : ByteArray} : s.toList = t.toList ↔ s = t := by
  rw [ByteArray.toList_eq, ByteArray.toList_eq]
  constructor
  · intro h; exact ByteArray.ext (by rw [← Array.toArray_toList (xs := s.data), h])
  · intro h; rw [h]
theorem toList_nil {s : ByteArray} : s.toList = ([] : List UInt8) ↔ bytesOf s = [] := by
  rw [ByteArray.toList_eq]
  unfold bytesOf
  simp

/-! ### var -/
def varL : Nat → Int → List Int
  | 0, x => [x % 256]
  | d + 1, x => if x > 127 then (x % 128 + 128) % 256 :: varL d (x / 128) else [x % 256]
theorem varL_length : ∀ d x, (varL d x).length ≤ d + 1 := by
  intro d
  induction d with
  | zero => intro x; simp [varL]
  | succ d ih =>
    intro x
    unfold varL
    split
    · have := ih (x / 128); simp only [List.length_cons]; omega
    · simp
def varT (x : Int) : ByteArray := strOfNums (varL 8 x)
theorem varT_size (x : Int) : (varT x).size ≤ 9 := by
  unfold varT
  rw [strOfNums_size]
  exact varL_length 8 x
theorem spec_var_loop : ∀ (d : Nat) (x : Int) (acc : List Int), 0 ≤ x → x < 128 ^ (d + 1) → x ≤ 9223372036854775807 → acc.length + d ≤ 1000 → ∀ k, d < k → spec_l01Var.l0 k x acc = some (strOfNums (acc ++ varL d x)) := by
  intro d
  induction d with
  | zero =>
    intro x acc h0 h1 h2 h3 k hk
    obtain ⟨k, rfl⟩ : ∃ m, k = m + 1 := ⟨k - 1, by omega⟩
    simp only [spec_l01Var.l0, varL]
    rw [if_neg (by omega), if_pos (by omega)]
  | succ d ih =>
    intro x acc h0 h1 h2 h3 k hk
    obtain ⟨k, rfl⟩ : ∃ m, k = m + 1 := ⟨k - 1, by omega⟩
    simp only [spec_l01Var.l0, varL]
    by_cases hx : x > 127
    · have hp : (128 : Int) ^ (d + 1 + 1) = 128 ^ (d + 1) * 128 := Int.pow_succ 128 (d + 1)
      rw [if_pos hx, if_pos (by omega), if_pos hx, Int.tdiv_eq_ediv_of_nonneg h0, Int.tmod_eq_emod_of_nonneg h0, w64 (x := x / 128) (by omega) (by omega), w64 (x := x % 128 + 128) (by omega) (by omega)]
      rw [ih (x / 128) (acc ++ [(x % 128 + 128) % 256]) (by omega) (by omega) (by omega) (by rw [List.length_append, List.length_singleton]; omega) k (by omega), List.append_assoc]
      rfl
    · rw [if_neg hx, if_pos (by omega), if_neg hx]
theorem spec_var (x : Int) (h0 : 0 ≤ x) (h1 : x ≤ 1000000000) : Ev (fun k => spec_l01Var.f k x) (varT x) := ⟨9, fun k hk => by
  exact spec_var_loop 8 x [] h0 (by omega) (by omega) (by simp) k (by omega)⟩
theorem impl_var_loop : ∀ (d : Nat) (x : Int) (acc : List Int), 0 ≤ x → x < 128 ^ (d + 1) → x ≤ 9223372036854775807 → acc.length + d ≤ 1000 → ∀ k, d < k → impl_VarText.l0 k x acc = some (strOfNums (acc ++ varL d x), true) := by
  intro d
  induction d with
  | zero =>
    intro x acc h0 h1 h2 h3 k hk
    obtain ⟨k, rfl⟩ : ∃ m, k = m + 1 := ⟨k - 1, by omega⟩
    simp only [impl_VarText.l0, varL]
    rw [if_neg (by omega), if_pos (by omega)]
  | succ d ih =>
    intro x acc h0 h1 h2 h3 k hk
    obtain ⟨k, rfl⟩ : ∃ m, k = m + 1 := ⟨k - 1, by omega⟩
    simp only [impl_VarText.l0, varL]
    by_cases hx : x > 127
    · have hp : (128 : Int) ^ (d + 1 + 1) = 128 ^ (d + 1) * 128 := Int.pow_succ 128 (d + 1)
      rw [if_pos hx, if_pos (by omega), if_pos hx, Int.tdiv_eq_ediv_of_nonneg h0, Int.tmod_eq_emod_of_nonneg h0, w64 (x := x / 128) (by omega) (by omega), w64 (x := x % 128 + 128) (by omega) (by omega)]
      rw [ih (x / 128) (acc ++ [(x % 128 + 128) % 256]) (by omega) (by omega) (by omega) (by rw [List.length_append, List.length_singleton]; omega) k (by omega), List.append_assoc]
      rfl
    · rw [if_neg hx, if_pos (by omega), if_neg hx]
theorem impl_var (x : Int) (h0 : 0 ≤ x) (h1 : x ≤ 1000000000) : Ev (fun k => impl_VarText.f k x) (varT x, true) := ⟨9, fun k hk => by
  unfold impl_VarText.f
  have hr : rng x 0 1000000000 = true := rng_iff.2 ⟨h0, h1⟩
  simp only [within_eq, hr, Option.bind_some, if_true]
  exact impl_var_loop 8 x [] h0 (by omega) (by omega) (by simp) k (by omega)⟩
def shortT (s : ByteArray) : ByteArray := varT (s.size : Int) ++ s
theorem shortT_size (s : ByteArray) : (shortT s).size ≤ s.size + 9 := by
  have := varT_size (s.size : Int)
  unfold shortT
  rw [ByteArray.size_append]
  omega
theorem spec_short (s : ByteArray) (hs : s.size ≤ 1000000000) : Ev (fun k => spec_l16Short.f k s) (shortT s) := by
  unfold spec_l16Short.f
  refine Ev.bind (spec_var (s.size : Int) (by omega) (by omega)) ?_
  have := varT_size (s.size : Int)
  simp only [if_pos (show (varT (s.size : Int)).size + s.size ≤ 9223372036854775807 by omega)]
  exact Ev.now _
def catB {α : Type} (f : α → ByteArray) : List α → ByteArray
  | [] => (⟨#[]⟩ : ByteArray)
  | x :: l => f x ++ catB f l
theorem app_empty (s : ByteArray) : s ++ (⟨#[]⟩ : ByteArray) = s := bl_inj (by rw [bl_app, bl_empty, List.append_nil])
theorem empty_app (s : ByteArray) : (⟨#[]⟩ : ByteArray) ++ s = s := bl_inj (by rw [bl_app, bl_empty, List.nil_append])
theorem varTexts_loop (l : List Int) (hl : l.length ≤ 1000000) (hr : ∀ x ∈ l, 0 ≤ x ∧ x ≤ 1000000000) : ∀ (d j : Nat) (acc : ByteArray), l.length - j = d → j ≤ l.length → acc.size ≤ 100 * j → Ev (fun k => impl_varTexts.l0 k acc l (l.length : Int) (j : Int)) (acc ++ catB varT (l.drop j)) := by
  intro d
  induction d with
  | zero =>
    intro j acc hd hj ha
    rw [List.drop_of_length_le (by omega)]
    simp only [catB, app_empty]
    exact Ev.step (f := fun _ => some acc) (fun k => by simp only [impl_varTexts.l0]; rw [if_neg (by omega)]) (Ev.now _)
  | succ d ih =>
    intro j acc hd hj ha
    have hjl : j < l.length := by omega
    have hget : rd l (j : Int) = l[j] := by unfold rd; rw [List.getD_eq_getElem?_getD, Int.toNat_natCast, List.getElem?_eq_getElem hjl]; rfl
    have hx := hr l[j] (List.getElem_mem _)
    refine Ev.step (f := fun k => (impl_VarText.f k l[j]).bind fun bt => if acc.size + bt.1.size ≤ 9223372036854775807 then impl_varTexts.l0 k (acc ++ bt.1) l (l.length : Int) ((j + 1 : Nat) : Int) else none) (fun k => ?_) ?_
    · simp only [impl_varTexts.l0]
      rw [if_pos (by omega), if_pos (by omega), if_pos (by omega), hget, w64 (x := (j : Int) + 1) (by omega) (by omega)]
      rfl
    · refine Ev.bind (impl_var _ hx.1 hx.2) ?_
      have h9 := varT_size l[j]
      simp only [if_pos (show acc.size + (varT l[j]).size ≤ 9223372036854775807 by omega)]
      have := ih (j + 1) (acc ++ varT l[j]) (by omega) (by omega) (by rw [ByteArray.size_append]; omega)
      rw [List.drop_eq_getElem_cons hjl, catB, ← ByteArray.append_assoc]
      exact this
theorem varTexts_ok (l : List Int) (hl : l.length ≤ 1000000) (hr : ∀ x ∈ l, 0 ≤ x ∧ x ≤ 1000000000) : Ev (fun k => impl_varTexts.f k l) (catB varT l) := by
  have := varTexts_loop l hl hr l.length 0 (⟨#[]⟩ : ByteArray) (by omega) (by omega) (by show 0 ≤ _; omega)
  rw [empty_app] at this
  exact this

/-! ### all -/
def allF (p : Nat → Bool) (j : Nat) : Nat → Bool
  | 0 => true
  | d + 1 => p j && allF p (j + 1) d
/-- A loop that asks the same of each place, one after the other, and then something more. -/
theorem all_ev {F : Nat → Nat → Option Bool} {n : Nat} {p : Nat → Bool} {R : Bool}
    (hs : ∀ j, j < n → (p j = true → ∀ r, Ev (fun k => F k (j + 1)) r → Ev (fun k => F k j) r) ∧ (p j = false → Ev (fun k => F k j) false))
    (he : Ev (fun k => F k n) R) : ∀ d j, n - j = d → j ≤ n → Ev (fun k => F k j) (allF p j d && R) := by
  intro d
  induction d with
  | zero =>
    intro j hd hj
    obtain rfl : j = n := by omega
    simpa [allF] using he
  | succ d ih =>
    intro j hd hj
    have h := hs j (by omega)
    cases hp : p j with
    | true =>
      have := ih (j + 1) (by omega) (by omega)
      simp only [allF, hp, Bool.true_and]
      exact h.1 hp _ this
    | false =>
      simp only [allF, hp, Bool.false_and]
      exact h.2 hp
theorem Ev.here {α : Type} {F f : Nat → Option α} {r : α} (hs : ∀ k, F (k + 1) = f k) (h : ∀ k, f k = some r) : Ev F r := Ev.step hs ⟨0, fun k _ => h k⟩

/-! ### readvar -/
def valW : List Int → Int
  | [] => 0
  | x :: l => x % 128 + 128 * valW l
theorem valW_nn : ∀ l, 0 ≤ valW l := by
  intro l
  induction l with
  | nil => simp [valW]
  | cons x l ih => simp only [valW]; omega
theorem valW_lt : ∀ l : List Int, valW l < 128 ^ l.length := by
  intro l
  induction l with
  | nil => simp [valW]
  | cons x l ih =>
    simp only [valW, List.length_cons]
    have : (128 : Int) ^ (l.length + 1) = 128 ^ l.length * 128 := Int.pow_succ 128 l.length
    omega
theorem valW_app (l : List Int) (c : Int) : valW (l ++ [c]) = valW l + (c % 128) * 128 ^ l.length := by
  induction l with
  | nil => simp [valW]
  | cons x l ih =>
    simp only [List.cons_append, valW, ih, List.length_cons]
    have h1 : (128 : Int) ^ (l.length + 1) = 128 ^ l.length * 128 := Int.pow_succ 128 l.length
    have h2 : 128 * (c % 128 * 128 ^ l.length) = c % 128 * (128 ^ l.length * 128) := by rw [Int.mul_comm 128, Int.mul_assoc]
    rw [h1, Int.mul_add, h2]
    omega
theorem valW_pos (l : List Int) (c : Int) (h0 : 0 ≤ c) (h1 : c ≤ 127) (hc : c ≠ 0) : 1 ≤ valW (l ++ [c]) := by
  induction l with
  | nil => simp only [List.nil_append, valW]; omega
  | cons x l ih => simp only [List.cons_append, valW]; omega
theorem varL_range : ∀ d x, ∀ y ∈ varL d x, 0 ≤ y ∧ y ≤ 255 := by
  intro d
  induction d with
  | zero => intro x y hy; simp only [varL, List.mem_singleton] at hy; omega
  | succ d ih =>
    intro x y hy
    unfold varL at hy
    split at hy
    · rcases List.mem_cons.1 hy with h | h
      · omega
      · exact ih _ y h
    · simp only [List.mem_singleton] at hy; omega
theorem varL_of : ∀ (pre : List Int) (c : Int) (d : Nat), (∀ x ∈ pre, 128 ≤ x ∧ x ≤ 255) → 0 ≤ c → c ≤ 127 → pre.length ≤ d → (pre = [] ∨ c ≠ 0) → varL d (valW (pre ++ [c])) = pre ++ [c] := by
  intro pre
  induction pre with
  | nil =>
    intro c d _ h0 h1 _ _
    have e : valW ([] ++ [c]) = c := by simp only [List.nil_append, valW]; omega
    rw [e]
    cases d with
    | zero => simp only [varL, List.nil_append]; congr 1; omega
    | succ d => simp only [varL, List.nil_append]; rw [if_neg (by omega)]; congr 1; omega
  | cons x l ih =>
    intro c d hp h0 h1 hl hc
    have hc : c ≠ 0 := by
      rcases hc with h | h
      · cases h
      · exact h
    obtain ⟨d, rfl⟩ : ∃ m, d = m + 1 := ⟨d - 1, by simp at hl; omega⟩
    have hx := hp x List.mem_cons_self
    have hw := valW_pos l c h0 h1 hc
    simp only [List.cons_append, valW, varL]
    rw [if_pos (by omega), show (x % 128 + 128 * valW (l ++ [c])) / 128 = valW (l ++ [c]) by omega, ih c d (fun y hy => hp y (List.mem_cons_of_mem _ hy)) h0 h1 (by simp at hl; omega) (.inr hc)]
    congr 1
    omega
theorem varL_not : ∀ (pre : List Int) (d : Nat), (∀ x ∈ pre, 128 ≤ x ∧ x ≤ 255) → pre ≠ [] → varL d (valW (pre ++ [0])) ≠ pre ++ [0] := by
  intro pre
  induction pre with
  | nil => intro d _ h; exact absurd rfl h
  | cons x l ih =>
    intro d hp _ he
    have hx := hp x List.mem_cons_self
    have hlen := congrArg List.length he
    cases d with
    | zero => simp [varL] at hlen
    | succ d =>
      simp only [List.cons_append, valW, varL] at he hlen
      by_cases hv : x % 128 + 128 * valW (l ++ [0]) > 127
      · rw [if_pos hv, show (x % 128 + 128 * valW (l ++ [0])) / 128 = valW (l ++ [0]) by omega] at he
        have ht := (List.cons.inj he).2
        cases l with
        | nil => simp [valW] at hv; omega
        | cons y l => exact ih d (fun z hz => hp z (List.mem_cons_of_mem _ hz)) (by simp) ht
      · rw [if_neg hv] at hlen
        simp at hlen
def preB (s : ByteArray) (a : Int) (i : Nat) : List Int := ((bytesOf s).drop a.toNat).take i
theorem preB_len (s : ByteArray) (a : Int) (i : Nat) (h0 : 0 ≤ a) (h : a + (i : Int) ≤ (s.size : Int)) : (preB s a i).length = i := by
  unfold preB
  rw [List.length_take, List.length_drop, bytesOf_length]
  omega
theorem preB_succ (s : ByteArray) (a : Int) (i : Nat) (h0 : 0 ≤ a) (h : a + (i : Int) < (s.size : Int)) : preB s a (i + 1) = preB s a i ++ [bt s (a + (i : Int))] := by
  unfold preB
  have hl : i < ((bytesOf s).drop a.toNat).length := by rw [List.length_drop, bytesOf_length]; omega
  have e : bt s (a + (i : Int)) = ((bytesOf s).drop a.toNat)[i] := by
    have hb : a.toNat + i < (bytesOf s).length := by rw [bytesOf_length]; omega
    rw [List.getElem_drop, bt_bl]
    unfold rd
    rw [show (a + (i : Int)).toNat = a.toNat + i by omega]
    simp [List.getD_eq_getElem?_getD, List.getElem?_eq_getElem hb]
  rw [e, List.take_append_getElem hl]
theorem ext_preB (s : ByteArray) (a : Int) (i : Nat) (h0 : 0 ≤ a) : bytesOf (s.extract a.toNat (a + (i : Int)).toNat) = preB s a i := by
  rw [bl_ext]
  unfold preB
  rw [show (a + (i : Int)).toNat - a.toNat = i by omega]
def rv (s : ByteArray) (a : Int) : Nat → Nat → Int → Int × Int × Bool
  | 0, _, _ => (0, 0, false)
  | d + 1, i, n =>
    if a + (i : Int) < (s.size : Int) then
      (if bt s (a + (i : Int)) > 127 then rv s a d (i + 1) (n + bt s (a + (i : Int)) % 128 * 128 ^ i)
       else if (0 < i ∧ bt s (a + (i : Int)) = 0) ∨ n + bt s (a + (i : Int)) % 128 * 128 ^ i > 1000000000 then (0, 0, false)
       else (n + bt s (a + (i : Int)) % 128 * 128 ^ i, a + (i : Int) + 1, true))
    else (0, 0, false)
def readV (s : ByteArray) (a : Int) : Int × Int × Bool := if rng a 0 (s.size : Int) = true then rv s a 5 0 0 else (0, 0, false)
theorem pow_bounds (i : Nat) (h : i ≤ 4) : 1 ≤ (128 : Int) ^ i ∧ (128 : Int) ^ i ≤ 268435456 := by
  rcases (by omega : i = 0 ∨ i = 1 ∨ i = 2 ∨ i = 3 ∨ i = 4) with rfl | rfl | rfl | rfl | rfl <;> decide
theorem dig_bounds (c : Int) (i : Nat) (h : i ≤ 4) : 0 ≤ c % 128 * 128 ^ i ∧ c % 128 * 128 ^ i ≤ 127 * 128 ^ i := by
  have hp := pow_bounds i h
  exact ⟨Int.mul_nonneg (by omega) (by omega), Int.mul_le_mul_of_nonneg_right (by omega) (by omega)⟩
theorem shl7 (x : Int) (i : Nat) (hi : i ≤ 4) (h0 : 0 ≤ x) (h1 : x ≤ 127) : shl .i64 x (7 * (i : Int)) = x * 128 ^ i := by
  unfold shl
  rcases (by omega : i = 0 ∨ i = 1 ∨ i = 2 ∨ i = 3 ∨ i = 4) with rfl | rfl | rfl | rfl | rfl
  · rw [show x * 2 ^ min ((7 * ((0 : Nat) : Int)).toNat) IntKind.i64.bits = x * 1 from rfl, show (128 : Int) ^ 0 = 1 from rfl, IntKind.wrap_i64]; omega
  · rw [show x * 2 ^ min ((7 * ((1 : Nat) : Int)).toNat) IntKind.i64.bits = x * 128 from rfl, show (128 : Int) ^ 1 = 128 from rfl, IntKind.wrap_i64]; omega
  · rw [show x * 2 ^ min ((7 * ((2 : Nat) : Int)).toNat) IntKind.i64.bits = x * 16384 from rfl, show (128 : Int) ^ 2 = 16384 from rfl, IntKind.wrap_i64]; omega
  · rw [show x * 2 ^ min ((7 * ((3 : Nat) : Int)).toNat) IntKind.i64.bits = x * 2097152 from rfl, show (128 : Int) ^ 3 = 2097152 from rfl, IntKind.wrap_i64]; omega
  · rw [show x * 2 ^ min ((7 * ((4 : Nat) : Int)).toNat) IntKind.i64.bits = x * 268435456 from rfl, show (128 : Int) ^ 4 = 268435456 from rfl, IntKind.wrap_i64]; omega
theorem impl_rv (s : ByteArray) (a : Int) (h0 : 0 ≤ a) (h1 : a ≤ (s.size : Int)) (hs : s.size ≤ 9000000000000000000) : ∀ (d i : Nat) (n : Int), i + d = 5 → 0 ≤ n → n < 128 ^ i → Ev (fun k => impl_ReadVar.l0 k s a n (i : Int)) (rv s a d i n) := by
  intro d
  induction d with
  | zero =>
    intro i n hd hn0 hn1
    refine Ev.step (fun k => by simp only [impl_ReadVar.l0]; rw [if_neg (by omega)]) ?_
    exact Ev.here (f := fun _ => some (0, 0, false)) (fun k => by simp only [impl_ReadVar.j1, Bool.false_eq_true, if_false]) (fun _ => rfl)
  | succ d ih =>
    intro i n hd hn0 hn1
    have hb := bt_range s (a + (i : Int))
    have ea : wrap64 (a + (i : Int) + 1) = a + (i : Int) + 1 := w64 (by omega) (by omega)
    have ew : wrap64 (a + (i : Int)) = a + (i : Int) := w64 (by omega) (by omega)
    have ei : wrap64 ((i : Int) + 1) = ((i + 1 : Nat) : Int) := by rw [w64 (by omega) (by omega)]; omega
    have e7 : wrap64 (7 * (i : Int)) = 7 * (i : Int) := w64 (by omega) (by omega)
    have h07 : 0 ≤ 7 * (i : Int) := by omega
    have h0i : 0 ≤ a + (i : Int) := by omega
    have hi5 : (i : Int) < 5 := by omega
    have ec : wrap64 (bt s (a + (i : Int))) = bt s (a + (i : Int)) := w64 (by omega) (by omega)
    have em : Int.tmod (bt s (a + (i : Int))) 128 = bt s (a + (i : Int)) % 128 := Int.tmod_eq_emod_of_nonneg hb.1
    have es : shl .i64 (bt s (a + (i : Int)) % 128) (7 * (i : Int)) = bt s (a + (i : Int)) % 128 * 128 ^ i := shl7 _ i (by omega) (by omega) (by omega)
    obtain ⟨q, hq0, hqn⟩ : ∃ q, bt s (a + (i : Int)) % 128 * 128 ^ i = q ∧ (0 ≤ n + q ∧ n + q < 128 ^ (i + 1) ∧ n + q ≤ 9000000000000000000) := by
      have hp := pow_bounds i (by omega)
      have hps : (128 : Int) ^ (i + 1) = 128 ^ i * 128 := Int.pow_succ 128 i
      have hq := dig_bounds (bt s (a + (i : Int))) i (by omega)
      exact ⟨_, rfl, by omega, by omega, by omega⟩
    have en : wrap64 (n + q) = n + q := w64 (by omega) (by omega)
    have ih := ih (i + 1) (n + q) (by omega) hqn.1 hqn.2.1
    refine Ev.step (fun k => by simp only [impl_ReadVar.l0]; rw [if_pos hi5, ew]) ?_
    unfold rv
    rw [hq0] at es ⊢
    by_cases hin : a + (i : Int) < (s.size : Int)
    · rw [if_pos hin, show decide (a + (i : Int) < (s.size : Int)) = true from decide_eq_true hin]
      refine Ev.step (fun k => by simp only [impl_ReadVar.j1, if_true, ew]; rw [if_pos h0i, if_pos hin, e7, if_pos h07, ec, em, es, en, ei, ea]) ?_
      by_cases hc : bt s (a + (i : Int)) > 127
      · rw [if_pos hc]
        simp only [if_pos hc]
        exact ih
      · rw [if_neg hc]
        simp only [if_neg hc]
        by_cases hi : (i : Int) > 0
        · have hi' : 0 < i := Int.natCast_pos.1 hi
          by_cases hz : bt s (a + (i : Int)) = 0
          · have hz' : (0 < i ∧ bt s (a + (i : Int)) = 0) ∨ n + q > 1000000000 := .inl ⟨hi', hz⟩
            rw [if_pos hz']
            simp only [if_pos hi, if_pos hz]
            exact Ev.now _
          · by_cases hm : n + q > 1000000000
            · have hz' : (0 < i ∧ bt s (a + (i : Int)) = 0) ∨ n + q > 1000000000 := .inr hm
              rw [if_pos hz']
              simp only [if_pos hi, if_neg hz, if_pos hm]
              exact Ev.now _
            · have hz' : ¬ ((0 < i ∧ bt s (a + (i : Int)) = 0) ∨ n + q > 1000000000) := fun h => h.elim (fun h => hz h.2) hm
              rw [if_neg hz']
              simp only [if_pos hi, if_neg hz, if_neg hm]
              exact Ev.now _
        · have hi' : ¬ 0 < i := fun h => hi (Int.natCast_pos.2 h)
          by_cases hm : n + q > 1000000000
          · have hz' : (0 < i ∧ bt s (a + (i : Int)) = 0) ∨ n + q > 1000000000 := .inr hm
            rw [if_pos hz']
            simp only [if_neg hi, if_pos hm]
            exact Ev.now _
          · have hz' : ¬ ((0 < i ∧ bt s (a + (i : Int)) = 0) ∨ n + q > 1000000000) := fun h => h.elim (fun h => hi' h.1) hm
            rw [if_neg hz']
            simp only [if_neg hi, if_neg hm]
            exact Ev.now _
    · rw [if_neg hin, show decide (a + (i : Int) < (s.size : Int)) = false from decide_eq_false hin]
      exact Ev.here (f := fun _ => some (0, 0, false)) (fun k => by simp only [impl_ReadVar.j1, Bool.false_eq_true, if_false]) (fun _ => rfl)
theorem impl_readvar (s : ByteArray) (a : Int) (hs : s.size ≤ 9000000000000000000) : Ev (fun k => impl_ReadVar.f k s a) (readV s a) := by
  unfold impl_ReadVar.f readV
  simp only [within_eq, Option.bind_some]
  cases hr : rng a 0 (s.size : Int) with
  | false => simp only [Bool.false_eq_true, if_false]; exact Ev.now _
  | true =>
    have h := rng_iff.1 hr
    simp only [if_true]
    exact impl_rv s a h.1 h.2 hs 5 0 0 (by omega) (by omega) (by decide)
theorem var_is (s : ByteArray) (a : Int) (i : Nat) (h0 : 0 ≤ a) (hin : a + (i : Int) < (s.size : Int)) (hi : i ≤ 8) (hp : ∀ x ∈ preB s a i, 128 ≤ x ∧ x ≤ 255) (hc : bt s (a + (i : Int)) ≤ 127) :
    (varT (valW (preB s a (i + 1))) = s.extract a.toNat (a + (i : Int) + 1).toNat) ↔ ¬ (0 < i ∧ bt s (a + (i : Int)) = 0) := by
  have hb := bt_range s (a + (i : Int))
  have e1 : bytesOf (varT (valW (preB s a (i + 1)))) = varL 8 (valW (preB s a (i + 1))) := bl_str (varL_range 8 _)
  have e2 : bytesOf (s.extract a.toNat (a + (i : Int) + 1).toNat) = preB s a (i + 1) := by
    have := ext_preB s a (i + 1) h0
    rw [show a + ((i + 1 : Nat) : Int) = a + (i : Int) + 1 by omega] at this
    exact this
  have hs := preB_succ s a i h0 hin
  have hl := preB_len s a i h0 (by omega)
  constructor
  · intro h ⟨hi0, hz⟩
    have h2 := congrArg bytesOf h
    rw [e1, e2, hs, hz] at h2
    exact varL_not (preB s a i) 8 hp (by intro he; rw [he] at hl; simp at hl; omega) h2
  · intro h
    apply bl_inj
    rw [e1, e2, hs]
    refine varL_of (preB s a i) _ 8 hp hb.1 hc (by omega) ?_
    by_cases hi0 : 0 < i
    · exact .inr (fun hz => h ⟨hi0, hz⟩)
    · exact .inl (List.length_eq_zero_iff.1 (by omega))
theorem rv_ok (s : ByteArray) (a : Int) (h0 : 0 ≤ a) : ∀ (d i : Nat), i + d = 5 → a + (i : Int) ≤ (s.size : Int) → (∀ x ∈ preB s a i, 128 ≤ x ∧ x ≤ 255) → ∀ v nx, rv s a d i (valW (preB s a i)) = (v, nx, true) →
    (0 ≤ v ∧ v ≤ 1000000000) ∧ (a < nx ∧ nx ≤ (s.size : Int)) ∧ s.extract a.toNat nx.toNat = varT v := by
  intro d
  induction d with
  | zero => intro i _ _ _ v nx h; simp [rv] at h
  | succ d ih =>
    intro i hd hin hp v nx h
    unfold rv at h
    have hb := bt_range s (a + (i : Int))
    by_cases hlt : a + (i : Int) < (s.size : Int)
    · have hsucc := preB_succ s a i h0 hlt
      have hval : valW (preB s a (i + 1)) = valW (preB s a i) + bt s (a + (i : Int)) % 128 * 128 ^ i := by rw [hsucc, valW_app, preB_len s a i h0 hin]
      rw [if_pos hlt, ← hval] at h
      by_cases hc : bt s (a + (i : Int)) > 127
      · rw [if_pos hc] at h
        exact ih (i + 1) (by omega) (by omega) (by
          rw [hsucc]
          intro x hx
          rcases List.mem_append.1 hx with hx | hx
          · exact hp x hx
          · simp only [List.mem_singleton] at hx; omega) v nx h
      · rw [if_neg hc] at h
        by_cases hz : (0 < i ∧ bt s (a + (i : Int)) = 0) ∨ valW (preB s a (i + 1)) > 1000000000
        · rw [if_pos hz] at h
          simp at h
        · rw [if_neg hz] at h
          simp only [Prod.mk.injEq, and_true] at h
          obtain ⟨rfl, rfl⟩ := h
          have hn := valW_nn (preB s a (i + 1))
          have hiff := var_is s a i h0 hlt (by omega) hp (by omega)
          refine ⟨⟨hn, ?_⟩, ⟨by omega, by omega⟩, (hiff.2 (fun h => hz (.inl h))).symm⟩
          rcases Int.lt_or_le 1000000000 (valW (preB s a (i + 1))) with h | h
          · exact absurd (.inr h) hz
          · exact h
    · rw [if_neg hlt] at h
      simp at h
theorem readV_ok {s : ByteArray} {a v nx : Int} (h : readV s a = (v, nx, true)) : (0 ≤ a ∧ a < nx ∧ nx ≤ (s.size : Int)) ∧ (0 ≤ v ∧ v ≤ 1000000000) ∧ s.extract a.toNat nx.toNat = varT v := by
  unfold readV at h
  cases hr : rng a 0 (s.size : Int) with
  | false => rw [hr] at h; simp at h
  | true =>
    have hh := rng_iff.1 hr
    rw [hr, if_pos rfl] at h
    have e : preB s a 0 = [] := by unfold preB; simp
    have := rv_ok s a hh.1 5 0 (by omega) (by omega) (by rw [e]; simp) v nx (by rw [e]; exact h)
    exact ⟨⟨hh.1, this.2.1⟩, this.1, this.2.2⟩
/-- What a short text's reader comes to. -/
def readS (s : ByteArray) (a : Int) : ByteArray × Int × Bool :=
  if (readV s a).2.2 = true ∧ (readV s a).1 ≤ 20000 ∧ (readV s a).1 ≤ (s.size : Int) - (readV s a).2.1 then (s.extract (readV s a).2.1.toNat ((readV s a).2.1 + (readV s a).1).toNat, (readV s a).2.1 + (readV s a).1, true) else ((⟨#[]⟩ : ByteArray), 0, false)
theorem readS_ok {s : ByteArray} {a nx : Int} {t : ByteArray} (h : readS s a = (t, nx, true)) : (0 ≤ a ∧ a < nx ∧ nx ≤ (s.size : Int)) ∧ t.size ≤ 20000 ∧ s.extract a.toNat nx.toNat = shortT t := by
  unfold readS at h
  split at h
  · rename_i hc
    obtain ⟨hk, h2, h3⟩ := hc
    have hv := readV_ok (s := s) (a := a) (v := (readV s a).1) (nx := (readV s a).2.1) (by rw [← hk])
    obtain ⟨⟨h0, h4, h5⟩, ⟨h6, _⟩, h7⟩ := hv
    simp only [Prod.mk.injEq, and_true] at h
    obtain ⟨rfl, rfl⟩ := h
    have hsz : (s.extract (readV s a).2.1.toNat ((readV s a).2.1 + (readV s a).1).toNat).size = (readV s a).1.toNat := by rw [ByteArray.size_extract]; omega
    refine ⟨⟨h0, by omega, by omega⟩, by omega, ?_⟩
    unfold shortT
    rw [hsz, show (((readV s a).1.toNat : Nat) : Int) = (readV s a).1 by omega, ← h7]
    apply bl_inj
    rw [bl_app, bl_ext, bl_ext, bl_ext]
    have e1 : ((readV s a).2.1 + (readV s a).1).toNat - a.toNat = ((readV s a).2.1.toNat - a.toNat) + ((readV s a).2.1 + (readV s a).1 - (readV s a).2.1).toNat := by omega
    have e2 : ((readV s a).2.1 + (readV s a).1).toNat - (readV s a).2.1.toNat = ((readV s a).2.1 + (readV s a).1 - (readV s a).2.1).toNat := by omega
    have e3 : (bytesOf s).drop (readV s a).2.1.toNat = ((bytesOf s).drop a.toNat).drop ((readV s a).2.1.toNat - a.toNat) := by rw [List.drop_drop]; congr 1; omega
    rw [e1, e2, e3, List.take_add]
  · simp at h
theorem readS_eqs (s : ByteArray) (a : Int) (hs : s.size ≤ 9000000000000000000) : (if (readV s a).2.2 = true then (if (readV s a).1 > 20000 then (some ((⟨#[]⟩ : ByteArray), (0 : Int), false)) else (if (readV s a).1 > (wrap64 ((s.size : Int) - (readV s a).2.1)) then (some ((⟨#[]⟩ : ByteArray), 0, false)) else (if 0 ≤ (readV s a).2.1 then (if (readV s a).2.1 ≤ (wrap64 ((readV s a).2.1 + (readV s a).1)) then (if (wrap64 ((readV s a).2.1 + (readV s a).1)) ≤ (s.size : Int) then (some (s.extract ((readV s a).2.1 : Int).toNat ((wrap64 ((readV s a).2.1 + (readV s a).1)) : Int).toNat, wrap64 ((readV s a).2.1 + (readV s a).1), true)) else (none)) else (none)) else (none)))) else (some ((⟨#[]⟩ : ByteArray), 0, false))) = some (readS s a) := by
  unfold readS
  by_cases hk : (readV s a).2.2 = true
  · have hv := readV_ok (s := s) (a := a) (v := (readV s a).1) (nx := (readV s a).2.1) (by rw [← hk])
    obtain ⟨⟨h0, h4, h5⟩, ⟨h6, h8⟩, h7⟩ := hv
    rw [if_pos hk, w64 (x := (s.size : Int) - (readV s a).2.1) (by omega) (by omega)]
    by_cases h1 : (readV s a).1 > 20000
    · rw [if_pos h1, if_neg (by omega)]
    · rw [if_neg h1]
      by_cases h2 : (readV s a).1 > (s.size : Int) - (readV s a).2.1
      · rw [if_pos h2, if_neg (by omega)]
      · rw [if_neg h2, if_pos (by omega), w64 (x := (readV s a).2.1 + (readV s a).1) (by omega) (by omega), if_pos (by omega), if_pos (by omega), if_pos ⟨hk, by omega, by omega⟩]
  · rw [if_neg hk, if_neg (fun h => hk h.1)]
/-- A reader's step over a number: what it reads, where it stands then, and whether it is bad. -/
def numB (s : ByteArray) (a : Int) (b : Bool) : Int × ByteArray × Int × Bool := if b = true then (0, s, a, true) else if (readV s a).2.2 = true then ((readV s a).1, s, (readV s a).2.1, false) else (0, s, a, true)
def shoB (s : ByteArray) (a : Int) (b : Bool) : ByteArray × ByteArray × Int × Bool := if b = true then ((⟨#[]⟩ : ByteArray), s, a, true) else if (readS s a).2.2 = true then ((readS s a).1, s, (readS s a).2.1, false) else ((⟨#[]⟩ : ByteArray), s, a, true)
theorem impl_num (s : ByteArray) (a : Int) (b : Bool) (hs : s.size ≤ 9000000000000000000) : Ev (fun k => impl_scan_number.f k s a b) (numB s a b) := by
  unfold impl_scan_number.f numB
  refine Ev.bind (impl_readvar s a hs) ?_
  cases b
  · by_cases h : (readV s a).2.2 = true
    · simp only [Bool.false_eq_true, if_false, if_pos h]; exact Ev.now _
    · simp only [Bool.false_eq_true, if_false, if_neg h]; exact Ev.now _
  · simp only [if_true]; exact Ev.now _
/-- A reader that has come to place a holds what it has read: the text's begin is p. -/
def Read (s : ByteArray) (p : ByteArray) (a : Int) (b : Bool) : Prop := b = true ∨ (b = false ∧ 0 ≤ a ∧ a ≤ (s.size : Int) ∧ s.extract 0 a.toNat = p)
theorem ext_join (s : ByteArray) (a b : Nat) (h : a ≤ b) : s.extract 0 a ++ s.extract a b = s.extract 0 b := by
  apply bl_inj
  rw [bl_app, bl_ext, bl_ext, bl_ext, List.drop_zero, show b - 0 = a + (b - a) by omega, List.take_add, Nat.sub_zero]
theorem num_read {s p : ByteArray} {a : Int} {b : Bool} (h : Read s p a b) : (numB s a b).2.1 = s ∧ Read s (p ++ varT (numB s a b).1) (numB s a b).2.2.1 (numB s a b).2.2.2 ∧ (0 ≤ (numB s a b).1 ∧ (numB s a b).1 ≤ 1000000000) := by
  unfold numB
  rcases h with rfl | ⟨rfl, h0, h1, h2⟩
  · rw [if_pos rfl]; exact ⟨rfl, .inl rfl, (show (0 : Int) ≤ 0 ∧ (0 : Int) ≤ 1000000000 by omega)⟩
  · rw [if_neg (by simp)]
    by_cases hk : (readV s a).2.2 = true
    · rw [if_pos hk]
      have hv := readV_ok (s := s) (a := a) (v := (readV s a).1) (nx := (readV s a).2.1) (by rw [← hk])
      refine ⟨rfl, .inr ⟨rfl, (show 0 ≤ (readV s a).2.1 by omega), (show (readV s a).2.1 ≤ (s.size : Int) by omega), ?_⟩, hv.2.1⟩
      show s.extract 0 (readV s a).2.1.toNat = p ++ varT (readV s a).1
      rw [← hv.2.2, ← h2, ext_join s _ _ (by omega)]
    · rw [if_neg hk]; exact ⟨rfl, .inl rfl, (show (0 : Int) ≤ 0 ∧ (0 : Int) ≤ 1000000000 by omega)⟩
theorem sho_read {s p : ByteArray} {a : Int} {b : Bool} (h : Read s p a b) : (shoB s a b).2.1 = s ∧ Read s (p ++ shortT (shoB s a b).1) (shoB s a b).2.2.1 (shoB s a b).2.2.2 ∧ (shoB s a b).1.size ≤ 20000 := by
  unfold shoB
  rcases h with rfl | ⟨rfl, h0, h1, h2⟩
  · rw [if_pos rfl]; exact ⟨rfl, .inl rfl, by show 0 ≤ 20000; omega⟩
  · rw [if_neg (by simp)]
    by_cases hk : (readS s a).2.2 = true
    · rw [if_pos hk]
      have hv := readS_ok (s := s) (a := a) (t := (readS s a).1) (nx := (readS s a).2.1) (by rw [← hk])
      refine ⟨rfl, .inr ⟨rfl, (show 0 ≤ (readS s a).2.1 by omega), (show (readS s a).2.1 ≤ (s.size : Int) by omega), ?_⟩, hv.2.1⟩
      show s.extract 0 (readS s a).2.1.toNat = p ++ shortT (readS s a).1
      rw [← hv.2.2, ← h2, ext_join s _ _ (by omega)]
    · rw [if_neg hk]; exact ⟨rfl, .inl rfl, by show 0 ≤ 20000; omega⟩
/-- At a text's end all was read. -/
theorem read_end {s p : ByteArray} {a : Int} (h : Read s p a false) : p = s ↔ a = (s.size : Int) := by
  rcases h with h | ⟨_, h0, h1, rfl⟩
  · cases h
  · constructor
    · intro h
      have := congrArg ByteArray.size h
      rw [ByteArray.size_extract] at this
      omega
    · intro h
      subst h
      apply bl_inj
      rw [bl_ext, List.drop_zero]
      exact List.take_of_length_le (by rw [bytesOf_length]; omega)

/-! ### readfwd -/
theorem bt_drop {s : ByteArray} {p : Nat} {x : Int} {l : List Int} (h : (bytesOf s).drop p = x :: l) : p < s.size ∧ bt s (p : Int) = x ∧ (bytesOf s).drop (p + 1) = l := by
  have hl : p < (bytesOf s).length := by
    rcases Nat.lt_or_ge p (bytesOf s).length with h1 | h1
    · exact h1
    · rw [List.drop_of_length_le h1] at h; cases h
  rw [List.drop_eq_getElem_cons hl] at h
  injection h with h1 h2
  refine ⟨by rw [← bytesOf_length]; exact hl, ?_, h2⟩
  rw [bt_bl, ← h1]
  unfold rd
  simp [List.getD_eq_getElem?_getD, List.getElem?_eq_getElem hl]
theorem rv_fwd (s : ByteArray) (p : Nat) (X : Int) (hX : X ≤ 1000000000) (rest : List Int) : ∀ (d i m : Nat) (x n : Int), i + d = 5 → d ≤ m → 1 ≤ d → 0 ≤ x → n + x * 128 ^ i = X → (i = 0 ∨ 1 ≤ x) → x < 128 ^ d → (bytesOf s).drop (p + i) = varL m x ++ rest →
    rv s (p : Int) d i n = (X, ((p + i + (varL m x).length : Nat) : Int), true) := by
  intro d
  induction d with
  | zero => intro i m x n _ _ h; omega
  | succ d ih =>
    intro i m x n hi hm _ hx hn hz hd hb
    obtain ⟨m, rfl⟩ : ∃ q, m = q + 1 := ⟨m - 1, by omega⟩
    have hs : (128 : Int) ^ (i + 1) = 128 ^ i * 128 := Int.pow_succ 128 i
    have hsd : (128 : Int) ^ (d + 1) = 128 ^ d * 128 := Int.pow_succ 128 d
    have ep : (p : Int) + (i : Int) = ((p + i : Nat) : Int) := by omega
    unfold rv
    rw [ep]
    unfold varL at hb ⊢
    by_cases h : x > 127
    · simp only [if_pos h, List.cons_append] at hb ⊢
      obtain ⟨h1, h2, h3⟩ := bt_drop hb
      rw [if_pos (by omega), h2, if_pos (by omega)]
      have e1 : (x % 128 + 128) % 256 % 128 = x % 128 := by omega
      rw [e1]
      have hd1 : 1 ≤ d := by
        rcases Nat.eq_zero_or_pos d with h0 | h0
        · subst h0
          rw [show (128 : Int) ^ (0 + 1) = 128 from rfl] at hd
          omega
        · exact h0
      have e2 : n + x % 128 * 128 ^ i + x / 128 * 128 ^ (i + 1) = X := by
        rw [← hn, hs]
        generalize (128 : Int) ^ i = P
        have e3 : x = 128 * (x / 128) + x % 128 := by omega
        have e4 : x * P = (128 * (x / 128)) * P + x % 128 * P := by rw [← Int.add_mul, ← e3]
        have e5 : x / 128 * (P * 128) = (128 * (x / 128)) * P := by rw [Int.mul_comm P 128, ← Int.mul_assoc, Int.mul_comm (x / 128) 128]
        omega
      have e6 : x / 128 < 128 ^ d := by
        rw [hsd] at hd
        generalize (128 : Int) ^ d = P at hd ⊢
        omega
      have := ih (i + 1) m (x / 128) (n + x % 128 * 128 ^ i) (by omega) (by omega) hd1 (by omega) e2 (.inr (by omega)) e6 (by rw [show p + (i + 1) = p + i + 1 by omega]; exact h3)
      rw [this]
      congr 2
      simp only [List.length_cons]
      omega
    · simp only [if_neg h, List.cons_append, List.nil_append] at hb ⊢
      obtain ⟨h1, h2, h3⟩ := bt_drop hb
      rw [if_pos (by omega), h2]
      have e0 : x % 256 = x := by omega
      have e1 : x % 128 = x := by omega
      rw [e0] at h2
      rw [if_neg (by omega), e0, e1, hn]
      have hc : ¬ ((0 < i ∧ x = 0) ∨ X > 1000000000) := by omega
      rw [if_neg hc]
      congr 2
theorem readV_fwd {s : ByteArray} {p : Nat} {X : Int} {rest : List Int} (h0 : 0 ≤ X) (h1 : X ≤ 1000000000) (hb : (bytesOf s).drop p = varL 8 X ++ rest) : readV s (p : Int) = (X, ((p + (varL 8 X).length : Nat) : Int), true) := by
  unfold readV
  have hl : varL 8 X ≠ [] := by unfold varL; split <;> simp
  have hp : p < s.size := by
    cases hc : varL 8 X with
    | nil => exact absurd hc hl
    | cons x l => rw [hc, List.cons_append] at hb; exact (bt_drop hb).1
  rw [if_pos (rng_iff.2 ⟨by omega, by omega⟩)]
  have h2 : X < 128 ^ 5 := by
    rw [show (128 : Int) ^ 5 = 34359738368 from rfl]
    omega
  have := rv_fwd s p X h1 rest 5 0 8 X 0 (by omega) (by omega) (by omega) h0 (by rw [show (128 : Int) ^ 0 = 1 from rfl]; omega) (.inl rfl) h2 hb
  exact this
theorem numB_fwd {s : ByteArray} {p : Nat} {X : Int} {rest : List Int} (h0 : 0 ≤ X) (h1 : X ≤ 1000000000) (hb : (bytesOf s).drop p = varL 8 X ++ rest) : numB s (p : Int) false = (X, s, ((p + (varL 8 X).length : Nat) : Int), false) ∧ (bytesOf s).drop (p + (varL 8 X).length) = rest := by
  refine ⟨?_, ?_⟩
  · unfold numB
    rw [readV_fwd h0 h1 hb]
    simp
  · rw [← List.drop_drop, hb, List.drop_left]

/-! ### scan -/
theorem one_bad (s : ByteArray) (a : Int) : impl_scan_one.f s a true = some (0, s, a, true) := by unfold impl_scan_one.f; rw [if_pos rfl]
theorem one_end (s : ByteArray) (a : Int) (h : a ≥ (s.size : Int)) (b : Bool) : impl_scan_one.f s a b = some (0, s, a, true) := by
  unfold impl_scan_one.f
  by_cases hb : b = true
  · rw [if_pos hb]
  · rw [if_neg hb, if_pos h]
theorem one_ok (s : ByteArray) (a : Int) (h0 : 0 ≤ a) (h : a < (s.size : Int)) (hs : s.size ≤ 9000000000000000000) : impl_scan_one.f s a false = some (bt s a, s, a + 1, false) := by
  unfold impl_scan_one.f
  have hb := bt_range s a
  rw [if_neg (by simp), if_neg (by omega), w64 (x := a + 1) (by omega) (by omega), show a + 1 - 1 = a by omega, w64 (x := a) (by omega) (by omega), if_pos h0, if_pos h, w64 (by omega) (by omega)]
theorem rest_bad (s : ByteArray) (a : Int) : impl_scan_rest.f s a true = some ((⟨#[]⟩ : ByteArray), s, a, true) := by unfold impl_scan_rest.f; rw [if_pos rfl]
theorem rest_ok (s : ByteArray) (a : Int) (h0 : 0 ≤ a) (h : a ≤ (s.size : Int)) : impl_scan_rest.f s a false = some (s.extract a.toNat s.size, s, (s.size : Int), false) := by
  unfold impl_scan_rest.f
  rw [if_neg (by simp), if_pos h0, if_pos h]
theorem done_bad (s : ByteArray) (a : Int) : impl_scan_done.f s a true = some (false, s, a, true) := by unfold impl_scan_done.f; rw [if_pos rfl]
theorem done_ok (s : ByteArray) (a : Int) : impl_scan_done.f s a false = some ((a == (s.size : Int)), s, a, false) := by unfold impl_scan_done.f; rw [if_neg (by simp)]

/-! ### loops -/
/-- A loop upward whose rounds do nothing but go on. -/
theorem up_loop {β : Type} {F : Nat → Int → Option β} {n : Nat} {r : β} (hs : ∀ k (j : Nat), j < n → F (k + 1) (j : Int) = F k ((j + 1 : Nat) : Int)) (he : ∀ k, F (k + 1) (n : Int) = some r) :
    ∀ (d j : Nat), n - j = d → j ≤ n → ∀ k, d < k → F k (j : Int) = some r := by
  intro d
  induction d with
  | zero =>
    intro j hd hj k hk
    obtain ⟨k, rfl⟩ : ∃ m, k = m + 1 := ⟨k - 1, by omega⟩
    obtain rfl : j = n := by omega
    exact he k
  | succ d ih =>
    intro j hd hj k hk
    obtain ⟨k, rfl⟩ : ∃ m, k = m + 1 := ⟨k - 1, by omega⟩
    rw [hs k j (by omega)]
    exact ih (j + 1) (by omega) (by omega) k (by omega)
/-- A loop that turns each element of a list into one of a list that was made. -/
theorem map_loop {α β : Type} {F : Nat → List β → Int → Option (List β)} {g : α → β} {l : List α}
    (hs : ∀ k (acc : List β) (j : Nat) (hj : j < l.length), acc.length = l.length → F (k + 1) acc (j : Int) = F k (acc.set j (g l[j])) ((j + 1 : Nat) : Int))
    (he : ∀ k (acc : List β), F (k + 1) acc (l.length : Int) = some acc) :
    ∀ (d j : Nat) (acc : List β), l.length - j = d → j ≤ l.length → acc.length = l.length → (∀ i, i < j → acc[i]? = (l[i]?).map g) → ∀ k, d < k → F k acc (j : Int) = some (l.map g) := by
  intro d
  induction d with
  | zero =>
    intro j acc hd hj hl ha k hk
    obtain ⟨k, rfl⟩ : ∃ m, k = m + 1 := ⟨k - 1, by omega⟩
    obtain rfl : j = l.length := by omega
    rw [he]
    congr 1
    apply List.ext_getElem?
    intro i
    rw [List.getElem?_map]
    by_cases hi : i < l.length
    · exact ha i hi
    · rw [List.getElem?_eq_none (by omega), List.getElem?_eq_none (by omega)]; rfl
  | succ d ih =>
    intro j acc hd hj hl ha k hk
    obtain ⟨k, rfl⟩ : ∃ m, k = m + 1 := ⟨k - 1, by omega⟩
    have hjl : j < l.length := by omega
    rw [hs k acc j hjl hl]
    refine ih (j + 1) _ (by omega) (by omega) (by rw [List.length_set]; exact hl) (fun i hi => ?_) k (by omega)
    by_cases hij : i = j
    · subst hij
      rw [List.getElem?_set_self (by omega), List.getElem?_eq_getElem hjl]
      rfl
    · rw [List.getElem?_set_ne (fun h => hij h.symm)]
      exact ha i (by omega)
theorem getD_at {α : Type} {l : List α} {j : Nat} (z : α) (h : j < l.length) : l.getD (j : Int).toNat z = l[j] := by
  simp [List.getD_eq_getElem?_getD, List.getElem?_eq_getElem h]

/-! ### conf -/
def pC (l : List Int) (j : Nat) : Bool := rng (rd l (j : Int)) 1 4 && (!decide ((j : Int) > 0) || !decide (rd l ((j : Int) - 1) ≥ rd l (j : Int)))
def riseB (l : List Int) : Bool := allF (pC l) 0 l.length
def confB (l : List Int) : Bool := decide (0 < l.length) && riseB l
theorem allF_all {p : Nat → Bool} : ∀ d j, allF p j d = true → ∀ i, j ≤ i → i < j + d → p i = true := by
  intro d
  induction d with
  | zero => intro j _ i h1 h2; omega
  | succ d ih =>
    intro j h i h1 h2
    unfold allF at h
    rw [Bool.and_eq_true] at h
    by_cases hij : i = j
    · subst hij; exact h.1
    · exact ih (j + 1) h.2 i (by omega) (by omega)
theorem rise_up {l : List Int} (h : riseB l = true) : ∀ i, i < l.length → (i : Int) + 1 ≤ rd l (i : Int) ∧ rd l (i : Int) ≤ 4 := by
  intro i
  induction i with
  | zero =>
    intro hi
    have := allF_all _ _ h 0 (by omega) (by omega)
    unfold pC at this
    simp only [Bool.and_eq_true, rng_iff] at this
    omega
  | succ i ih =>
    intro hi
    have h0 := ih (by omega)
    have := allF_all _ _ h (i + 1) (by omega) (by omega)
    unfold pC at this
    simp only [Bool.and_eq_true, Bool.or_eq_true, Bool.not_eq_true', decide_eq_false_iff_not, rng_iff] at this
    obtain ⟨h1, h2⟩ := this
    have e : ((i + 1 : Nat) : Int) - 1 = (i : Int) := by omega
    rw [e] at h2
    rcases h2 with h2 | h2
    · exact absurd (show ((i + 1 : Nat) : Int) > 0 by omega) h2
    · omega
theorem rise_len {l : List Int} (h : riseB l = true) : l.length ≤ 4 := by
  rcases Nat.lt_or_ge l.length 5 with h5 | h5
  · omega
  · have := rise_up h 4 (by omega)
    omega
theorem conf_len {l : List Int} (h : confB l = true) : 1 ≤ l.length ∧ l.length ≤ 4 := by
  unfold confB at h
  simp only [Bool.and_eq_true, decide_eq_true_eq] at h
  exact ⟨by omega, rise_len h.2⟩
theorem conf_rng {l : List Int} (h : confB l = true) : ∀ x ∈ l, 1 ≤ x ∧ x ≤ 4 := by
  intro x hx
  unfold confB at h
  simp only [Bool.and_eq_true, decide_eq_true_eq] at h
  obtain ⟨i, hi, rfl⟩ := List.mem_iff_getElem.1 hx
  have := rise_up h.2 i hi
  have e : rd l (i : Int) = l[i] := by unfold rd; simp [List.getD_eq_getElem?_getD, List.getElem?_eq_getElem hi]
  rw [e] at this
  omega
theorem spec_rise (l : List Int) (hl : l.length ≤ 2000000) : Ev (fun k => spec_l05Rise.f k l 1 4) (riseB l) := by
  have h := all_ev (F := fun k j => spec_l05Rise.l0 k l 1 4 (j : Int)) (p := pC l) (R := true) (n := l.length) (fun j hj => ?_) ?_ l.length 0 (by omega) (by omega)
  · rw [Bool.and_true] at h
    exact h
  · have es : ∀ k, spec_l05Rise.l0 (k + 1) l 1 4 (j : Int) = if pC l j = true then spec_l05Rise.l0 k l 1 4 ((j + 1 : Nat) : Int) else some false := fun k => by
      simp only [spec_l05Rise.l0]
      rw [if_pos (by omega), if_pos (by omega)]
      simp only [in_eq, Option.bind_some]
      rw [w64 (x := (j : Int) + 1) (by omega) (by omega), w64 (x := (j : Int) - 1) (by omega) (by omega)]
      unfold pC
      have e1 : ((j : Int) + 1) = ((j + 1 : Nat) : Int) := by omega
      rw [e1]
      by_cases h0 : (j : Int) > 0
      · simp only [h0, show (0 : Int) ≤ (j : Int) - 1 by omega, show (j : Int) - 1 < (l.length : Int) by omega, if_true]
        cases h1 : rng (rd l (j : Int)) 1 4 <;> by_cases h3 : rd l ((j : Int) - 1) ≥ rd l (j : Int) <;> simp [h1, h3]
      · simp only [h0, if_false]
        cases h1 : rng (rd l (j : Int)) 1 4 <;> simp [h1]
    refine ⟨fun hp r hr => Ev.step (fun k => by rw [es, if_pos hp]) hr, fun hp => Ev.here (f := fun _ => some false) (fun k => by rw [es, if_neg (by simp [hp])]) (fun _ => rfl)⟩
  · exact Ev.here (f := fun _ => some true) (fun k => by simp only [spec_l05Rise.l0]; rw [if_neg (by omega)]) (fun _ => rfl)
theorem spec_conf (l : List Int) (hl : l.length ≤ 2000000) : Ev (fun k => spec_ConfOk.f k l) (confB l) := by
  unfold spec_ConfOk.f
  simp only [in_eq, Option.bind_some]
  cases hr : rng (l.length : Int) 1 4 with
  | false =>
    simp only [Bool.false_eq_true, if_false]
    have : confB l = false := by
      cases hc : confB l with
      | false => rfl
      | true =>
        have := conf_len hc
        have := rng_false.1 hr
        omega
    rw [this]
    exact Ev.now _
  | true =>
    have hh := rng_iff.1 hr
    have : confB l = riseB l := by unfold confB; simp; omega
    rw [this]
    simp only [if_true]
    refine Ev.bind (spec_rise l hl) ?_
    exact Ev.now _
theorem impl_rise (l : List Int) (hl : l.length ≤ 2000000) : Ev (fun k => impl_nodesOk.f k l) (riseB l) := by
  have h := all_ev (F := fun k j => impl_nodesOk.l0 k l l (l.length : Int) (j : Int)) (p := pC l) (R := true) (n := l.length) (fun j hj => ?_) ?_ l.length 0 (by omega) (by omega)
  · rw [Bool.and_true] at h
    exact h
  · have es : ∀ k, impl_nodesOk.l0 (k + 1) l l (l.length : Int) (j : Int) = if pC l j = true then impl_nodesOk.l0 k l l (l.length : Int) ((j + 1 : Nat) : Int) else some false := fun k => by
      simp only [impl_nodesOk.l0]
      rw [if_pos (by omega), if_pos (by omega), if_pos (by omega)]
      simp only [impl_isNode.f, within_eq, Option.bind_some]
      rw [w64 (x := (j : Int) + 1) (by omega) (by omega), w64 (x := (j : Int) - 1) (by omega) (by omega)]
      unfold pC
      have e1 : ((j : Int) + 1) = ((j + 1 : Nat) : Int) := by omega
      rw [e1]
      by_cases h0 : (j : Int) > 0
      · simp only [h0, show (0 : Int) ≤ (j : Int) - 1 by omega, show (j : Int) - 1 < (l.length : Int) by omega, if_true]
        cases h1 : rng (rd l (j : Int)) 1 4 <;> by_cases h3 : rd l ((j : Int) - 1) ≥ rd l (j : Int) <;> simp [h1, h3]
      · simp only [h0, if_false]
        cases h1 : rng (rd l (j : Int)) 1 4 <;> simp [h1]
    refine ⟨fun hp r hr => Ev.step (fun k => by rw [es, if_pos hp]) hr, fun hp => Ev.here (f := fun _ => some false) (fun k => by rw [es, if_neg (by simp [hp])]) (fun _ => rfl)⟩
  · exact Ev.here (f := fun _ => some true) (fun k => by simp only [impl_nodesOk.l0]; rw [if_neg (by omega)]) (fun _ => rfl)
theorem impl_conf (l : List Int) (hl : l.length ≤ 2000000) : Ev (fun k => impl_ConfOk.f k l) (confB l) := by
  unfold impl_ConfOk.f
  by_cases h : (l.length : Int) > 0
  · have : confB l = riseB l := by unfold confB; simp; omega
    rw [this]
    simp only [if_pos h]
    refine Ev.bind (impl_rise l hl) ?_
    exact Ev.now _
  · have : confB l = false := by unfold confB; simp; omega
    rw [this]
    simp only [if_neg h]
    exact Ev.now _
def confR (s : ByteArray) : List Int × Bool := if confB (bytesOf s) = true then (bytesOf s, true) else ([], false)
theorem wbt (s : ByteArray) (j : Nat) (hj : j < s.size) : wrap64 (bt s (j : Int)) = (bytesOf s)[j]'(by rw [bytesOf_length]; exact hj) := by
  have hl : j < (bytesOf s).length := by rw [bytesOf_length]; exact hj
  have e : bt s (j : Int) = (bytesOf s)[j] := by rw [bt_bl]; unfold rd; simp [List.getD_eq_getElem?_getD, List.getElem?_eq_getElem hl]
  have := bl_range (s := s) _ (List.getElem_mem hl)
  rw [e, w64 (by omega) (by omega)]
theorem impl_rc_loop (s : ByteArray) (hs : s.size ≤ 2000000) : ∀ (d j : Nat), s.size - j = d → j ≤ s.size → Ev (fun k => impl_ReadConf.l0 k s ((bytesOf s).take j) (j : Int)) (confR s) := by
  intro d
  induction d with
  | zero =>
    intro j hd hj
    have hj' : (bytesOf s).take j = bytesOf s := List.take_of_length_le (by rw [bytesOf_length]; omega)
    rw [hj']
    refine Ev.step (fun k => by simp only [impl_ReadConf.l0]; rw [if_neg (by omega)]) ?_
    refine Ev.bind (impl_conf _ (by rw [bytesOf_length]; exact hs)) ?_
    unfold confR
    cases confB (bytesOf s) <;> exact Ev.now _
  | succ d ih =>
    intro j hd hj
    have hl : j < (bytesOf s).length := by rw [bytesOf_length]; omega
    refine Ev.step (fun k => by simp only [impl_ReadConf.l0]; rw [if_pos (by omega), if_pos (by omega), if_pos (by rw [List.length_take]; omega), w64 (x := (j : Int) + 1) (by omega) (by omega), wbt s j (by omega), List.take_append_getElem hl]) ?_
    exact ih (j + 1) (by omega) (by omega)
theorem impl_readconf (s : ByteArray) (hs : s.size ≤ 2000000) : Ev (fun k => impl_ReadConf.f k s) (confR s) := by
  have := impl_rc_loop s hs s.size 0 (by omega) (by omega)
  rw [List.take_zero] at this
  exact this
theorem spec_rc_loop (s : ByteArray) (hs : s.size ≤ 2000000) : ∀ (d j : Nat), 5 - j = d → j ≤ 5 → j ≤ s.size → Ev (fun k => spec_ReadConf.l0 k s ((bytesOf s).take j) (j : Int)) (confR s) := by
  have hend : ∀ j : Nat, j = s.size → Ev (fun k => spec_ReadConf.l0 k s ((bytesOf s).take j) (j : Int)) (confR s) := by
    intro j hj
    have hj' : (bytesOf s).take j = bytesOf s := List.take_of_length_le (by rw [bytesOf_length]; omega)
    rw [hj']
    have hlen := bytesOf_length s
    refine Ev.step (fun k => by simp only [spec_ReadConf.l0]; rw [if_neg (by omega), if_pos (by omega)]) ?_
    refine Ev.bind (spec_conf _ (by rw [bytesOf_length]; exact hs)) ?_
    unfold confR
    cases confB (bytesOf s) <;> exact Ev.now _
  intro d
  induction d with
  | zero =>
    intro j hd hj hjs
    by_cases he : j = s.size
    · exact hend j he
    · have hlen := bytesOf_length s
      have hc : confR s = ([], false) := by
        unfold confR
        cases hc : confB (bytesOf s) with
        | false => simp
        | true =>
          have := conf_len hc
          omega
      rw [hc]
      refine Ev.here (f := fun _ => some ([], false)) (fun k => ?_) (fun _ => rfl)
      simp only [spec_ReadConf.l0]
      rw [if_pos (by omega), if_neg (by omega), if_neg (by rw [List.length_take]; omega)]
  | succ d ih =>
    intro j hd hj hjs
    by_cases he : j = s.size
    · exact hend j he
    · have hl : j < (bytesOf s).length := by rw [bytesOf_length]; omega
      refine Ev.step (fun k => by simp only [spec_ReadConf.l0]; rw [if_pos (by omega), if_pos (by omega), if_pos (by omega), if_pos (by rw [List.length_take]; omega), w64 (x := (j : Int) + 1) (by omega) (by omega), wbt s j (by omega), List.take_append_getElem hl]) ?_
      exact ih (j + 1) (by omega) (by omega) (by omega)
theorem spec_readconf (s : ByteArray) (hs : s.size ≤ 2000000) : Ev (fun k => spec_ReadConf.f k s) (confR s) := by
  have := spec_rc_loop s hs 5 0 (by omega) (by omega) (by omega)
  rw [List.take_zero] at this
  exact this

/-! ### entryok -/
def entB (t c : Int) (s : ByteArray) : Bool :=
  rng t 0 100000 && (if c = 1 then decide (s.toList = ([] : List UInt8)) else if c = 2 then (confR s).2 else if c = 3 then decide ((s.size : Int) ≤ 120) else false)
theorem nil_dec (s : ByteArray) : (s.toList == ([] : List UInt8)) = decide (s.toList = ([] : List UInt8)) := by
  cases s.toList <;> simp
theorem spec_ent (t c : Int) (s : ByteArray) (hs : s.size ≤ 2000000) : Ev (fun k => spec_EntryOk.f k t c s) (entB t c s) := by
  unfold spec_EntryOk.f entB
  simp only [in_eq, Option.bind_some, nil_dec]
  cases rng t 0 100000 with
  | false => simpa using Ev.now false
  | true =>
    simp only [if_true, Bool.true_and]
    by_cases h1 : c = 1
    · simp only [if_pos h1]; exact Ev.now _
    · by_cases h2 : c = 2
      · simp only [if_neg h1, if_pos h2]
        exact Ev.bind (spec_readconf s hs) (Ev.now _)
      · by_cases h3 : c = 3
        · simp only [if_neg h1, if_neg h2, if_pos h3]; exact Ev.now _
        · simp only [if_neg h1, if_neg h2, if_neg h3]; exact Ev.now _
theorem impl_ent (t c : Int) (s : ByteArray) (hs : s.size ≤ 2000000) : Ev (fun k => impl_EntryOk.f k t c s) (entB t c s) := by
  unfold impl_EntryOk.f impl_isTerm.f entB
  simp only [within_eq, Option.bind_some, nil_dec]
  by_cases h1 : c = 1
  · simp only [if_pos h1]
    cases rng t 0 100000 <;> simpa using Ev.now _
  · by_cases h2 : c = 2
    · simp only [if_neg h1, if_pos h2]
      refine Ev.bind (impl_readconf s hs) ?_
      cases rng t 0 100000 <;> simpa using Ev.now _
    · by_cases h3 : c = 3
      · simp only [if_neg h1, if_neg h2, if_pos h3]
        cases rng t 0 100000 <;> simpa using Ev.now _
      · simp only [if_neg h1, if_neg h2, if_neg h3, Bool.and_false]; exact Ev.now _
theorem ent_iff {t c : Int} {s : ByteArray} (h : entB t c s = true) : (0 ≤ t ∧ t ≤ 100000) ∧ (1 ≤ c ∧ c ≤ 3) ∧ s.size ≤ 120 := by
  unfold entB at h
  rw [Bool.and_eq_true, rng_iff] at h
  obtain ⟨ht, h⟩ := h
  refine ⟨ht, ?_⟩
  by_cases h1 : c = 1
  · rw [if_pos h1, decide_eq_true_eq] at h
    have h2 := bytesOf_length s
    rw [toList_nil.1 h] at h2
    simp at h2
    omega
  · by_cases h2 : c = 2
    · rw [if_neg h1, if_pos h2] at h
      unfold confR at h
      cases hc : confB (bytesOf s) with
      | false => simp [hc] at h
      | true =>
        have := conf_len hc
        rw [bytesOf_length] at this
        omega
    · by_cases h3 : c = 3
      · rw [if_neg h1, if_neg h2, if_pos h3, decide_eq_true_eq] at h
        omega
      · simp [h1, h2, h3] at h

/-! ### bytes -/
theorem bytes_loop (l : List Int) (hl : l.length ≤ 2000000) : ∀ (d j : Nat) (acc : List Int), l.length - j = d → j ≤ l.length → acc.length = j → ∀ k, d < k → impl_byteTexts.l0 k acc l (l.length : Int) (j : Int) = some (strOfNums (acc ++ (l.drop j).map (· % 256))) := by
  intro d
  induction d with
  | zero =>
    intro j acc hd hj ha k hk
    obtain ⟨k, rfl⟩ : ∃ m, k = m + 1 := ⟨k - 1, by omega⟩
    simp only [impl_byteTexts.l0]
    rw [if_neg (by omega), List.drop_of_length_le (by omega)]
    simp
  | succ d ih =>
    intro j acc hd hj ha k hk
    obtain ⟨k, rfl⟩ : ∃ m, k = m + 1 := ⟨k - 1, by omega⟩
    have hjl : j < l.length := by omega
    have hget : rd l (j : Int) = l[j] := by unfold rd; simp [List.getD_eq_getElem?_getD, List.getElem?_eq_getElem hjl]
    have hdrop : l.drop j = l[j] :: l.drop (j + 1) := List.drop_eq_getElem_cons hjl
    simp only [impl_byteTexts.l0]
    rw [if_pos (by omega), if_pos (by omega), if_pos (by omega), if_pos (by omega), hget, w64 (x := (j : Int) + 1) (by omega) (by omega), hdrop]
    have := ih (j + 1) (acc ++ [l[j] % 256]) (by omega) (by omega) (by rw [List.length_append, List.length_singleton]; omega) k (by omega)
    rw [List.append_assoc] at this
    exact this
theorem bytes_ok (l : List Int) (hl : l.length ≤ 2000000) : ∀ k, l.length < k → impl_byteTexts.f k l = some (strOfNums (l.map (· % 256))) := fun k hk =>
  bytes_loop l hl l.length 0 [] (by omega) (by omega) rfl k hk

/-! ### entrytext -/
def entT (i t c : Int) (s : ByteArray) : ByteArray := (⟨#[69]⟩ : ByteArray) ++ varT i ++ varT t ++ strOfNums [c % 256] ++ s
def entO (i t c : Int) (s : ByteArray) : ByteArray × Bool := if (entB t c s && rng i 1 1000000) = true then (entT i t c s, true) else ((⟨#[]⟩ : ByteArray), false)
theorem lit69 : (⟨#[69]⟩ : ByteArray).size = 1 := rfl
theorem ent_size {i t c : Int} {s : ByteArray} : (entO i t c s).1.size ≤ 140 := by
  unfold entO
  by_cases h : (entB t c s && rng i 1 1000000) = true
  · rw [if_pos h]
    rw [Bool.and_eq_true] at h
    have h1 := (ent_iff h.1).2.2
    have h2 := varT_size i
    have h3 := varT_size t
    show (entT i t c s).size ≤ 140
    unfold entT
    simp only [ByteArray.size_append, lit69, strOfNums_size, List.length_cons, List.length_nil]
    omega
  · rw [if_neg h]
    show 0 ≤ 140
    omega
theorem spec_enttext (i t c : Int) (s : ByteArray) (hs : s.size ≤ 2000000) : Ev (fun k => spec_EntryText.f k i t c s) (entO i t c s) := by
  have hT : Ev (fun k => spec_EntryText.j0 k i true t c s) ((⟨#[]⟩ : ByteArray), false) := Ev.here (f := fun _ => some ((⟨#[]⟩ : ByteArray), false)) (fun k => by simp only [spec_EntryText.j0, if_true]) (fun _ => rfl)
  unfold spec_EntryText.f
  refine Ev.bind (spec_ent t c s hs) ?_
  unfold entO
  cases he : entB t c s with
  | false =>
    simp only [Bool.false_eq_true, if_false, Bool.false_and]
    exact hT
  | true =>
    simp only [if_true, in_eq, Option.bind_some, Bool.true_and]
    cases hr : rng i 1 1000000 with
    | false =>
      simp only [Bool.not_false, Bool.false_eq_true, if_false]
      exact hT
    | true =>
      have hi := rng_iff.1 hr
      have ht := (ent_iff he).1
      have h1 := varT_size i
      have h2 := varT_size t
      simp only [Bool.not_true, if_true]
      refine Ev.step (fun k => by simp only [spec_EntryText.j0, Bool.false_eq_true, if_false]; rfl) ?_
      refine Ev.bind (spec_var i (by omega) (by omega)) ?_
      simp only [if_pos (show 1 + (varT i).size ≤ 9223372036854775807 by omega)]
      refine Ev.bind (spec_var t (by omega) (by omega)) ?_
      simp only [if_pos (show ((⟨#[69]⟩ : ByteArray) ++ varT i).size + (varT t).size ≤ 9223372036854775807 by rw [ByteArray.size_append, lit69]; omega), Option.bind_some,
        if_pos (show ((⟨#[69]⟩ : ByteArray) ++ varT i ++ varT t).size + (strOfNums [c % 256]).size ≤ 9223372036854775807 by simp only [ByteArray.size_append, lit69, strOfNums_size, List.length_cons, List.length_nil]; omega),
        if_pos (show ((⟨#[69]⟩ : ByteArray) ++ varT i ++ varT t ++ strOfNums [c % 256]).size + s.size ≤ 9223372036854775807 by simp only [ByteArray.size_append, lit69, strOfNums_size, List.length_cons, List.length_nil]; omega)]
      exact Ev.now _
theorem impl_enttext (i t c : Int) (s : ByteArray) (hs : s.size ≤ 2000000) : Ev (fun k => impl_EntryText.f k i t c s) (entO i t c s) := by
  have hT : Ev (fun k => impl_EntryText.j0 k i true t c s) ((⟨#[]⟩ : ByteArray), false) := Ev.here (f := fun _ => some ((⟨#[]⟩ : ByteArray), false)) (fun k => by simp only [impl_EntryText.j0, if_true]) (fun _ => rfl)
  unfold impl_EntryText.f
  refine Ev.bind (impl_ent t c s hs) ?_
  unfold entO
  cases he : entB t c s with
  | false =>
    simp only [Bool.false_eq_true, if_false, Bool.false_and]
    exact hT
  | true =>
    simp only [if_true, within_eq, Option.bind_some, Bool.true_and]
    cases hr : rng i 1 1000000 with
    | false =>
      simp only [Bool.not_false, Bool.false_eq_true, if_false]
      exact hT
    | true =>
      have hi := rng_iff.1 hr
      have ht := (ent_iff he).1
      have h1 := varT_size i
      have h2 := varT_size t
      simp only [Bool.not_true, if_true]
      refine Ev.step (fun k => by simp only [impl_EntryText.j0, Bool.false_eq_true, if_false]; rfl) ?_
      refine Ev.bind (varTexts_ok [i, t] (by simp) (by simp only [List.mem_cons, List.not_mem_nil, or_false]; rintro x (rfl | rfl) <;> omega)) ?_
      simp only [catB, app_empty, if_pos (show 1 + (varT i ++ varT t).size ≤ 9223372036854775807 by rw [ByteArray.size_append]; omega)]
      refine Ev.bind ⟨2, fun k hk => bytes_ok [c] (by simp) k (by simp only [List.length_cons, List.length_nil]; omega)⟩ ?_
      simp only [List.map_cons, List.map_nil, if_pos (show ((⟨#[69]⟩ : ByteArray) ++ (varT i ++ varT t)).size + (strOfNums [c % 256]).size ≤ 9223372036854775807 by simp only [ByteArray.size_append, lit69, strOfNums_size, List.length_cons, List.length_nil]; omega),
        if_pos (show ((⟨#[69]⟩ : ByteArray) ++ (varT i ++ varT t) ++ strOfNums [c % 256]).size + s.size ≤ 9223372036854775807 by simp only [ByteArray.size_append, lit69, strOfNums_size, List.length_cons, List.length_nil]; omega)]
      have e : (⟨#[69]⟩ : ByteArray) ++ (varT i ++ varT t) ++ strOfNums [c % 256] ++ s = entT i t c s := by unfold entT; simp only [ByteArray.append_assoc]
      rw [e]
      exact Ev.now _

/-! ### readentry -/
theorem num_bad0 (s : ByteArray) (a : Int) : numB s a true = (0, s, a, true) := by unfold numB; rw [if_pos rfl]
theorem bl_var (x : Int) : bytesOf (varT x) = varL 8 x := bl_str (varL_range 8 x)
theorem ent_bytes (i t c : Int) (d : ByteArray) : bytesOf (entT i t c d) = 69 :: (varL 8 i ++ (varL 8 t ++ (c % 256 :: bytesOf d))) := by
  unfold entT
  rw [bl_app, bl_app, bl_app, bl_app, bl_var, bl_var, bl_str (by simp only [List.mem_singleton]; rintro x rfl; omega), show bytesOf (⟨#[69]⟩ : ByteArray) = [69] from rfl]
  simp
theorem impl_readentry_back (i t c : Int) (d : ByteArray) (h : entB t c d = true) (hi : 1 ≤ i ∧ i ≤ 1000000) : Ev (fun k => impl_ReadEntry.f k (entT i t c d)) (i, t, c, d, true) := by
  obtain ⟨ht, hc, hd⟩ := ent_iff h
  have hL := ent_bytes i t c d
  have hs : (entT i t c d).size ≤ 140 := by
    have := ent_size (i := i) (t := t) (c := c) (s := d)
    unfold entO at this
    rw [if_pos (by rw [h, rng_iff.2 hi]; rfl)] at this
    exact this
  generalize entT i t c d = s at hL hs ⊢
  obtain ⟨h0, h1, h2⟩ := bt_drop (p := 0) (show (bytesOf s).drop 0 = _ by rw [List.drop_zero]; exact hL)
  obtain ⟨n1, h3⟩ := numB_fwd (p := 0 + 1) (X := i) (by omega) (by omega) h2
  obtain ⟨n2, h4⟩ := numB_fwd (X := t) (by omega) (by omega) h3
  obtain ⟨h5, h6, h7⟩ := bt_drop h4
  generalize hp3 : 0 + 1 + (varL 8 i).length + (varL 8 t).length = p3 at n2 h5 h6 h7
  generalize hp2 : 0 + 1 + (varL 8 i).length = p2 at n1 n2
  have hc2 : c % 256 = c := by omega
  rw [hc2] at h6
  have o1 : impl_scan_one.f s 0 false = some (69, s, ((0 + 1 : Nat) : Int), false) := by
    have := one_ok s 0 (by omega) (by omega) (by omega)
    rw [show bt s 0 = 69 from h1] at this
    exact this
  have o2 : impl_scan_one.f s (p3 : Int) false = some (c, s, ((p3 + 1 : Nat) : Int), false) := by
    have := one_ok s (p3 : Int) (by omega) (by omega) (by omega)
    rw [h6] at this
    exact this
  have hl7 := congrArg List.length h7
  rw [List.length_drop, bytesOf_length, bytesOf_length] at hl7
  have o3 : impl_scan_rest.f s ((p3 + 1 : Nat) : Int) false = some (d, s, (s.size : Int), false) := by
    have := rest_ok s ((p3 + 1 : Nat) : Int) (by omega) (by omega)
    have e : s.extract ((p3 + 1 : Nat) : Int).toNat s.size = d := by
      apply bl_inj
      rw [bl_ext, show ((p3 + 1 : Nat) : Int).toNat = p3 + 1 by omega, h7, List.take_of_length_le (by rw [bytesOf_length]; omega)]
    rw [e] at this
    exact this
  unfold impl_ReadEntry.f
  simp only [o1, Option.bind_some]
  refine Ev.bind (impl_num s ((0 + 1 : Nat) : Int) false (by omega)) ?_
  simp only [n1]
  refine Ev.bind (impl_num s (p2 : Int) false (by omega)) ?_
  simp only [n2, o2, o3, done_ok, Option.bind_some, beq_self_eq_true, if_true]
  refine Ev.bind (impl_ent t c d (by omega)) ?_
  simp only [h, if_true, within_eq, Option.bind_some, rng_iff.2 hi]
  exact Ev.now _
theorem impl_readentry_empty : Ev (fun k => impl_ReadEntry.f k (⟨#[]⟩ : ByteArray)) (0, 0, 0, (⟨#[]⟩ : ByteArray), false) := by
  unfold impl_ReadEntry.f
  simp only [one_end (⟨#[]⟩ : ByteArray) 0 (by decide), Option.bind_some]
  refine Ev.bind (impl_num (⟨#[]⟩ : ByteArray) 0 true (by decide)) ?_
  simp only [num_bad0]
  refine Ev.bind (impl_num (⟨#[]⟩ : ByteArray) 0 true (by decide)) ?_
  simp only [num_bad0, one_bad, rest_bad, done_bad, Option.bind_some, Bool.false_eq_true, if_false]
  exact Ev.now _

/-! ### draw -/
def Cur (b : List Int) (i : Int) : Prop := 0 ≤ i ∧ i ≤ (b.length : Int)
theorem new_loop (b : List Int) : ∀ (d : Nat) (i x : Int), 0 ≤ i → i ≤ 4000 → 4000 - i ≤ d → ∃ h, ∀ k, d < k → spec_l01New.l0 k b x i = some (b, 0, h) := by
  intro d
  induction d with
  | zero =>
    intro i x h0 h1 hd
    refine ⟨x, fun k hk => ?_⟩
    obtain ⟨k, rfl⟩ : ∃ m, k = m + 1 := ⟨k - 1, by omega⟩
    simp only [spec_l01New.l0]
    by_cases hl : i < (b.length : Int)
    · rw [if_pos hl, if_neg (by omega)]
    · rw [if_neg hl]
  | succ d ih =>
    intro i x h0 h1 hd
    by_cases hl : i < (b.length : Int) ∧ i < 4000
    · obtain ⟨h, ih⟩ := ih (i + 1) (Go.bits .and .i64 (wrap64 ((wrap64 ((wrap64 (x * 131)) + (wrap64 (rd b i)))) + 7)) 1073741823) (by omega) (by omega) (by omega)
      refine ⟨h, fun k hk => ?_⟩
      obtain ⟨k, rfl⟩ : ∃ m, k = m + 1 := ⟨k - 1, by omega⟩
      simp only [spec_l01New.l0]
      rw [if_pos hl.1, if_pos hl.2, if_pos h0, w64 (x := i + 1) (by omega) (by omega)]
      exact ih k (by omega)
    · refine ⟨x, fun k hk => ?_⟩
      obtain ⟨k, rfl⟩ : ∃ m, k = m + 1 := ⟨k - 1, by omega⟩
      simp only [spec_l01New.l0]
      by_cases hl2 : i < (b.length : Int)
      · rw [if_pos hl2, if_neg (by omega)]
      · rw [if_neg hl2]
theorem new_ok (b : List Int) : ∃ h, Ev (fun k => spec_l01New.f k b) (b, 0, h) := by
  obtain ⟨h, hk⟩ := new_loop b 4000 0 (wrap64 (37401 + (b.length : Int))) (by omega) (by omega) (by omega)
  exact ⟨h, 4001, fun k h1 => hk k (by omega)⟩
theorem cur_zero (b : List Int) : Cur b 0 := ⟨by omega, by omega⟩
theorem byte_ok {b : List Int} {i : Int} (h : Int) (hb : b.length ≤ 1048576) (hi : Cur b i) : ∃ v i' h', spec_l01Byte.f b i h = some (v, i', h') ∧ (0 ≤ v ∧ v ≤ 255) ∧ Cur b i' := by
  obtain ⟨h0, h1⟩ := hi
  unfold spec_l01Byte.f
  by_cases hl : i < (b.length : Int)
  · rw [if_pos hl, if_pos h0]
    refine ⟨_, _, _, rfl, ?_, ?_⟩
    · rw [and255]; omega
    · rw [w64 (by omega) (by omega)]; exact ⟨by omega, by omega⟩
  · rw [if_neg hl]
    refine ⟨_, _, _, rfl, ?_, h0, h1⟩
    rw [and255]; omega
theorem tmod_below {x n : Int} (hx : 0 ≤ x) (hn : 0 < n) : 0 ≤ Int.tmod x n ∧ Int.tmod x n < n := by
  rw [Int.tmod_eq_emod_of_nonneg hx]
  exact ⟨Int.emod_nonneg _ (by omega), Int.emod_lt_of_pos _ hn⟩
theorem below_ok {b : List Int} {i : Int} (h n : Int) (hb : b.length ≤ 1048576) (hi : Cur b i) : ∃ v i' h', spec_l01Below.f b i h n = some (v, i', h') ∧ (0 ≤ v ∧ (0 < n → v < n) ∧ (n ≤ 0 → v = 0)) ∧ Cur b i' := by
  unfold spec_l01Below.f
  by_cases hn : n ≤ 0
  · rw [if_pos hn]
    exact ⟨0, i, h, rfl, ⟨by omega, fun h => by omega, fun _ => rfl⟩, hi⟩
  · rw [if_neg hn]
    by_cases hs : n ≤ 256
    · rw [if_pos hs]
      obtain ⟨v, i', h', e, hv, hi'⟩ := byte_ok h hb hi
      rw [e]
      simp only [Option.bind_some]
      rw [if_neg (by omega)]
      have := tmod_below hv.1 (show 0 < n by omega)
      exact ⟨_, _, _, rfl, ⟨this.1, fun _ => this.2, fun h => absurd h hn⟩, hi'⟩
    · rw [if_neg hs]
      obtain ⟨v1, i1, h1, e1, hv1, hi1⟩ := byte_ok h hb hi
      rw [e1]
      simp only [Option.bind_some]
      obtain ⟨v2, i2, h2, e2, hv2, hi2⟩ := byte_ok h1 hb hi1
      rw [e2]
      simp only [Option.bind_some]
      obtain ⟨v3, i3, h3, e3, hv3, hi3⟩ := byte_ok h2 hb hi2
      rw [e3]
      simp only [Option.bind_some]
      obtain ⟨v4, i4, h4, e4, hv4, hi4⟩ := byte_ok h3 hb hi3
      rw [e4]
      simp only [Option.bind_some]
      rw [if_neg (by omega)]
      rw [w64 (x := v1 * 16777216) (by omega) (by omega), w64 (x := v2 * 65536) (by omega) (by omega), w64 (x := v3 * 256) (by omega) (by omega), w64 (x := v1 * 16777216 + v2 * 65536) (by omega) (by omega),
        w64 (x := v1 * 16777216 + v2 * 65536 + v3 * 256) (by omega) (by omega), w64 (x := v1 * 16777216 + v2 * 65536 + v3 * 256 + v4) (by omega) (by omega)]
      have := tmod_below (show 0 ≤ v1 * 16777216 + v2 * 65536 + v3 * 256 + v4 by omega) (show 0 < n by omega)
      exact ⟨_, _, _, rfl, ⟨this.1, fun _ => this.2, fun h => absurd h hn⟩, hi4⟩
theorem big_eq (b : List Int) : laws_big.f b = some (decide ((b.length : Int) > 1048576)) := rfl

/-! ### tot -/
/-- A row of calls that comes to an answer of a kind. -/
def Tot {α : Type} (g : Nat → Option α) (P : α → Prop) : Prop := ∃ r, Ev g r ∧ P r
theorem Tot.bind {α β : Type} {g : Nat → Option α} {f : Nat → α → Option β} {P : α → Prop} {Q : β → Prop} (h : Tot g P) (h2 : ∀ r, P r → Tot (fun k => f k r) Q) : Tot (fun k => (g k).bind (f k)) Q := by
  obtain ⟨r, e, hr⟩ := h
  obtain ⟨q, e2, hq⟩ := h2 r hr
  exact ⟨q, Ev.bind e e2, hq⟩
theorem Tot.ret {α : Type} {P : α → Prop} (r : α) (h : P r) : Tot (fun _ => some r) P := ⟨r, Ev.now _, h⟩
theorem Tot.step {α : Type} {F f : Nat → Option α} {P : α → Prop} (hs : ∀ k, F (k + 1) = f k) (h : Tot f P) : Tot F P := by
  obtain ⟨r, e, hr⟩ := h
  exact ⟨r, Ev.step hs e, hr⟩
theorem Tot.mono {α : Type} {g : Nat → Option α} {P Q : α → Prop} (h : Tot g P) (hpq : ∀ r, P r → Q r) : Tot g Q := by
  obtain ⟨r, e, hr⟩ := h
  exact ⟨r, e, hpq r hr⟩
theorem Tot.of_some {α : Type} {o : Option α} {P : α → Prop} (r : α) (e : o = some r) (h : P r) : Tot (fun _ => o) P := ⟨r, ⟨0, fun _ _ => e⟩, h⟩
theorem tByte {b : List Int} {i : Int} (h : Int) (hb : b.length ≤ 1048576) (hi : Cur b i) : Tot (fun _ => spec_l01Byte.f b i h) (fun r => (0 ≤ r.1 ∧ r.1 ≤ 255) ∧ Cur b r.2.1) := by
  obtain ⟨v, i', h', e, hv, hi'⟩ := byte_ok h hb hi
  exact Tot.of_some _ e ⟨hv, hi'⟩
theorem tBelow {b : List Int} {i : Int} (h n : Int) (hb : b.length ≤ 1048576) (hi : Cur b i) : Tot (fun _ => spec_l01Below.f b i h n) (fun r => (0 ≤ r.1 ∧ (0 < n → r.1 < n) ∧ (n ≤ 0 → r.1 = 0)) ∧ Cur b r.2.1) := by
  obtain ⟨v, i', h', e, hv, hi'⟩ := below_ok h n hb hi
  exact Tot.of_some _ e ⟨hv, hi'⟩
theorem rd_mem {l : List Int} {i : Int} (h0 : 0 ≤ i) (h1 : i < (l.length : Int)) : rd l i ∈ l := by
  unfold rd
  rw [List.getD_eq_getElem?_getD, List.getElem?_eq_getElem (by omega), Option.getD_some]
  exact List.getElem_mem _
theorem tPick {b : List Int} {i : Int} (h : Int) (l : List Int) (hb : b.length ≤ 1048576) (hi : Cur b i) (hl : 0 < l.length) : Tot (fun _ => spec_l01PickInt.f b i h l) (fun r => r.1 ∈ l ∧ Cur b r.2.1) := by
  obtain ⟨v, i', h', e, hv, hi'⟩ := below_ok h (l.length : Int) hb hi
  have h1 := hv.2.1 (by omega)
  refine Tot.of_some (rd l v, i', h') ?_ ⟨rd_mem hv.1 h1, hi'⟩
  unfold spec_l01PickInt.f
  rw [e]
  simp only [Option.bind_some]
  rw [if_pos hv.1, if_pos h1]
theorem tOnce {b : List Int} {i : Int} (h n : Int) (hb : b.length ≤ 1048576) (hi : Cur b i) : Tot (fun _ => spec_l01Once.f b i h n) (fun r => Cur b r.2.1) := by
  obtain ⟨v, i', h', e, _, hi'⟩ := below_ok h n hb hi
  refine Tot.of_some (v == 0, i', h') ?_ hi'
  unfold spec_l01Once.f
  rw [e]
  rfl
theorem tPickT {b : List Int} {i : Int} (h : Int) (l : List ByteArray) (hb : b.length ≤ 1048576) (hi : Cur b i) (hl : 0 < l.length) : Tot (fun _ => spec_l01Pick.f b i h l) (fun r => r.1 ∈ l ∧ Cur b r.2.1) := by
  obtain ⟨v, i', h', e, hv, hi'⟩ := below_ok h (l.length : Int) hb hi
  have h1 := hv.2.1 (by omega)
  have hm : rdOf ByteArray.empty l v ∈ l := by
    unfold rdOf
    rw [List.getD_eq_getElem?_getD, List.getElem?_eq_getElem (by have := hv.1; omega), Option.getD_some]
    exact List.getElem_mem _
  refine Tot.of_some (rdOf ByteArray.empty l v, i', h') ?_ ⟨hm, hi'⟩
  unfold spec_l01Pick.f
  rw [e]
  simp only [Option.bind_some]
  rw [if_pos hv.1, if_pos h1]

/-! ### text -/
theorem long_loop (n c : Int) (hn : n ≤ 1000000) : ∀ (d : Nat) (j : Int) (l : List Int), (l.length : Int) = n → 0 ≤ j → n - j ≤ d → j ≤ n → Tot (fun k => spec_l01Long.l0 k n c l j) (fun r => (r.size : Int) = n) := by
  intro d
  induction d with
  | zero =>
    intro j l hl h0 hd hj
    refine Tot.step (f := fun _ => some (strOfNums l)) (fun k => by simp only [spec_l01Long.l0]; rw [if_neg (by omega)]) (Tot.ret _ (by rw [strOfNums_size]; exact hl))
  | succ d ih =>
    intro j l hl h0 hd hj
    by_cases hjn : j < n
    · refine Tot.step (fun k => by simp only [spec_l01Long.l0]; rw [if_pos hjn, if_pos h0, if_pos (by omega), w64 (by omega) (by omega)]) ?_
      exact ih (j + 1) (l.set j.toNat c) (by rw [List.length_set]; exact hl) (by omega) (by omega) (by omega)
    · refine Tot.step (f := fun _ => some (strOfNums l)) (fun k => by simp only [spec_l01Long.l0]; rw [if_neg hjn]) (Tot.ret _ (by rw [strOfNums_size]; exact hl))
theorem tLong (n c : Int) (h0 : 0 ≤ n) (hn : n ≤ 1000000) : Tot (fun k => spec_l01Long.f k n c) (fun r => (r.size : Int) = n) := by
  unfold spec_l01Long.f
  simp only [if_pos h0, if_pos (show n.toNat ≤ 281474976710656 by omega)]
  exact long_loop n c hn n.toNat 0 _ (by rw [List.length_replicate]; omega) (by omega) (by omega) (by omega)

/-! ### conftext -/
def confT (l : List Int) : ByteArray := strOfNums (l.map (· % 256))
def confO (l : List Int) : ByteArray × Bool := if confB l = true then (confT l, true) else ((⟨#[]⟩ : ByteArray), false)
theorem confO_size (l : List Int) : (confO l).1.size ≤ 4 := by
  unfold confO
  by_cases h : confB l = true
  · rw [if_pos h]
    have := conf_len h
    show (confT l).size ≤ 4
    unfold confT
    rw [strOfNums_size, List.length_map]
    exact this.2
  · rw [if_neg h]
    show 0 ≤ 4
    omega
theorem conf_mod {l : List Int} (h : confB l = true) : l.map (· % 256) = l := by
  have := conf_rng h
  have e : l.map (· % 256) = l.map id := List.map_congr_left (fun x hx => by have := this x hx; show x % 256 = x; omega)
  rw [e, List.map_id]
theorem conf_back {l : List Int} (h : confB l = true) : bytesOf (confT l) = l := by
  unfold confT
  rw [conf_mod h, bl_str]
  intro x hx
  have := conf_rng h x hx
  omega
theorem spec_ct_loop (l : List Int) (hl : l.length ≤ 2000000) : ∀ (d j : Nat), l.length - j = d → j ≤ l.length → Ev (fun k => spec_ConfText.l0 k l ((l.map (· % 256)).take j) (j : Int)) (confT l, true) := by
  intro d
  induction d with
  | zero =>
    intro j hd hj
    rw [List.take_of_length_le (by rw [List.length_map]; omega)]
    exact Ev.step (f := fun _ => some (strOfNums (l.map (· % 256)), true)) (fun k => by simp only [spec_ConfText.l0]; rw [if_neg (by omega)]) (Ev.now _)
  | succ d ih =>
    intro j hd hj
    have hjl : j < l.length := by omega
    have hm : j < (l.map (· % 256)).length := by rw [List.length_map]; exact hjl
    have e : rd l (j : Int) % 256 = (l.map (· % 256))[j] := by
      rw [List.getElem_map]
      unfold rd
      simp [List.getD_eq_getElem?_getD, List.getElem?_eq_getElem hjl]
    refine Ev.step (fun k => by simp only [spec_ConfText.l0]; rw [if_pos (by omega), if_pos (by omega), if_pos (by rw [List.length_take, List.length_map]; omega), e, List.take_append_getElem hm, w64 (x := (j : Int) + 1) (by omega) (by omega)]) ?_
    exact ih (j + 1) (by omega) (by omega)
theorem spec_conftext (l : List Int) (hl : l.length ≤ 2000000) : Ev (fun k => spec_ConfText.f k l) (confO l) := by
  unfold spec_ConfText.f
  refine Ev.bind (spec_conf l hl) ?_
  unfold confO
  by_cases h : confB l = true
  · simp only [if_pos h]
    have := spec_ct_loop l hl l.length 0 (by omega) (by omega)
    rw [List.take_zero] at this
    exact this
  · simp only [if_neg h]
    exact Ev.now _
theorem impl_conftext (l : List Int) (hl : l.length ≤ 2000000) : Ev (fun k => impl_ConfText.f k l) (confO l) := by
  unfold impl_ConfText.f
  refine Ev.bind (impl_conf l hl) ?_
  unfold confO
  by_cases h : confB l = true
  · simp only [if_pos h]
    exact Ev.bind ⟨l.length + 1, fun k hk => bytes_ok l hl k (by omega)⟩ (Ev.now _)
  · simp only [if_neg h]
    exact Ev.now _

/-! ### cmdspec -/
theorem toList_size {s : ByteArray} (h : s.toList = ([] : List UInt8)) : s.size = 0 := by
  have h1 := toList_nil.1 h
  have h2 := bytesOf_length s
  rw [h1] at h2
  simpa using h2.symm
theorem commandOk_rng (o t q : Int) (key val : ByteArray) (v : Int) (k : Nat) (h : spec_CommandOk.f (k + 2) o t q key val v = some true) : (0 ≤ t ∧ t ≤ 1000000) ∧ (0 ≤ q ∧ q ≤ 1000000) ∧ (0 ≤ v ∧ v ≤ 1000000000) ∧ (1 ≤ o ∧ o ≤ 5) ∧ key.size ≤ 8 ∧ val.size ≤ 20 := by
  unfold spec_CommandOk.f at h
  simp only [in_eq, Option.bind_some, spec_CommandOk.j0, spec_CommandOk.j1] at h
  cases ht : rng t 0 1000000 with
  | false => simp [ht] at h
  | true =>
    cases hq : rng q 0 1000000 with
    | false => simp [ht, hq] at h
    | true =>
      cases ho : rng o 1 5 with
      | false => simp [ht, hq, ho] at h
      | true =>
        refine ⟨rng_iff.1 ht, rng_iff.1 hq, ?_⟩
        simp only [ht, hq, ho, if_true, Bool.not_true, Bool.false_eq_true, if_false] at h
        by_cases h1 : o = 1
        · subst h1
          by_cases c : key.toList = []
          · by_cases d : val.toList = []
            · by_cases hv : v = 0
              · have := toList_size c
                have := toList_size d
                exact ⟨by omega, by omega, by omega, by omega⟩
              · exfalso
                revert h
                by_cases h7 : t = 0 <;> by_cases h8 : q = 0 <;> simp [h7, h8, hv, c, d]
            · simp [c, d] at h
          · simp [c] at h
        · simp only [if_neg h1] at h
          cases hk : rng (key.size : Int) 1 8 with
          | false => simp [hk] at h
          | true =>
            have hk' := rng_iff.1 hk
            simp only [hk, if_true, decide_eq_true_eq] at h
            by_cases hv20 : (val.size : Int) > 20
            · simp [hv20] at h
            · simp only [if_neg hv20] at h
              refine ⟨?_, rng_iff.1 ho, by omega, by omega⟩
              by_cases h2 : o = 2
              · simp only [if_pos h2, Option.some.injEq, beq_iff_eq] at h
                omega
              · by_cases h5 : o = 5
                · simp only [if_neg h2, if_pos h5, Option.some.injEq] at h
                  have := rng_iff.1 h
                  omega
                · by_cases d : val.toList = []
                  · simp only [if_neg h2, if_neg h5, if_pos d, Option.some.injEq, beq_iff_eq] at h
                    omega
                  · simp [h2, h5, d] at h
def cmdT (o t q : Int) (key val : ByteArray) (v : Int) : ByteArray := strOfNums [o % 256] ++ varT t ++ varT q ++ shortT key ++ shortT val ++ varT v
theorem spec_cmd_k (o t q : Int) (key val : ByteArray) (v : Int) (k : Nat) : spec_CommandOk.f (k + 3) o t q key val v = spec_CommandOk.f (0 + 3) o t q key val v := by
  unfold spec_CommandOk.f
  simp only [spec_CommandOk.j0, spec_CommandOk.j1]
theorem spec_cmd_ev (o t q : Int) (key val : ByteArray) (v : Int) : ∃ b, Ev (fun k => spec_CommandOk.f k o t q key val v) b ∧ (b = true → (0 ≤ t ∧ t ≤ 1000000) ∧ (0 ≤ q ∧ q ≤ 1000000) ∧ (0 ≤ v ∧ v ≤ 1000000000) ∧ (1 ≤ o ∧ o ≤ 5) ∧ key.size ≤ 8 ∧ val.size ≤ 20) := by
  have ht : (spec_CommandOk.f (0 + 3) o t q key val v).isSome = true := by
    unfold spec_CommandOk.f
    simp only [in_eq, Option.bind_some, spec_CommandOk.j0, spec_CommandOk.j1]
    repeat' split
    all_goals rfl
  obtain ⟨b, hb⟩ := Option.isSome_iff_exists.1 ht
  refine ⟨b, ⟨3, fun k hk => ?_⟩, fun h => ?_⟩
  · obtain ⟨m, rfl⟩ : ∃ m, k = m + 3 := ⟨k - 3, by omega⟩
    show spec_CommandOk.f (m + 3) o t q key val v = some b
    rw [spec_cmd_k]
    exact hb
  · subst h
    exact commandOk_rng o t q key val v 1 hb
theorem spec_cmdtext (o t q : Int) (key val : ByteArray) (v : Int) {b : Bool} (f1 : Ev (fun k => spec_CommandOk.f k o t q key val v) b) (hb : b = true → (0 ≤ t ∧ t ≤ 1000000) ∧ (0 ≤ q ∧ q ≤ 1000000) ∧ (0 ≤ v ∧ v ≤ 1000000000) ∧ (1 ≤ o ∧ o ≤ 5) ∧ key.size ≤ 8 ∧ val.size ≤ 20) :
    Ev (fun k => spec_CommandText.f k o t q key val v) (if b = true then (cmdT o t q key val v, true) else ((⟨#[]⟩ : ByteArray), false)) := by
  unfold spec_CommandText.f
  refine Ev.bind f1 ?_
  cases b with
  | false =>
    simp only [Bool.false_eq_true, if_false]
    exact Ev.now _
  | true =>
    obtain ⟨ht, hq, hv, ho, hk, hl⟩ := hb rfl
    have h1 : (strOfNums [o % 256]).size = 1 := by rw [strOfNums_size]; rfl
    have h2 := varT_size t
    have h3 := varT_size q
    have h4 := shortT_size key
    have h5 := shortT_size val
    have h6 := varT_size v
    simp only [if_true, Option.bind_some]
    refine Ev.bind (spec_var t ht.1 (by omega)) ?_
    simp only [if_pos (show (strOfNums [o % 256]).size + (varT t).size ≤ 9223372036854775807 by omega)]
    refine Ev.bind (spec_var q hq.1 (by omega)) ?_
    simp only [if_pos (show (strOfNums [o % 256] ++ varT t).size + (varT q).size ≤ 9223372036854775807 by rw [ByteArray.size_append]; omega)]
    refine Ev.bind (spec_short key (by omega)) ?_
    simp only [if_pos (show (strOfNums [o % 256] ++ varT t ++ varT q).size + (shortT key).size ≤ 9223372036854775807 by rw [ByteArray.size_append, ByteArray.size_append]; omega)]
    refine Ev.bind (spec_short val (by omega)) ?_
    simp only [if_pos (show (strOfNums [o % 256] ++ varT t ++ varT q ++ shortT key).size + (shortT val).size ≤ 9223372036854775807 by rw [ByteArray.size_append, ByteArray.size_append, ByteArray.size_append]; omega)]
    refine Ev.bind (spec_var v hv.1 hv.2) ?_
    simp only [if_pos (show (strOfNums [o % 256] ++ varT t ++ varT q ++ shortT key ++ shortT val).size + (varT v).size ≤ 9223372036854775807 by rw [ByteArray.size_append, ByteArray.size_append, ByteArray.size_append, ByteArray.size_append]; omega)]
    exact Ev.now _

/-! ### entrydraw -/
theorem tIndex {b : List Int} {i : Int} (h : Int) (hb : b.length ≤ 1048576) (hi : Cur b i) : Tot (fun _ => spec_l05Index.f b i h) (fun r => Cur b r.2.1) := by
  unfold spec_l05Index.f
  refine Tot.bind (tOnce h 12 hb hi) fun r hr => ?_
  by_cases h1 : r.1 = true
  · simp only [if_pos h1]
    refine Tot.bind (tPick _ _ hb hr (by simp)) fun q hq => ?_
    exact Tot.ret _ hq.2
  · simp only [if_neg h1]
    refine Tot.bind (tBelow _ 200 hb hr) fun q hq => ?_
    exact Tot.ret _ hq.2
theorem tConf_loop {b : List Int} (hb : b.length ≤ 1048576) : ∀ (d : Nat) (l : List Int) (x i h : Int), 5 - x = d → x ≤ 5 → 1 ≤ x → (l.length : Int) ≤ x → Cur b i → Tot (fun k => spec_l05Conf.l0 k l x b i h) (fun r => r.1.length ≤ 5 ∧ Cur b r.2.1) := by
  intro d
  induction d with
  | zero =>
    intro l x i h hd h5 h1 hl hi
    refine Tot.step (fun k => rfl) ?_
    simp only [spec_l05Conf.l0, if_neg (show ¬ x ≤ 4 by omega)]
    by_cases h0 : (l.length : Int) = 0
    · simp only [if_pos h0, if_pos (show l.length < 17592186044416 by omega)]
      exact Tot.ret _ ⟨by show (l ++ [1]).length ≤ 5; rw [List.length_append, List.length_singleton]; omega, hi⟩
    · simp only [if_neg h0]
      exact Tot.ret _ ⟨by show l.length ≤ 5; omega, hi⟩
  | succ d ih =>
    intro l x i h hd h5 h1 hl hi
    refine Tot.step (fun k => rfl) ?_
    simp only [spec_l05Conf.l0, if_pos (show x ≤ 4 by omega)]
    refine Tot.bind (tOnce h 2 hb hi) fun r hr => ?_
    by_cases hr1 : r.1 = true
    · simp only [if_pos hr1, if_pos (show l.length < 17592186044416 by omega), w64 (x := x + 1) (by omega) (by omega)]
      exact ih _ _ _ _ (by omega) (by omega) (by omega) (by rw [List.length_append, List.length_singleton]; omega) hr
    · simp only [if_neg hr1, w64 (x := x + 1) (by omega) (by omega)]
      exact ih _ _ _ _ (by omega) (by omega) (by omega) (by omega) hr
theorem tConf {b : List Int} {i : Int} (h : Int) (hb : b.length ≤ 1048576) (hi : Cur b i) : Tot (fun k => spec_l05Conf.f k b i h) (fun r => r.1.length ≤ 5 ∧ Cur b r.2.1) :=
  tConf_loop hb 4 [] 1 i h (by omega) (by omega) (by omega) (by simp) hi
theorem tAnyConf {b : List Int} {i : Int} (h : Int) (hb : b.length ≤ 1048576) (hi : Cur b i) : Tot (fun k => spec_l05AnyConf.f k b i h) (fun r => r.1.length ≤ 6) := by
  unfold spec_l05AnyConf.f
  refine Tot.bind (tConf h hb hi) fun r hr => ?_
  refine Tot.bind (tBelow _ 12 hb hr.2) fun q hq => ?_
  have hl := hr.1
  by_cases h0 : q.1 = 0
  · simp only [if_pos h0]
    refine Tot.bind (tPick _ _ hb hq.2 (by simp)) fun u hu => ?_
    simp only [if_pos (show r.1.length < 17592186044416 by omega)]
    exact Tot.ret _ (by show (r.1 ++ [u.1]).length ≤ 6; rw [List.length_append, List.length_singleton]; omega)
  · simp only [if_neg h0]
    by_cases h1 : q.1 = 1
    · simp only [if_pos h1]
      exact Tot.ret _ (by show 0 ≤ 6; omega)
    · simp only [if_neg h1]
      exact Tot.ret _ (by show r.1.length ≤ 6; omega)
theorem item_tot (a : List S101) (l : List S104) (s : ByteArray) (hl : l.length ≤ 1048576) : ∀ (d j : Nat), l.length - j = d → j ≤ l.length → Tot (fun k => spec_ItemOf.l0 k s (j : Int) a l) (fun _ => True) := by
  intro d
  induction d with
  | zero =>
    intro j hd hj
    refine Tot.step (fun k => rfl) ?_
    simp only [spec_ItemOf.l0, if_neg (show ¬ (j : Int) < (l.length : Int) by omega)]
    exact Tot.ret _ trivial
  | succ d ih =>
    intro j hd hj
    refine Tot.step (fun k => rfl) ?_
    simp only [spec_ItemOf.l0, if_pos (show (j : Int) < (l.length : Int) by omega), if_pos (show (0 : Int) ≤ (j : Int) by omega), w64 (x := (j : Int) + 1) (by omega) (by omega)]
    by_cases h : (rd_T104 l (j : Int)).f0.toList = s.toList
    · simp only [if_pos h]
      exact Tot.ret _ trivial
    · simp only [if_neg h]
      exact ih (j + 1) (by omega) (by omega)
theorem tOf1 {b : List Int} {i : Int} (h : Int) (hb : b.length ≤ 1048576) (hi : Cur b i) (q : Bool) (o t s : Int) (k1 k2 : ByteArray) (v : Int) (y1 y2 : ByteArray) (y3 : Int) : Tot (fun k => spec_l15Of.j1 k q b i h o t s k1 k2 v y1 y2 y3) (fun r => Cur b r.2.2.2.2.2.2.1) := by
  refine Tot.step (fun k => rfl) ?_
  simp only [spec_l15Of.j1]
  by_cases h5 : o = 5
  · simp only [if_pos h5]
    refine Tot.bind (tBelow h 20 hb hi) fun r hr => ?_
    by_cases hq : q = true
    · simp only [if_pos hq]
      refine Tot.bind (tOnce _ 3 hb hr.2) fun u hu => ?_
      by_cases hu1 : u.1 = true
      · simp only [if_pos hu1]; exact Tot.ret _ hu
      · simp only [if_neg hu1]; exact Tot.ret _ hu
    · simp only [if_neg hq]
      exact Tot.ret _ hr.2
  · simp only [if_neg h5]
    exact Tot.ret _ hi
theorem tOf0 {b : List Int} {i : Int} (h : Int) (hb : b.length ≤ 1048576) (hi : Cur b i) (q w : Bool) (o t s : Int) (k1 k2 : ByteArray) (v : Int) (y1 y2 : ByteArray) (y3 : Int) : Tot (fun k => spec_l15Of.j0 k q w b i h o t s k1 k2 v y1 y2 y3) (fun r => Cur b r.2.2.2.2.2.2.1) := by
  refine Tot.step (fun k => rfl) ?_
  simp only [spec_l15Of.j0]
  by_cases hw : w = true
  · simp only [if_pos hw]
    refine Tot.bind (tPickT _ _ hb hi (by simp)) fun u hu => ?_
    exact tOf1 _ hb hu.2 _ _ _ _ _ _ _ _ _ _
  · simp only [if_neg hw]
    exact tOf1 _ hb hi _ _ _ _ _ _ _ _ _ _
theorem tOf {b : List Int} {i : Int} (h : Int) (hb : b.length ≤ 1048576) (hi : Cur b i) (x : List S101) (y : List S104) (hy : y.length ≤ 1048576) : Tot (fun k => spec_l15Of.f k b i h x y) (fun r => Cur b r.2.2.2.2.2.2.1) := by
  unfold spec_l15Of.f
  refine Tot.bind (tPick h _ hb hi (by simp)) fun r hr => ?_
  refine Tot.bind (tPickT _ _ hb hr.2 (by simp)) fun u hu => ?_
  refine Tot.bind (P := fun _ => True) (show Tot (fun k => spec_ItemOf.f k x y u.1) _ from item_tot x y u.1 hy y.length 0 (by omega) (by omega)) fun v _ => ?_
  by_cases h2 : r.1 = 2
  · simp only [if_pos h2]
    exact tOf0 _ hb hu.2 _ _ _ _ _ _ _ _ _ _ _
  · simp only [if_neg h2]
    exact tOf0 _ hb hu.2 _ _ _ _ _ _ _ _ _ _ _
theorem tCmd1 {b : List Int} {i : Int} (h : Int) (hb : b.length ≤ 1048576) (hi : Cur b i) (o t s : Int) (k1 k2 : ByteArray) (v y1 y2 : Int) (y3 : ByteArray) : Tot (fun k => spec_l15Command.j1 k b i h o t s k1 k2 v y1 y2 y3) (fun r => Cur b r.2.2.2.2.2.2.1) := by
  refine Tot.step (fun k => rfl) ?_
  simp only [spec_l15Command.j1]
  refine Tot.bind (tBelow h 16 hb hi) fun r hr => ?_
  by_cases h0 : r.1 = 0
  · simp only [if_pos h0]; exact Tot.ret _ hr.2
  · by_cases h1 : r.1 = 1
    · simp only [if_neg h0, if_pos h1]
      refine Tot.bind (tBelow _ 4 hb hr.2) fun u hu => ?_
      exact Tot.ret _ hu.2
    · by_cases h2 : r.1 = 2
      · simp only [if_neg h0, if_neg h1, if_pos h2]
        refine Tot.bind (tBelow _ 9 hb hr.2) fun u hu => ?_
        exact Tot.ret _ hu.2
      · simp only [if_neg h0, if_neg h1, if_neg h2]; exact Tot.ret _ hr.2
theorem tCmd {b : List Int} {i : Int} (h : Int) (hb : b.length ≤ 1048576) (hi : Cur b i) (x : List S101) (y : List S104) (hx : 0 < x.length ∧ x.length ≤ 1048576) (hy : y.length ≤ 1048576) : Tot (fun k => spec_l15Command.f k b i h x y) (fun r => Cur b r.2.2.2.2.2.2.1) := by
  unfold spec_l15Command.f
  simp only [if_neg (show ¬ (x.length : Int) = 0 by omega)]
  refine Tot.bind (tOnce h 16 hb hi) fun r hr => ?_
  refine Tot.step (fun k => rfl) ?_
  simp only [spec_l15Command.j0]
  by_cases hr1 : r.1 = true
  · simp only [if_pos hr1]
    exact Tot.ret _ hr
  · simp only [if_neg hr1]
    refine Tot.bind (tOf _ hb hr x y hy) fun u hu => ?_
    simp only [w64 (x := (x.length : Int) - 1) (by omega) (by omega), if_pos (show (0 : Int) ≤ (x.length : Int) - 1 by omega), if_pos (show (x.length : Int) - 1 < (x.length : Int) by omega)]
    refine Tot.bind (tOnce _ 4 hb hu) fun v hv => ?_
    by_cases hv1 : v.1 = true
    · simp only [if_pos hv1]
      refine Tot.bind (tBelow _ (x.length : Int) hb hv) fun w hw => ?_
      have hw1 := hw.1.2.1 (by omega)
      simp only [if_pos hw.1.1, if_pos hw1]
      exact tCmd1 _ hb hw.2 _ _ _ _ _ _ _ _ _
    · simp only [if_neg hv1]
      exact tCmd1 _ hb hv _ _ _ _ _ _ _ _ _
theorem tRight16 {b : List Int} {i : Int} (h : Int) (hb : b.length ≤ 1048576) (hi : Cur b i) : Tot (fun k => spec_l16Right.f k b i h) (fun r => Cur b r.2.2.2.2.2.2.1) := by
  unfold spec_l16Right.f spec_KeepNew.f
  simp only [Option.bind_some]
  refine Tot.bind (tBelow h 5 hb hi) fun r hr => ?_
  refine Tot.bind (tBelow _ 4 hb hr.2) fun q hq => ?_
  refine Tot.bind (tCmd _ hb hq.2 _ _ ⟨by simp, by simp⟩ (by simp)) fun u hu => ?_
  obtain ⟨c, hc, _⟩ := spec_cmd_ev u.1 u.2.1 u.2.2.1 u.2.2.2.1 u.2.2.2.2.1 u.2.2.2.2.2.1
  refine Tot.bind (P := fun _ => True) ⟨c, hc, trivial⟩ fun v _ => ?_
  by_cases hv : v = true
  · simp only [if_pos hv]; exact Tot.ret _ hu
  · simp only [if_neg hv]; exact Tot.ret _ hu
theorem tCmdText (o t q : Int) (key val : ByteArray) (v : Int) : Tot (fun k => spec_CommandText.f k o t q key val v) (fun r => r.1.size ≤ 1000) := by
  obtain ⟨c, hc, hb⟩ := spec_cmd_ev o t q key val v
  refine ⟨_, spec_cmdtext o t q key val v hc hb, ?_⟩
  cases c with
  | false => simp only [Bool.false_eq_true, if_false]; show 0 ≤ 1000; omega
  | true =>
    obtain ⟨_, _, _, _, hk, hl⟩ := hb rfl
    simp only [if_true]
    unfold cmdT
    have h1 : (strOfNums [o % 256]).size = 1 := by rw [strOfNums_size]; rfl
    have h2 := varT_size t
    have h3 := varT_size q
    have h4 := shortT_size key
    have h5 := shortT_size val
    have h6 := varT_size v
    simp only [ByteArray.size_append]
    omega
theorem tRight05 {b : List Int} {i : Int} (h t : Int) (hb : b.length ≤ 1048576) (hi : Cur b i) : Tot (fun k => spec_l05Right.f k b i h t) (fun r => r.2.2.1.size ≤ 1000 ∧ Cur b r.2.2.2.1) := by
  unfold spec_l05Right.f
  refine Tot.bind (tPick h _ hb hi (by simp)) fun r hr => ?_
  by_cases h2 : r.1 = 2
  · simp only [if_pos h2]
    refine Tot.bind (tConf _ hb hr.2) fun q hq => ?_
    refine Tot.bind (P := fun r => r.1.size ≤ 1000) ⟨_, spec_conftext q.1 (by have := hq.1; omega), by have := confO_size q.1; omega⟩ fun u hu => ?_
    exact Tot.ret _ ⟨hu, hq.2⟩
  · by_cases h3 : r.1 = 3
    · simp only [if_neg h2, if_pos h3]
      refine Tot.bind (tRight16 _ hb hr.2) fun q hq => ?_
      refine Tot.bind (tCmdText _ _ _ _ _ _) fun u hu => ?_
      exact Tot.ret _ ⟨hu, hq⟩
    · simp only [if_neg h2, if_neg h3]
      exact Tot.ret _ ⟨by show 0 ≤ 1000; omega, hr.2⟩
theorem tAny05 {b : List Int} {i : Int} (h : Int) (hb : b.length ≤ 1048576) (hi : Cur b i) : Tot (fun k => spec_l05Any.f k b i h) (fun r => r.2.2.1.size ≤ 1000 ∧ Cur b r.2.2.2.1) := by
  unfold spec_l05Any.f
  refine Tot.bind (tBelow h 9 hb hi) fun r hr => ?_
  refine Tot.bind (tRight05 _ _ hb hr.2) fun q hq => ?_
  refine Tot.bind (tBelow _ 30 hb hq.2) fun u hu => ?_
  by_cases h0 : u.1 = 0
  · simp only [if_pos h0]
    refine Tot.bind (tPick _ _ hb hu.2 (by simp)) fun v hv => ?_
    exact Tot.ret _ ⟨hq.1, hv.2⟩
  · by_cases h1 : u.1 = 1
    · simp only [if_neg h0, if_pos h1]
      refine Tot.bind (tPick _ _ hb hu.2 (by simp)) fun v hv => ?_
      exact Tot.ret _ ⟨hq.1, hv.2⟩
    · by_cases h2 : u.1 = 2
      · simp only [if_neg h0, if_neg h1, if_pos h2]
        refine Tot.bind (tBelow _ 2 hb hu.2) fun v hv => ?_
        have hv1 := hv.1.2.1 (by omega)
        have hv0 := hv.1.1
        rw [w64 (x := 120 + v.1) (by omega) (by omega)]
        refine Tot.bind (tLong (120 + v.1) 65 (by omega) (by omega)) fun w hw => ?_
        exact Tot.ret _ ⟨by show w.size ≤ 1000; omega, hv.2⟩
      · simp only [if_neg h0, if_neg h1, if_neg h2]
        exact Tot.ret _ ⟨hq.1, hu.2⟩

/-! ### most -/
theorem rd_get {l : List Int} {j : Nat} (h : j < l.length) : rd l (j : Int) = l[j] := by
  unfold rd
  simp [List.getD_eq_getElem?_getD, List.getElem?_eq_getElem h]
theorem index_ok (l : List Int) (x : Int) (hl : l.length ≤ 2000000) : ∀ (d j : Nat), l.length - j = d → j ≤ l.length → ∃ r : Int, Ev (fun k => slices_Index_int_int.l0 k l x (l.length : Int) (j : Int)) r ∧ (r ≥ 0 ↔ x ∈ l.drop j) := by
  intro d
  induction d with
  | zero =>
    intro j hd hj
    refine ⟨-1, Ev.step (f := fun _ => some (-1)) (fun k => by simp only [slices_Index_int_int.l0]; rw [if_neg (by omega)]) (Ev.now _), ?_⟩
    rw [List.drop_of_length_le (by omega)]
    simp
  | succ d ih =>
    intro j hd hj
    have hjl : j < l.length := by omega
    rw [List.drop_eq_getElem_cons hjl]
    by_cases h : x = l[j]
    · refine ⟨(j : Int), Ev.step (f := fun _ => some (j : Int)) (fun k => by simp only [slices_Index_int_int.l0]; rw [if_pos (by omega), if_pos (by omega), if_pos (by omega), rd_get hjl, if_pos h]) (Ev.now _), ?_⟩
      constructor
      · intro _; rw [h]; exact List.mem_cons_self
      · intro _; omega
    · obtain ⟨r, e, hr⟩ := ih (j + 1) (by omega) (by omega)
      refine ⟨r, Ev.step (fun k => by simp only [slices_Index_int_int.l0]; rw [if_pos (by omega), if_pos (by omega), if_pos (by omega), rd_get hjl, if_neg h, w64 (x := (j : Int) + 1) (by omega) (by omega)]; rfl) e, ?_⟩
      rw [hr, List.mem_cons]
      exact ⟨.inr, fun hh => hh.resolve_left h⟩
theorem contains_ok (l : List Int) (x : Int) (hl : l.length ≤ 2000000) : Ev (fun k => slices_Contains_int_int.f k l x) (decide (x ∈ l)) := by
  obtain ⟨r, e, hr⟩ := index_ok l x hl l.length 0 (by omega) (by omega)
  rw [List.drop_zero] at hr
  unfold slices_Contains_int_int.f
  refine Ev.bind (show Ev (fun k => slices_Index_int_int.f k l x) r from e) ?_
  rw [show decide (r ≥ 0) = decide (x ∈ l) from decide_eq_decide.2 hr]
  exact Ev.now _
def cntI (m : List Int) : List Int → Int
  | [] => 0
  | x :: l => (if x ∈ m then 1 else 0) + cntI m l
theorem cntI_rng (m : List Int) : ∀ l, 0 ≤ cntI m l ∧ cntI m l ≤ (l.length : Int) := by
  intro l
  induction l with
  | nil => simp [cntI]
  | cons x l ih =>
    simp only [cntI, List.length_cons]
    split <;> omega
theorem cntI_all {m : List Int} : ∀ l, (∀ x ∈ l, x ∈ m) → cntI m l = (l.length : Int) := by
  intro l
  induction l with
  | nil => intro _; rfl
  | cons x l ih =>
    intro h
    simp only [cntI, List.length_cons]
    rw [if_pos (h x List.mem_cons_self), ih (fun y hy => h y (List.mem_cons_of_mem _ hy))]
    omega
theorem cntI_none {m : List Int} : ∀ l, (∀ x ∈ l, x ∉ m) → cntI m l = 0 := by
  intro l
  induction l with
  | nil => intro _; rfl
  | cons x l ih =>
    intro h
    simp only [cntI]
    rw [if_neg (h x List.mem_cons_self), ih (fun y hy => h y (List.mem_cons_of_mem _ hy))]
    rfl
theorem most_loop (l m : List Int) (hl : l.length ≤ 1000000) (hm : m.length ≤ 2000000) : ∀ (d j : Nat) (n : Int), l.length - j = d → j ≤ l.length → 0 ≤ n → n ≤ (j : Int) → Ev (fun k => impl_Most.l0 k l m n l (l.length : Int) (j : Int)) (confB l && decide (2 * (n + cntI m (l.drop j)) > (l.length : Int))) := by
  intro d
  induction d with
  | zero =>
    intro j n hd hj h0 h1
    rw [List.drop_of_length_le (by omega)]
    simp only [cntI, Int.add_zero]
    refine Ev.step (fun k => by simp only [impl_Most.l0]; rw [if_neg (by omega)]) ?_
    refine Ev.bind (impl_conf l (by omega)) ?_
    rw [w64 (x := 2 * n) (by omega) (by omega)]
    cases confB l with
    | true => simp only [if_true, Bool.true_and]; exact Ev.now _
    | false => simp only [Bool.false_eq_true, if_false, Bool.false_and]; exact Ev.now _
  | succ d ih =>
    intro j n hd hj h0 h1
    have hjl : j < l.length := by omega
    rw [List.drop_eq_getElem_cons hjl]
    simp only [cntI]
    refine Ev.step (fun k => by simp only [impl_Most.l0]; rw [if_pos (by omega), if_pos (by omega), if_pos (by omega), rd_get hjl, w64 (x := (j : Int) + 1) (by omega) (by omega), w64 (x := n + 1) (by omega) (by omega)]) ?_
    refine Ev.bind (contains_ok m l[j] hm) ?_
    by_cases h : l[j] ∈ m
    · simp only [decide_eq_true h, if_true, if_pos h]
      have := ih (j + 1) (n + 1) (by omega) (by omega) (by omega) (by omega)
      rw [Int.add_assoc] at this
      exact this
    · simp only [decide_eq_false h, Bool.false_eq_true, if_false, if_neg h, Int.zero_add]
      exact ih (j + 1) n (by omega) (by omega) (by omega) (by omega)
theorem most_ok (l m : List Int) (hl : l.length ≤ 1000000) (hm : m.length ≤ 2000000) : Ev (fun k => impl_Most.f k l m) (confB l && decide (2 * cntI m l > (l.length : Int))) := by
  have := most_loop l m hl hm l.length 0 0 (by omega) (by omega) (by omega) (by omega)
  rw [List.drop_zero, Int.zero_add] at this
  exact this
theorem rise_first {l : List Int} (h : riseB l = true) : ∀ i, i + 1 < l.length → rd l 0 < rd l ((i + 1 : Nat) : Int) := by
  intro i
  induction i with
  | zero =>
    intro hi
    have := allF_all _ _ h 1 (by omega) (by omega)
    unfold pC at this
    simp only [Bool.and_eq_true, Bool.or_eq_true, Bool.not_eq_true', decide_eq_false_iff_not] at this
    obtain ⟨_, h2⟩ := this
    have e : ((1 : Nat) : Int) - 1 = 0 := by omega
    rw [e] at h2
    rcases h2 with h2 | h2
    · exact absurd (show ((1 : Nat) : Int) > 0 by omega) h2
    · show rd l 0 < rd l ((1 : Nat) : Int)
      omega
  | succ i ih =>
    intro hi
    have h0 := ih (by omega)
    have := allF_all _ _ h (i + 1 + 1) (by omega) (by omega)
    unfold pC at this
    simp only [Bool.and_eq_true, Bool.or_eq_true, Bool.not_eq_true', decide_eq_false_iff_not] at this
    obtain ⟨_, h2⟩ := this
    have e : ((i + 1 + 1 : Nat) : Int) - 1 = ((i + 1 : Nat) : Int) := by omega
    rw [e] at h2
    rcases h2 with h2 | h2
    · exact absurd (show ((i + 1 + 1 : Nat) : Int) > 0 by omega) h2
    · omega
theorem cnt_first {x : Int} {l : List Int} (h : confB (x :: l) = true) : cntI [x] (x :: l) = 1 := by
  unfold confB at h
  rw [Bool.and_eq_true] at h
  simp only [cntI]
  rw [if_pos (by simp), cntI_none l]
  · rfl
  · intro y hy
    obtain ⟨i, hi, rfl⟩ := List.mem_iff_getElem.1 hy
    have h1 := rise_first h.2 i (by rw [List.length_cons]; omega)
    have e0 : rd (x :: l) 0 = x := rfl
    have e1 : rd (x :: l) ((i + 1 : Nat) : Int) = l[i] := by rw [rd_get (by rw [List.length_cons]; omega)]; rfl
    rw [e0, e1] at h1
    simp only [List.mem_singleton]
    omega
theorem sameInts_ok (l : List Int) (hl : l.length ≤ 2000000) : Ev (fun k => laws_sameInts.f k l l) true := by
  have loop : ∀ (d j : Nat), l.length - j = d → j ≤ l.length → Ev (fun k => laws_sameInts.l0 k l l (j : Int)) true := by
    intro d
    induction d with
    | zero =>
      intro j hd hj
      exact Ev.step (f := fun _ => some true) (fun k => by simp only [laws_sameInts.l0]; rw [if_neg (by omega)]) (Ev.now _)
    | succ d ih =>
      intro j hd hj
      refine Ev.step (fun k => by simp only [laws_sameInts.l0]; rw [if_pos (by omega), if_pos (by omega), if_pos (by omega), if_pos trivial, w64 (x := (j : Int) + 1) (by omega) (by omega)]; rfl) (ih (j + 1) (by omega) (by omega))
  unfold laws_sameInts.f
  simp only [if_true]
  exact loop l.length 0 (by omega) (by omega)

/-! ### FnEntries -/
theorem entries_j1 (l : List Int) (hl : l.length ≤ 1000000) : Ev (fun k => laws_FnEntries.j1 k l (confB l) false) true := by
  refine Ev.step (fun k => by simp only [laws_FnEntries.j1, Bool.false_eq_true, if_false]; rfl) ?_
  cases hc : confB l with
  | false =>
    simp only [Bool.false_eq_true, if_false]
    exact Ev.now _
  | true =>
    have hn := conf_len hc
    simp only [if_true]
    refine Ev.bind (most_ok l l hl (by omega)) ?_
    rw [cntI_all l (fun x hx => hx), hc, Bool.true_and, show decide (2 * (l.length : Int) > (l.length : Int)) = true from decide_eq_true (by omega)]
    simp only [if_true]
    refine Ev.bind (most_ok l [] hl (by simp)) ?_
    rw [cntI_none l (fun x hx => by simp), hc, Bool.true_and, show decide (2 * (0 : Int) > (l.length : Int)) = false from decide_eq_false (by omega)]
    simp only [Bool.false_eq_true, if_false, if_pos (show (1 : Int) ≤ (l.length : Int) by omega)]
    refine Ev.bind (most_ok l (l.take 1) hl (by rw [List.length_take]; omega)) ?_
    have e : cntI (l.take 1) l = 1 := by
      cases l with
      | nil => simp at hn
      | cons x l => exact cnt_first hc
    rw [e, hc, Bool.true_and]
    have e2 : (decide (2 * (1 : Int) > (l.length : Int)) == ((l.length : Int) == 1)) = true := by
      by_cases h1 : (l.length : Int) = 1
      · rw [h1]; rfl
      · rw [beq_eq_false_iff_ne.2 h1, decide_eq_false (by omega)]; rfl
    rw [e2]
    exact Ev.now _
theorem entries_j0 (b : List Int) (hb : b.length ≤ 1048576) : Ev (fun k => laws_FnEntries.j0 k b false) true := by
  obtain ⟨h, hn⟩ := new_ok b
  obtain ⟨l, e1, hl⟩ : Tot (fun k => spec_DrawConfText.f k b) (fun r => r.length ≤ 6) := by
    unfold spec_DrawConfText.f
    refine Tot.bind (P := fun r => r = (b, 0, h)) ⟨_, hn, rfl⟩ fun r hr => ?_
    subst hr
    refine Tot.bind (tAnyConf h hb (cur_zero b)) fun r hr => ?_
    exact Tot.ret _ hr
  refine Ev.step (fun k => by simp only [laws_FnEntries.j0, Bool.false_eq_true, if_false]; rfl) ?_
  refine Ev.bind e1 ?_
  refine Ev.bind (impl_conftext l (by omega)) ?_
  have hsz := confO_size l
  refine Ev.bind (impl_readconf (confO l).1 (by omega)) ?_
  refine Ev.bind (spec_conf l (by omega)) ?_
  have hj := entries_j1 l (by omega)
  cases hc : confB l with
  | false =>
    rw [hc] at hj
    have e : confO l = ((⟨#[]⟩ : ByteArray), false) := by unfold confO; rw [hc]; rfl
    rw [e]
    simp only [bne_self_eq_false, Bool.false_eq_true, if_false]
    refine Ev.bind (impl_conf l (by omega)) ?_
    rw [hc]
    simp only [bne_self_eq_false]
    exact hj
  | true =>
    rw [hc] at hj
    have e : confO l = (confT l, true) := by unfold confO; rw [hc]; rfl
    have er : confR (confT l) = (l, true) := by unfold confR; rw [conf_back hc, if_pos hc]
    rw [e]
    simp only [bne_self_eq_false, Bool.false_eq_true, if_false, er, if_true]
    refine Ev.bind (sameInts_ok l (by omega)) ?_
    simp only [if_true]
    refine Ev.bind (impl_conf l (by omega)) ?_
    rw [hc]
    simp only [bne_self_eq_false]
    exact hj
theorem FnEntries : StFnEntries.Pure := by
  intro b
  intros
  by_cases hbig : (b.length : Int) > 1048576
  · exact ⟨0, by unfold laws_FnEntries.f; rw [big_eq]; simp [hbig]⟩
  · have hbl : b.length ≤ 1048576 := by omega
    obtain ⟨h, hn⟩ := new_ok b
    obtain ⟨⟨i, t, c, d⟩, e1, hs⟩ : Tot (fun k => spec_DrawEntryText.f k b) (fun r => r.2.2.2.size ≤ 1000) := by
      unfold spec_DrawEntryText.f
      refine Tot.bind (P := fun r => r = (b, 0, h)) ⟨_, hn, rfl⟩ fun r hr => ?_
      subst hr
      refine Tot.bind (tIndex h hbl (cur_zero b)) fun r hr => ?_
      refine Tot.bind (tAny05 _ hbl hr) fun q hq => ?_
      exact Tot.ret _ hq.1
    simp only at hs
    refine Ev.ex ?_ (r := true)
    unfold laws_FnEntries.f
    rw [big_eq]
    simp only [Option.bind_some, decide_eq_true_eq, if_neg hbig]
    refine Ev.bind e1 ?_
    refine Ev.bind (impl_enttext i t c d (by omega)) ?_
    refine Ev.bind (spec_enttext i t c d (by omega)) ?_
    have hj := entries_j0 b hbl
    by_cases he : (entB t c d && rng i 1 1000000) = true
    · have eo : entO i t c d = (entT i t c d, true) := by unfold entO; rw [if_pos he]
      rw [Bool.and_eq_true, rng_iff] at he
      rw [eo]
      refine Ev.bind (impl_readentry_back i t c d he.1 he.2) ?_
      simp only [bne_self_eq_false, Bool.false_eq_true, if_false, if_true, beq_self_eq_true, Bool.not_true, Bool.or_false]
      exact hj
    · have eo : entO i t c d = ((⟨#[]⟩ : ByteArray), false) := by unfold entO; rw [if_neg he]
      rw [eo]
      refine Ev.bind impl_readentry_empty ?_
      simp only [bne_self_eq_false, Bool.false_eq_true, if_false]
      exact hj

end Go.Proofs.Ythgjcijcmacpmaa.Pure
