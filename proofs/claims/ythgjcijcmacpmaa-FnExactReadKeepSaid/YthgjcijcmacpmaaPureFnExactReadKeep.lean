/- The pure statement of the law 'FnExactReadKeep', proved: over numbers, lists and texts alone. No condition. -/
import Derived.Test.YthgjcijcmacpmaaStFnExactReadKeep
import Derived.Laws.BitsLemmas
namespace Go.Proofs.Ythgjcijcmacpmaa.Pure
open Go.RowKit Go.Proofs.Ythgjcijcmacpmaa.QFnExactReadKeep Go.Proofs.YthgjcijcmacpmaaW.PrintWords Go.Proofs.YthgjcijcmacpmaaW.PrintLast Go.Proofs.YthgjcijcmacpmaaW.PrintMore Go.Proofs.Ythgjcijcmacpmaa.StFnExactReadKeep Go.Proofs.Ythgjcijcmacpmaa.Opens
set_option linter.unusedVariables false
set_option linter.unusedSimpArgs false

/-! ### base -/
theorem w64 {x : Int} (h0 : -9223372036854775808 ≤ x) (h1 : x ≤ 9223372036854775807) : wrap64 x = x := by unfold wrap64; omega
theorem w64_range (x : Int) : -9223372036854775808 ≤ wrap64 x ∧ wrap64 x ≤ 9223372036854775807 := by unfold wrap64; omega
theorem ip {α : Type} {c : Prop} [Decidable c] {a b : α} (h : c) : (if c then a else b) = a := if_pos h
theorem ineg {α : Type} {c : Prop} [Decidable c] {a b : α} (h : ¬ c) : (if c then a else b) = b := if_neg h
theorem wf_range {n : Int} (h : (Lit.int .i64 n).wf = true) : -9223372036854775808 ≤ n ∧ n ≤ 9223372036854775807 := by
  simp only [Lit.wf, IntKind.min, IntKind.max, IntKind.signed, IntKind.bits, Bool.and_eq_true, decide_eq_true_eq, if_true] at h
  omega
theorem wf_u8 {n : Int} (h : (Lit.int .u8 n).wf = true) : 0 ≤ n ∧ n ≤ 255 := by
  simp [Lit.wf, IntKind.min, IntKind.max, IntKind.signed, IntKind.bits] at h
  omega
theorem and_low (x : Int) (i : Nat) (hi : i ≤ 62) : Go.bits .and .i64 x (2 ^ i - 1) = x % 2 ^ i := by
  have hpos : 0 < 2 ^ i := Nat.two_pow_pos i
  have hc : ((2 : Int) ^ i - 1) = ((2 ^ i - 1 : Nat) : Int) := by rw [Int.natCast_sub hpos]; simp
  have h62 : 2 ^ i ≤ 2 ^ 62 := Nat.pow_le_pow_right (by decide) hi
  have hlt : 2 ^ i - 1 < 2 ^ 64 := by omega
  have hd : (2 ^ i : Nat) ∣ 2 ^ 64 := Nat.pow_dvd_pow 2 (by omega)
  rw [hc]
  simp only [Go.bits, BitVec.ofInt_natCast, BitVec.toNat_and, BitVec.toNat_ofNat, BitVec.toNat_ofInt]
  simp only [show IntKind.i64.bits = 64 from rfl]
  rw [Nat.mod_eq_of_lt hlt, Nat.and_two_pow_sub_one_eq_mod]
  have h1 : (((x % ((2 ^ 64 : Nat) : Int)).toNat % 2 ^ i : Nat) : Int) = x % 2 ^ i := by
    rw [Int.natCast_emod, Int.toNat_of_nonneg (Int.emod_nonneg _ (by decide))]
    rw [Int.natCast_pow]
    exact Int.emod_emod_of_dvd _ (by
      have : (((2 ^ i : Nat) : Int)) ∣ ((2 ^ 64 : Nat) : Int) := Int.natCast_dvd_natCast.2 hd
      simpa using this)
  rw [h1]
  have h2 : 0 ≤ x % 2 ^ i := Int.emod_nonneg _ (by
    have : (0 : Int) < 2 ^ i := by exact_mod_cast hpos
    omega)
  have h3 : x % 2 ^ i < 2 ^ i := Int.emod_lt_of_pos _ (by exact_mod_cast hpos)
  have h4 : (2 : Int) ^ i ≤ 2 ^ 62 := by exact_mod_cast h62
  rw [IntKind.wrap_i64]
  omega
theorem and255 (x : Int) : Go.bits .and .i64 x 255 = x % 256 := and_low x 8 (by omega)
theorem and65535 (x : Int) : Go.bits .and .i64 x 65535 = x % 65536 := and_low x 16 (by omega)
theorem and30 (x : Int) : Go.bits .and .i64 x 1073741823 = x % 1073741824 := and_low x 30 (by omega)
theorem and1 (x : Int) : Go.bits .and .i64 x 1 = x % 2 := and_low x 1 (by omega)
/-- A law's last step: both are one. -/
theorem same_end {v : Bool} : (if (v != v) = true then some false else some true : Option Bool) = some true := by simp
theorem Ev.ex {α : Type} {g : Nat → Option α} {r : α} (h : Ev g r) : ∃ k, g k = some r := h.rounds
theorem Ev.from_ {α : Type} {g : Nat → Option α} {r : α} (K : Nat) (h : ∀ k, K ≤ k → g k = some r) : Ev g r := ⟨K, h⟩
theorem Ev.both {α β : Type} {g : Nat → Option α} {f : Nat → Option β} {r : α} {q : β} (h : Ev g r) (h' : Ev f q) : ∃ K, ∀ k, K ≤ k → g k = some r ∧ f k = some q := by
  obtain ⟨K, h⟩ := h
  obtain ⟨K', h'⟩ := h'
  exact ⟨K + K', fun k hk => ⟨h k (by omega), h' k (by omega)⟩⟩

/-! ### in -/
def rng (a b c : Int) : Bool := decide (b ≤ a) && decide (a ≤ c)
theorem rng_iff {a b c : Int} : rng a b c = true ↔ b ≤ a ∧ a ≤ c := by simp [rng]
theorem rng_false {a b c : Int} : rng a b c = false ↔ ¬ (b ≤ a ∧ a ≤ c) := by rw [← rng_iff]; simp
theorem in_eq (a b c : Int) : spec_l01In.f a b c = some (rng a b c) := by
  unfold spec_l01In.f rng
  by_cases h : b ≤ a
  · rw [if_pos h]; simp [h]
  · rw [if_neg h]; simp [h]
theorem within_eq (a b c : Int) : impl_within.f a b c = some (rng a b c) := by
  unfold impl_within.f rng
  by_cases h : b ≤ a
  · rw [if_pos h]; simp [h]
  · rw [if_neg h]; simp [h]

/-! ### bl -/
theorem bl_inj {s t : ByteArray} (h : bytesOf s = bytesOf t) : s = t := by
  unfold bytesOf at h
  have h2 : s.data.toList = t.data.toList := by
    apply List.ext_getElem?
    intro i
    have h3 := congrArg (fun l => l[i]?) h
    simp only [List.getElem?_map] at h3
    cases h4 : s.data.toList[i]? <;> cases h5 : t.data.toList[i]? <;> rw [h4, h5] at h3 <;> simp at h3 ⊢
    exact UInt8.toNat_inj.1 (by omega)
  exact ByteArray.ext (by rw [← Array.toArray_toList (xs := s.data), h2])
theorem bl_app (s t : ByteArray) : bytesOf (s ++ t) = bytesOf s ++ bytesOf t := by
  unfold bytesOf
  rw [ByteArray.toList_data_append, List.map_append]
theorem bl_ext (s : ByteArray) (a b : Nat) : bytesOf (s.extract a b) = ((bytesOf s).drop a).take (b - a) := by
  unfold bytesOf
  rw [ByteArray.data_extract, Array.toList_extract, ← List.map_drop, ← List.map_take] <;> simp [List.extract_eq_drop_take]
theorem bl_range {s : ByteArray} : ∀ x ∈ bytesOf s, 0 ≤ x ∧ x ≤ 255 := by
  intro x hx
  obtain ⟨b, _, rfl⟩ := List.mem_map.1 hx
  have := b.toNat_lt
  omega
theorem bl_str {l : List Int} (h : ∀ x ∈ l, 0 ≤ x ∧ x ≤ 255) : bytesOf (strOfNums l) = l := by
  unfold bytesOf
  rw [strOfNums_data, List.map_map]
  have : ∀ x ∈ l, ((fun b : UInt8 => (b.toNat : Int)) ∘ fun n : Int => UInt8.ofNat n.toNat) x = x := by
    intro x hx
    have := h x hx
    simp only [Function.comp, UInt8.toNat_ofNat']
    omega
  rw [List.map_congr_left this, List.map_id']
theorem str_bl (s : ByteArray) : strOfNums (bytesOf s) = s := bl_inj (bl_str bl_range)
theorem bl_empty : bytesOf (⟨#[]⟩ : ByteArray) = [] := rfl
theorem bt_bl (s : ByteArray) (i : Int) : bt s i = rd (bytesOf s) i := (rd_bytesOf s i).symm
theorem toList_iff {s t : ByteArray} : s.toList = t.toList ↔ s = t := by
  rw [ByteArray.toList_eq, ByteArray.toList_eq]
  constructor
  · intro h; exact ByteArray.ext (by rw [← Array.toArray_toList (xs := s.data), h])
  · intro h; rw [h]
theorem toList_nil {s : ByteArray} : s.toList = ([] : List UInt8) ↔ bytesOf s = [] := by
  rw [ByteArray.toList_eq]
  unfold bytesOf
  simp

/-! ### var -/
def varL : Nat → Int → List Int
  | 0, x => [x % 256]
  | d + 1, x => if x > 127 then (x % 128 + 128) % 256 :: varL d (x / 128) else [x % 256]
theorem varL_length : ∀ d x, (varL d x).length ≤ d + 1 := by
  intro d
  induction d with
  | zero => intro x; simp [varL]
  | succ d ih =>
    intro x
    unfold varL
    split
    · have := ih (x / 128); simp only [List.length_cons]; omega
    · simp
def varT (x : Int) : ByteArray := strOfNums (varL 8 x)
theorem varT_size (x : Int) : (varT x).size ≤ 9 := by
  unfold varT
  rw [strOfNums_size]
  exact varL_length 8 x
theorem spec_var_loop : ∀ (d : Nat) (x : Int) (acc : List Int), 0 ≤ x → x < 128 ^ (d + 1) → x ≤ 9223372036854775807 → acc.length + d ≤ 1000 → ∀ k, d < k → spec_l01Var.l0 k x acc = some (strOfNums (acc ++ varL d x)) := by
  intro d
  induction d with
  | zero =>
    intro x acc h0 h1 h2 h3 k hk
    obtain ⟨k, rfl⟩ : ∃ m, k = m + 1 := ⟨k - 1, by omega⟩
    simp only [spec_l01Var.l0, varL]
    rw [if_neg (by omega), if_pos (by omega)]
  | succ d ih =>
    intro x acc h0 h1 h2 h3 k hk
    obtain ⟨k, rfl⟩ : ∃ m, k = m + 1 := ⟨k - 1, by omega⟩
    simp only [spec_l01Var.l0, varL]
    by_cases hx : x > 127
    · have hp : (128 : Int) ^ (d + 1 + 1) = 128 ^ (d + 1) * 128 := Int.pow_succ 128 (d + 1)
      rw [if_pos hx, if_pos (by omega), if_pos hx, Int.tdiv_eq_ediv_of_nonneg h0, Int.tmod_eq_emod_of_nonneg h0, w64 (x := x / 128) (by omega) (by omega), w64 (x := x % 128 + 128) (by omega) (by omega)]
      rw [ih (x / 128) (acc ++ [(x % 128 + 128) % 256]) (by omega) (by omega) (by omega) (by rw [List.length_append, List.length_singleton]; omega) k (by omega), List.append_assoc]
      rfl
    · rw [if_neg hx, if_pos (by omega), if_neg hx]
theorem spec_var (x : Int) (h0 : 0 ≤ x) (h1 : x ≤ 1000000000) : Ev (fun k => spec_l01Var.f k x) (varT x) := ⟨9, fun k hk => by
  exact spec_var_loop 8 x [] h0 (by omega) (by omega) (by simp) k (by omega)⟩
def shortT (s : ByteArray) : ByteArray := varT (s.size : Int) ++ s
theorem shortT_size (s : ByteArray) : (shortT s).size ≤ s.size + 9 := by
  have := varT_size (s.size : Int)
  unfold shortT
  rw [ByteArray.size_append]
  omega
theorem spec_short (s : ByteArray) (hs : s.size ≤ 1000000000) : Ev (fun k => spec_l16Short.f k s) (shortT s) := by
  unfold spec_l16Short.f
  refine Ev.bind (spec_var (s.size : Int) (by omega) (by omega)) ?_
  have := varT_size (s.size : Int)
  simp only [if_pos (show (varT (s.size : Int)).size + s.size ≤ 9223372036854775807 by omega)]
  exact Ev.now _
def catB {α : Type} (f : α → ByteArray) : List α → ByteArray
  | [] => (⟨#[]⟩ : ByteArray)
  | x :: l => f x ++ catB f l
theorem app_empty (s : ByteArray) : s ++ (⟨#[]⟩ : ByteArray) = s := bl_inj (by rw [bl_app, bl_empty, List.append_nil])
theorem empty_app (s : ByteArray) : (⟨#[]⟩ : ByteArray) ++ s = s := bl_inj (by rw [bl_app, bl_empty, List.nil_append])

/-! ### all -/
def allF (p : Nat → Bool) (j : Nat) : Nat → Bool
  | 0 => true
  | d + 1 => p j && allF p (j + 1) d
/-- A loop that asks the same of each place, one after the other, and then something more. -/
theorem all_ev {F : Nat → Nat → Option Bool} {n : Nat} {p : Nat → Bool} {R : Bool}
    (hs : ∀ j, j < n → (p j = true → ∀ r, Ev (fun k => F k (j + 1)) r → Ev (fun k => F k j) r) ∧ (p j = false → Ev (fun k => F k j) false))
    (he : Ev (fun k => F k n) R) : ∀ d j, n - j = d → j ≤ n → Ev (fun k => F k j) (allF p j d && R) := by
  intro d
  induction d with
  | zero =>
    intro j hd hj
    obtain rfl : j = n := by omega
    simpa [allF] using he
  | succ d ih =>
    intro j hd hj
    have h := hs j (by omega)
    cases hp : p j with
    | true =>
      have := ih (j + 1) (by omega) (by omega)
      simp only [allF, hp, Bool.true_and]
      exact h.1 hp _ this
    | false =>
      simp only [allF, hp, Bool.false_and]
      exact h.2 hp
theorem Ev.here {α : Type} {F f : Nat → Option α} {r : α} (hs : ∀ k, F (k + 1) = f k) (h : ∀ k, f k = some r) : Ev F r := Ev.step hs ⟨0, fun k _ => h k⟩

/-! ### readvar -/
def valW : List Int → Int
  | [] => 0
  | x :: l => x % 128 + 128 * valW l
theorem valW_nn : ∀ l, 0 ≤ valW l := by
  intro l
  induction l with
  | nil => simp [valW]
  | cons x l ih => simp only [valW]; omega
theorem valW_lt : ∀ l : List Int, valW l < 128 ^ l.length := by
  intro l
  induction l with
  | nil => simp [valW]
  | cons x l ih =>
    simp only [valW, List.length_cons]
    have : (128 : Int) ^ (l.length + 1) = 128 ^ l.length * 128 := Int.pow_succ 128 l.length
    omega
theorem valW_app (l : List Int) (c : Int) : valW (l ++ [c]) = valW l + (c % 128) * 128 ^ l.length := by
  induction l with
  | nil => simp [valW]
  | cons x l ih =>
    simp only [List.cons_append, valW, ih, List.length_cons]
    have h1 : (128 : Int) ^ (l.length + 1) = 128 ^ l.length * 128 := Int.pow_succ 128 l.length
    have h2 : 128 * (c % 128 * 128 ^ l.length) = c % 128 * (128 ^ l.length * 128) := by rw [Int.mul_comm 128, Int.mul_assoc]
    rw [h1, Int.mul_add, h2]
    omega
theorem valW_pos (l : List Int) (c : Int) (h0 : 0 ≤ c) (h1 : c ≤ 127) (hc : c ≠ 0) : 1 ≤ valW (l ++ [c]) := by
  induction l with
  | nil => simp only [List.nil_append, valW]; omega
  | cons x l ih => simp only [List.cons_append, valW]; omega
theorem varL_range : ∀ d x, ∀ y ∈ varL d x, 0 ≤ y ∧ y ≤ 255 := by
  intro d
  induction d with
  | zero => intro x y hy; simp only [varL, List.mem_singleton] at hy; omega
  | succ d ih =>
    intro x y hy
    unfold varL at hy
    split at hy
    · rcases List.mem_cons.1 hy with h | h
      · omega
      · exact ih _ y h
    · simp only [List.mem_singleton] at hy; omega
theorem varL_of : ∀ (pre : List Int) (c : Int) (d : Nat), (∀ x ∈ pre, 128 ≤ x ∧ x ≤ 255) → 0 ≤ c → c ≤ 127 → pre.length ≤ d → (pre = [] ∨ c ≠ 0) → varL d (valW (pre ++ [c])) = pre ++ [c] := by
  intro pre
  induction pre with
  | nil =>
    intro c d _ h0 h1 _ _
    have e : valW ([] ++ [c]) = c := by simp only [List.nil_append, valW]; omega
    rw [e]
    cases d with
    | zero => simp only [varL, List.nil_append]; congr 1; omega
    | succ d => simp only [varL, List.nil_append]; rw [if_neg (by omega)]; congr 1; omega
  | cons x l ih =>
    intro c d hp h0 h1 hl hc
    have hc : c ≠ 0 := by
      rcases hc with h | h
      · cases h
      · exact h
    obtain ⟨d, rfl⟩ : ∃ m, d = m + 1 := ⟨d - 1, by simp at hl; omega⟩
    have hx := hp x List.mem_cons_self
    have hw := valW_pos l c h0 h1 hc
    simp only [List.cons_append, valW, varL]
    rw [if_pos (by omega), show (x % 128 + 128 * valW (l ++ [c])) / 128 = valW (l ++ [c]) by omega, ih c d (fun y hy => hp y (List.mem_cons_of_mem _ hy)) h0 h1 (by simp at hl; omega) (.inr hc)]
    congr 1
    omega
theorem varL_not : ∀ (pre : List Int) (d : Nat), (∀ x ∈ pre, 128 ≤ x ∧ x ≤ 255) → pre ≠ [] → varL d (valW (pre ++ [0])) ≠ pre ++ [0] := by
  intro pre
  induction pre with
  | nil => intro d _ h; exact absurd rfl h
  | cons x l ih =>
    intro d hp _ he
    have hx := hp x List.mem_cons_self
    have hlen := congrArg List.length he
    cases d with
    | zero => simp [varL] at hlen
    | succ d =>
      simp only [List.cons_append, valW, varL] at he hlen
      by_cases hv : x % 128 + 128 * valW (l ++ [0]) > 127
      · rw [if_pos hv, show (x % 128 + 128 * valW (l ++ [0])) / 128 = valW (l ++ [0]) by omega] at he
        have ht := (List.cons.inj he).2
        cases l with
        | nil => simp [valW] at hv; omega
        | cons y l => exact ih d (fun z hz => hp z (List.mem_cons_of_mem _ hz)) (by simp) ht
      · rw [if_neg hv] at hlen
        simp at hlen
def preB (s : ByteArray) (a : Int) (i : Nat) : List Int := ((bytesOf s).drop a.toNat).take i
theorem preB_len (s : ByteArray) (a : Int) (i : Nat) (h0 : 0 ≤ a) (h : a + (i : Int) ≤ (s.size : Int)) : (preB s a i).length = i := by
  unfold preB
  rw [List.length_take, List.length_drop, bytesOf_length]
  omega
theorem preB_succ (s : ByteArray) (a : Int) (i : Nat) (h0 : 0 ≤ a) (h : a + (i : Int) < (s.size : Int)) : preB s a (i + 1) = preB s a i ++ [bt s (a + (i : Int))] := by
  unfold preB
  have hl : i < ((bytesOf s).drop a.toNat).length := by rw [List.length_drop, bytesOf_length]; omega
  have e : bt s (a + (i : Int)) = ((bytesOf s).drop a.toNat)[i] := by
    have hb : a.toNat + i < (bytesOf s).length := by rw [bytesOf_length]; omega
    rw [List.getElem_drop, bt_bl]
    unfold rd
    rw [show (a + (i : Int)).toNat = a.toNat + i by omega]
    simp [List.getD_eq_getElem?_getD, List.getElem?_eq_getElem hb]
  rw [e, List.take_append_getElem hl]
theorem ext_preB (s : ByteArray) (a : Int) (i : Nat) (h0 : 0 ≤ a) : bytesOf (s.extract a.toNat (a + (i : Int)).toNat) = preB s a i := by
  rw [bl_ext]
  unfold preB
  rw [show (a + (i : Int)).toNat - a.toNat = i by omega]
def rv (s : ByteArray) (a : Int) : Nat → Nat → Int → Int × Int × Bool
  | 0, _, _ => (0, 0, false)
  | d + 1, i, n =>
    if a + (i : Int) < (s.size : Int) then
      (if bt s (a + (i : Int)) > 127 then rv s a d (i + 1) (n + bt s (a + (i : Int)) % 128 * 128 ^ i)
       else if (0 < i ∧ bt s (a + (i : Int)) = 0) ∨ n + bt s (a + (i : Int)) % 128 * 128 ^ i > 1000000000 then (0, 0, false)
       else (n + bt s (a + (i : Int)) % 128 * 128 ^ i, a + (i : Int) + 1, true))
    else (0, 0, false)
def readV (s : ByteArray) (a : Int) : Int × Int × Bool := if rng a 0 (s.size : Int) = true then rv s a 5 0 0 else (0, 0, false)
theorem pow_bounds (i : Nat) (h : i ≤ 4) : 1 ≤ (128 : Int) ^ i ∧ (128 : Int) ^ i ≤ 268435456 := by
  rcases (by omega : i = 0 ∨ i = 1 ∨ i = 2 ∨ i = 3 ∨ i = 4) with rfl | rfl | rfl | rfl | rfl <;> decide
theorem dig_bounds (c : Int) (i : Nat) (h : i ≤ 4) : 0 ≤ c % 128 * 128 ^ i ∧ c % 128 * 128 ^ i ≤ 127 * 128 ^ i := by
  have hp := pow_bounds i h
  exact ⟨Int.mul_nonneg (by omega) (by omega), Int.mul_le_mul_of_nonneg_right (by omega) (by omega)⟩
theorem shl7 (x : Int) (i : Nat) (hi : i ≤ 4) (h0 : 0 ≤ x) (h1 : x ≤ 127) : shl .i64 x (7 * (i : Int)) = x * 128 ^ i := by
  unfold shl
  rcases (by omega : i = 0 ∨ i = 1 ∨ i = 2 ∨ i = 3 ∨ i = 4) with rfl | rfl | rfl | rfl | rfl
  · rw [show x * 2 ^ min ((7 * ((0 : Nat) : Int)).toNat) IntKind.i64.bits = x * 1 from rfl, show (128 : Int) ^ 0 = 1 from rfl, IntKind.wrap_i64]; omega
  · rw [show x * 2 ^ min ((7 * ((1 : Nat) : Int)).toNat) IntKind.i64.bits = x * 128 from rfl, show (128 : Int) ^ 1 = 128 from rfl, IntKind.wrap_i64]; omega
  · rw [show x * 2 ^ min ((7 * ((2 : Nat) : Int)).toNat) IntKind.i64.bits = x * 16384 from rfl, show (128 : Int) ^ 2 = 16384 from rfl, IntKind.wrap_i64]; omega
  · rw [show x * 2 ^ min ((7 * ((3 : Nat) : Int)).toNat) IntKind.i64.bits = x * 2097152 from rfl, show (128 : Int) ^ 3 = 2097152 from rfl, IntKind.wrap_i64]; omega
  · rw [show x * 2 ^ min ((7 * ((4 : Nat) : Int)).toNat) IntKind.i64.bits = x * 268435456 from rfl, show (128 : Int) ^ 4 = 268435456 from rfl, IntKind.wrap_i64]; omega
theorem impl_rv (s : ByteArray) (a : Int) (h0 : 0 ≤ a) (h1 : a ≤ (s.size : Int)) (hs : s.size ≤ 9000000000000000000) : ∀ (d i : Nat) (n : Int), i + d = 5 → 0 ≤ n → n < 128 ^ i → Ev (fun k => impl_ReadVar.l0 k s a n (i : Int)) (rv s a d i n) := by
  intro d
  induction d with
  | zero =>
    intro i n hd hn0 hn1
    refine Ev.step (fun k => by simp only [impl_ReadVar.l0]; rw [if_neg (by omega)]) ?_
    exact Ev.here (f := fun _ => some (0, 0, false)) (fun k => by simp only [impl_ReadVar.j1, Bool.false_eq_true, if_false]) (fun _ => rfl)
  | succ d ih =>
    intro i n hd hn0 hn1
    have hb := bt_range s (a + (i : Int))
    have ea : wrap64 (a + (i : Int) + 1) = a + (i : Int) + 1 := w64 (by omega) (by omega)
    have ew : wrap64 (a + (i : Int)) = a + (i : Int) := w64 (by omega) (by omega)
    have ei : wrap64 ((i : Int) + 1) = ((i + 1 : Nat) : Int) := by rw [w64 (by omega) (by omega)]; omega
    have e7 : wrap64 (7 * (i : Int)) = 7 * (i : Int) := w64 (by omega) (by omega)
    have h07 : 0 ≤ 7 * (i : Int) := by omega
    have h0i : 0 ≤ a + (i : Int) := by omega
    have hi5 : (i : Int) < 5 := by omega
    have ec : wrap64 (bt s (a + (i : Int))) = bt s (a + (i : Int)) := w64 (by omega) (by omega)
    have em : Int.tmod (bt s (a + (i : Int))) 128 = bt s (a + (i : Int)) % 128 := Int.tmod_eq_emod_of_nonneg hb.1
    have es : shl .i64 (bt s (a + (i : Int)) % 128) (7 * (i : Int)) = bt s (a + (i : Int)) % 128 * 128 ^ i := shl7 _ i (by omega) (by omega) (by omega)
    obtain ⟨q, hq0, hqn⟩ : ∃ q, bt s (a + (i : Int)) % 128 * 128 ^ i = q ∧ (0 ≤ n + q ∧ n + q < 128 ^ (i + 1) ∧ n + q ≤ 9000000000000000000) := by
      have hp := pow_bounds i (by omega)
      have hps : (128 : Int) ^ (i + 1) = 128 ^ i * 128 := Int.pow_succ 128 i
      have hq := dig_bounds (bt s (a + (i : Int))) i (by omega)
      exact ⟨_, rfl, by omega, by omega, by omega⟩
    have en : wrap64 (n + q) = n + q := w64 (by omega) (by omega)
    have ih := ih (i + 1) (n + q) (by omega) hqn.1 hqn.2.1
    refine Ev.step (fun k => by simp only [impl_ReadVar.l0]; rw [if_pos hi5, ew]) ?_
    unfold rv
    rw [hq0] at es ⊢
    by_cases hin : a + (i : Int) < (s.size : Int)
    · rw [if_pos hin, show decide (a + (i : Int) < (s.size : Int)) = true from decide_eq_true hin]
      refine Ev.step (fun k => by simp only [impl_ReadVar.j1, if_true, ew]; rw [if_pos h0i, if_pos hin, e7, if_pos h07, ec, em, es, en, ei, ea]) ?_
      by_cases hc : bt s (a + (i : Int)) > 127
      · rw [if_pos hc]
        simp only [if_pos hc]
        exact ih
      · rw [if_neg hc]
        simp only [if_neg hc]
        by_cases hi : (i : Int) > 0
        · have hi' : 0 < i := Int.natCast_pos.1 hi
          by_cases hz : bt s (a + (i : Int)) = 0
          · have hz' : (0 < i ∧ bt s (a + (i : Int)) = 0) ∨ n + q > 1000000000 := .inl ⟨hi', hz⟩
            rw [if_pos hz']
            simp only [if_pos hi, if_pos hz]
            exact Ev.now _
          · by_cases hm : n + q > 1000000000
            · have hz' : (0 < i ∧ bt s (a + (i : Int)) = 0) ∨ n + q > 1000000000 := .inr hm
              rw [if_pos hz']
              simp only [if_pos hi, if_neg hz, if_pos hm]
              exact Ev.now _
            · have hz' : ¬ ((0 < i ∧ bt s (a + (i : Int)) = 0) ∨ n + q > 1000000000) := fun h => h.elim (fun h => hz h.2) hm
              rw [if_neg hz']
              simp only [if_pos hi, if_neg hz, if_neg hm]
              exact Ev.now _
        · have hi' : ¬ 0 < i := fun h => hi (Int.natCast_pos.2 h)
          by_cases hm : n + q > 1000000000
          · have hz' : (0 < i ∧ bt s (a + (i : Int)) = 0) ∨ n + q > 1000000000 := .inr hm
            rw [if_pos hz']
            simp only [if_neg hi, if_pos hm]
            exact Ev.now _
          · have hz' : ¬ ((0 < i ∧ bt s (a + (i : Int)) = 0) ∨ n + q > 1000000000) := fun h => h.elim (fun h => hi' h.1) hm
            rw [if_neg hz']
            simp only [if_neg hi, if_neg hm]
            exact Ev.now _
    · rw [if_neg hin, show decide (a + (i : Int) < (s.size : Int)) = false from decide_eq_false hin]
      exact Ev.here (f := fun _ => some (0, 0, false)) (fun k => by simp only [impl_ReadVar.j1, Bool.false_eq_true, if_false]) (fun _ => rfl)
theorem impl_readvar (s : ByteArray) (a : Int) (hs : s.size ≤ 9000000000000000000) : Ev (fun k => impl_ReadVar.f k s a) (readV s a) := by
  unfold impl_ReadVar.f readV
  simp only [within_eq, Option.bind_some]
  cases hr : rng a 0 (s.size : Int) with
  | false => simp only [Bool.false_eq_true, if_false]; exact Ev.now _
  | true =>
    have h := rng_iff.1 hr
    simp only [if_true]
    exact impl_rv s a h.1 h.2 hs 5 0 0 (by omega) (by omega) (by decide)
theorem var_is (s : ByteArray) (a : Int) (i : Nat) (h0 : 0 ≤ a) (hin : a + (i : Int) < (s.size : Int)) (hi : i ≤ 8) (hp : ∀ x ∈ preB s a i, 128 ≤ x ∧ x ≤ 255) (hc : bt s (a + (i : Int)) ≤ 127) :
    (varT (valW (preB s a (i + 1))) = s.extract a.toNat (a + (i : Int) + 1).toNat) ↔ ¬ (0 < i ∧ bt s (a + (i : Int)) = 0) := by
  have hb := bt_range s (a + (i : Int))
  have e1 : bytesOf (varT (valW (preB s a (i + 1)))) = varL 8 (valW (preB s a (i + 1))) := bl_str (varL_range 8 _)
  have e2 : bytesOf (s.extract a.toNat (a + (i : Int) + 1).toNat) = preB s a (i + 1) := by
    have := ext_preB s a (i + 1) h0
    rw [show a + ((i + 1 : Nat) : Int) = a + (i : Int) + 1 by omega] at this
    exact this
  have hs := preB_succ s a i h0 hin
  have hl := preB_len s a i h0 (by omega)
  constructor
  · intro h ⟨hi0, hz⟩
    have h2 := congrArg bytesOf h
    rw [e1, e2, hs, hz] at h2
    exact varL_not (preB s a i) 8 hp (by intro he; rw [he] at hl; simp at hl; omega) h2
  · intro h
    apply bl_inj
    rw [e1, e2, hs]
    refine varL_of (preB s a i) _ 8 hp hb.1 hc (by omega) ?_
    by_cases hi0 : 0 < i
    · exact .inr (fun hz => h ⟨hi0, hz⟩)
    · exact .inl (List.length_eq_zero_iff.1 (by omega))
theorem spec_rv (s : ByteArray) (a : Int) (h0 : 0 ≤ a) (h1 : a ≤ (s.size : Int)) (hs : s.size ≤ 9000000000000000000) : ∀ (d i : Nat), i + d = 5 → a + (i : Int) ≤ (s.size : Int) → (∀ x ∈ preB s a i, 128 ≤ x ∧ x ≤ 255) →
    Ev (fun k => spec_ReadVar.l0 k s a (valW (preB s a i)) (128 ^ i) (a + (i : Int))) (rv s a d i (valW (preB s a i))) := by
  have e5 : wrap64 (a + 5) = a + 5 := w64 (by omega) (by omega)
  intro d
  induction d with
  | zero =>
    intro i hd hin hp
    refine Ev.step (f := fun k => spec_ReadVar.j1 k s a (valW (preB s a i)) (128 ^ i) (a + (i : Int)) false) (fun k => ?_) (Ev.here (f := fun _ => some (0, 0, false)) (fun k => by simp only [spec_ReadVar.j1, Bool.false_eq_true, if_false]) (fun _ => rfl))
    simp only [spec_ReadVar.l0]
    by_cases h : a + (i : Int) < (s.size : Int)
    · rw [if_pos h, e5, show decide (a + (i : Int) < a + 5) = false from decide_eq_false (by omega)]
    · rw [if_neg h]
  | succ d ih =>
    intro i hd hin hp
    have hb := bt_range s (a + (i : Int))
    by_cases hlt : a + (i : Int) < (s.size : Int)
    · have hsucc := preB_succ s a i h0 hlt
      have hval : valW (preB s a (i + 1)) = valW (preB s a i) + bt s (a + (i : Int)) % 128 * 128 ^ i := by rw [hsucc, valW_app, preB_len s a i h0 hin]
      have hv : decide (a + (i : Int) < a + 5) = true := decide_eq_true (by omega)
      have ea : wrap64 (a + (i : Int) + 1) = a + (i : Int) + 1 := w64 (by omega) (by omega)
      have ec : wrap64 (bt s (a + (i : Int))) = bt s (a + (i : Int)) := w64 (by omega) (by omega)
      have em : Int.tmod (bt s (a + (i : Int))) 128 = bt s (a + (i : Int)) % 128 := Int.tmod_eq_emod_of_nonneg hb.1
      have h0i : 0 ≤ a + (i : Int) := by omega
      have h01 : a ≤ a + (i : Int) + 1 := by omega
      have h02 : a + (i : Int) + 1 ≤ (s.size : Int) := by omega
      have hi8 : i ≤ 8 := by omega
      obtain ⟨eq, en, ep⟩ : wrap64 (bt s (a + (i : Int)) % 128 * 128 ^ i) = bt s (a + (i : Int)) % 128 * 128 ^ i ∧ wrap64 (valW (preB s a i) + bt s (a + (i : Int)) % 128 * 128 ^ i) = valW (preB s a (i + 1)) ∧ wrap64 ((128 : Int) ^ i * 128) = 128 ^ (i + 1) := by
        have hn0 := valW_nn (preB s a i)
        have hn1 := valW_lt (preB s a i)
        rw [preB_len s a i h0 hin] at hn1
        have hpb := pow_bounds i (by omega)
        have hps : (128 : Int) ^ (i + 1) = 128 ^ i * 128 := Int.pow_succ 128 i
        have hq := dig_bounds (bt s (a + (i : Int))) i (by omega)
        rw [hval, hps]
        clear hval hsucc hp ih em ec ea e5 hv
        exact ⟨w64 (by omega) (by omega), w64 (by omega) (by omega), w64 (by omega) (by omega)⟩
      have hpn : ¬ bt s (a + (i : Int)) ≤ 127 → ∀ x ∈ preB s a (i + 1), 128 ≤ x ∧ x ≤ 255 := by
        intro hc x hx
        rw [hsucc] at hx
        rcases List.mem_append.1 hx with hx | hx
        · exact hp x hx
        · simp only [List.mem_singleton] at hx
          subst hx
          exact ⟨by omega, hb.2⟩
      have ih := ih (i + 1) (by omega) (by omega)
      rw [show a + ((i + 1 : Nat) : Int) = a + (i : Int) + 1 by omega] at ih
      have hiff := var_is s a i h0 hlt hi8 hp
      have hnn := valW_nn (preB s a (i + 1))
      refine Ev.step (fun k => by simp only [spec_ReadVar.l0]; rw [if_pos hlt, e5, hv]) ?_
      refine Ev.step (fun k => by simp only [spec_ReadVar.j1, if_true]; rw [if_pos h0i, if_pos hlt, ec, em, eq, en, ep, ea]) ?_
      unfold rv
      rw [if_pos hlt, ← hval]
      clear hval eq en ep em ec
      by_cases hc : bt s (a + (i : Int)) > 127
      · have hc2 : ¬ bt s (a + (i : Int)) < 128 := by omega
        rw [if_pos hc]
        simp only [if_neg hc2]
        exact ih (hpn (by omega))
      · have hc2 : bt s (a + (i : Int)) < 128 := by omega
        have hiff := hiff (by omega)
        rw [if_neg hc]
        simp only [if_pos hc2]
        by_cases hm : valW (preB s a (i + 1)) > 1000000000
        · have hz' : (0 < i ∧ bt s (a + (i : Int)) = 0) ∨ valW (preB s a (i + 1)) > 1000000000 := .inr hm
          rw [if_pos hz']
          simp only [if_pos hm]
          exact Ev.now _
        · simp only [if_neg hm]
          refine Ev.bind (spec_var _ hnn (Int.not_lt.1 hm)) ?_
          simp only [if_pos h0, if_pos h01, if_pos h02, toList_iff]
          by_cases hz : 0 < i ∧ bt s (a + (i : Int)) = 0
          · have hz' : (0 < i ∧ bt s (a + (i : Int)) = 0) ∨ valW (preB s a (i + 1)) > 1000000000 := .inl hz
            rw [if_pos hz']
            simp only [if_neg (show ¬ varT (valW (preB s a (i + 1))) = s.extract a.toNat (a + (i : Int) + 1).toNat from fun h => hiff.1 h hz)]
            exact Ev.now _
          · have hz' : ¬ ((0 < i ∧ bt s (a + (i : Int)) = 0) ∨ valW (preB s a (i + 1)) > 1000000000) := fun h => h.elim hz hm
            rw [if_neg hz']
            simp only [if_pos (hiff.2 hz)]
            exact Ev.now _
    · unfold rv
      rw [if_neg hlt]
      refine Ev.step (f := fun k => spec_ReadVar.j1 k s a (valW (preB s a i)) (128 ^ i) (a + (i : Int)) false) (fun k => by simp only [spec_ReadVar.l0]; rw [if_neg hlt]) (Ev.here (f := fun _ => some (0, 0, false)) (fun k => by simp only [spec_ReadVar.j1, Bool.false_eq_true, if_false]) (fun _ => rfl))
theorem spec_readvar (s : ByteArray) (a : Int) (hs : s.size ≤ 9000000000000000000) : Ev (fun k => spec_ReadVar.f k s a) (readV s a) := by
  unfold spec_ReadVar.f readV
  simp only [in_eq, Option.bind_some]
  cases hr : rng a 0 (s.size : Int) with
  | false => simp only [Bool.false_eq_true, if_false]; exact Ev.now _
  | true =>
    have h := rng_iff.1 hr
    simp only [if_true]
    have := spec_rv s a h.1 h.2 hs 5 0 (by omega) (by omega) (by unfold preB; simp)
    have e : preB s a 0 = [] := by unfold preB; simp
    rw [e] at this
    simpa [valW] using this
theorem rv_ok (s : ByteArray) (a : Int) (h0 : 0 ≤ a) : ∀ (d i : Nat), i + d = 5 → a + (i : Int) ≤ (s.size : Int) → (∀ x ∈ preB s a i, 128 ≤ x ∧ x ≤ 255) → ∀ v nx, rv s a d i (valW (preB s a i)) = (v, nx, true) →
    (0 ≤ v ∧ v ≤ 1000000000) ∧ (a < nx ∧ nx ≤ (s.size : Int)) ∧ s.extract a.toNat nx.toNat = varT v := by
  intro d
  induction d with
  | zero => intro i _ _ _ v nx h; simp [rv] at h
  | succ d ih =>
    intro i hd hin hp v nx h
    unfold rv at h
    have hb := bt_range s (a + (i : Int))
    by_cases hlt : a + (i : Int) < (s.size : Int)
    · have hsucc := preB_succ s a i h0 hlt
      have hval : valW (preB s a (i + 1)) = valW (preB s a i) + bt s (a + (i : Int)) % 128 * 128 ^ i := by rw [hsucc, valW_app, preB_len s a i h0 hin]
      rw [if_pos hlt, ← hval] at h
      by_cases hc : bt s (a + (i : Int)) > 127
      · rw [if_pos hc] at h
        exact ih (i + 1) (by omega) (by omega) (by
          rw [hsucc]
          intro x hx
          rcases List.mem_append.1 hx with hx | hx
          · exact hp x hx
          · simp only [List.mem_singleton] at hx; omega) v nx h
      · rw [if_neg hc] at h
        by_cases hz : (0 < i ∧ bt s (a + (i : Int)) = 0) ∨ valW (preB s a (i + 1)) > 1000000000
        · rw [if_pos hz] at h
          simp at h
        · rw [if_neg hz] at h
          simp only [Prod.mk.injEq, and_true] at h
          obtain ⟨rfl, rfl⟩ := h
          have hn := valW_nn (preB s a (i + 1))
          have hiff := var_is s a i h0 hlt (by omega) hp (by omega)
          refine ⟨⟨hn, ?_⟩, ⟨by omega, by omega⟩, (hiff.2 (fun h => hz (.inl h))).symm⟩
          rcases Int.lt_or_le 1000000000 (valW (preB s a (i + 1))) with h | h
          · exact absurd (.inr h) hz
          · exact h
    · rw [if_neg hlt] at h
      simp at h
theorem readV_ok {s : ByteArray} {a v nx : Int} (h : readV s a = (v, nx, true)) : (0 ≤ a ∧ a < nx ∧ nx ≤ (s.size : Int)) ∧ (0 ≤ v ∧ v ≤ 1000000000) ∧ s.extract a.toNat nx.toNat = varT v := by
  unfold readV at h
  cases hr : rng a 0 (s.size : Int) with
  | false => rw [hr] at h; simp at h
  | true =>
    have hh := rng_iff.1 hr
    rw [hr, if_pos rfl] at h
    have e : preB s a 0 = [] := by unfold preB; simp
    have := rv_ok s a hh.1 5 0 (by omega) (by omega) (by rw [e]; simp) v nx (by rw [e]; exact h)
    exact ⟨⟨hh.1, this.2.1⟩, this.1, this.2.2⟩
/-- What a short text's reader comes to. -/
def readS (s : ByteArray) (a : Int) : ByteArray × Int × Bool :=
  if (readV s a).2.2 = true ∧ (readV s a).1 ≤ 20000 ∧ (readV s a).1 ≤ (s.size : Int) - (readV s a).2.1 then (s.extract (readV s a).2.1.toNat ((readV s a).2.1 + (readV s a).1).toNat, (readV s a).2.1 + (readV s a).1, true) else ((⟨#[]⟩ : ByteArray), 0, false)
theorem readS_ok {s : ByteArray} {a nx : Int} {t : ByteArray} (h : readS s a = (t, nx, true)) : (0 ≤ a ∧ a < nx ∧ nx ≤ (s.size : Int)) ∧ t.size ≤ 20000 ∧ s.extract a.toNat nx.toNat = shortT t := by
  unfold readS at h
  split at h
  · rename_i hc
    obtain ⟨hk, h2, h3⟩ := hc
    have hv := readV_ok (s := s) (a := a) (v := (readV s a).1) (nx := (readV s a).2.1) (by rw [← hk])
    obtain ⟨⟨h0, h4, h5⟩, ⟨h6, _⟩, h7⟩ := hv
    simp only [Prod.mk.injEq, and_true] at h
    obtain ⟨rfl, rfl⟩ := h
    have hsz : (s.extract (readV s a).2.1.toNat ((readV s a).2.1 + (readV s a).1).toNat).size = (readV s a).1.toNat := by rw [ByteArray.size_extract]; omega
    refine ⟨⟨h0, by omega, by omega⟩, by omega, ?_⟩
    unfold shortT
    rw [hsz, show (((readV s a).1.toNat : Nat) : Int) = (readV s a).1 by omega, ← h7]
    apply bl_inj
    rw [bl_app, bl_ext, bl_ext, bl_ext]
    have e1 : ((readV s a).2.1 + (readV s a).1).toNat - a.toNat = ((readV s a).2.1.toNat - a.toNat) + ((readV s a).2.1 + (readV s a).1 - (readV s a).2.1).toNat := by omega
    have e2 : ((readV s a).2.1 + (readV s a).1).toNat - (readV s a).2.1.toNat = ((readV s a).2.1 + (readV s a).1 - (readV s a).2.1).toNat := by omega
    have e3 : (bytesOf s).drop (readV s a).2.1.toNat = ((bytesOf s).drop a.toNat).drop ((readV s a).2.1.toNat - a.toNat) := by rw [List.drop_drop]; congr 1; omega
    rw [e1, e2, e3, List.take_add]
  · simp at h
theorem readS_eqs (s : ByteArray) (a : Int) (hs : s.size ≤ 9000000000000000000) : (if (readV s a).2.2 = true then (if (readV s a).1 > 20000 then (some ((⟨#[]⟩ : ByteArray), (0 : Int), false)) else (if (readV s a).1 > (wrap64 ((s.size : Int) - (readV s a).2.1)) then (some ((⟨#[]⟩ : ByteArray), 0, false)) else (if 0 ≤ (readV s a).2.1 then (if (readV s a).2.1 ≤ (wrap64 ((readV s a).2.1 + (readV s a).1)) then (if (wrap64 ((readV s a).2.1 + (readV s a).1)) ≤ (s.size : Int) then (some (s.extract ((readV s a).2.1 : Int).toNat ((wrap64 ((readV s a).2.1 + (readV s a).1)) : Int).toNat, wrap64 ((readV s a).2.1 + (readV s a).1), true)) else (none)) else (none)) else (none)))) else (some ((⟨#[]⟩ : ByteArray), 0, false))) = some (readS s a) := by
  unfold readS
  by_cases hk : (readV s a).2.2 = true
  · have hv := readV_ok (s := s) (a := a) (v := (readV s a).1) (nx := (readV s a).2.1) (by rw [← hk])
    obtain ⟨⟨h0, h4, h5⟩, ⟨h6, h8⟩, h7⟩ := hv
    rw [if_pos hk, w64 (x := (s.size : Int) - (readV s a).2.1) (by omega) (by omega)]
    by_cases h1 : (readV s a).1 > 20000
    · rw [if_pos h1, if_neg (by omega)]
    · rw [if_neg h1]
      by_cases h2 : (readV s a).1 > (s.size : Int) - (readV s a).2.1
      · rw [if_pos h2, if_neg (by omega)]
      · rw [if_neg h2, if_pos (by omega), w64 (x := (readV s a).2.1 + (readV s a).1) (by omega) (by omega), if_pos (by omega), if_pos (by omega), if_pos ⟨hk, by omega, by omega⟩]
  · rw [if_neg hk, if_neg (fun h => hk h.1)]
theorem impl_readshort (s : ByteArray) (a : Int) (hs : s.size ≤ 9000000000000000000) : Ev (fun k => impl_ReadShort.f k s a) (readS s a) := by
  unfold impl_ReadShort.f
  refine Ev.bind (impl_readvar s a hs) ?_
  simp only [readS_eqs s a hs]
  exact Ev.now _
theorem spec_readshort (s : ByteArray) (a : Int) (hs : s.size ≤ 9000000000000000000) : Ev (fun k => spec_ReadShort.f k s a) (readS s a) := by
  unfold spec_ReadShort.f
  refine Ev.bind (spec_readvar s a hs) ?_
  simp only [readS_eqs s a hs]
  exact Ev.now _
/-- A reader's step over a number: what it reads, where it stands then, and whether it is bad. -/
def numB (s : ByteArray) (a : Int) (b : Bool) : Int × ByteArray × Int × Bool := if b = true then (0, s, a, true) else if (readV s a).2.2 = true then ((readV s a).1, s, (readV s a).2.1, false) else (0, s, a, true)
def shoB (s : ByteArray) (a : Int) (b : Bool) : ByteArray × ByteArray × Int × Bool := if b = true then ((⟨#[]⟩ : ByteArray), s, a, true) else if (readS s a).2.2 = true then ((readS s a).1, s, (readS s a).2.1, false) else ((⟨#[]⟩ : ByteArray), s, a, true)
theorem spec_num (s : ByteArray) (a : Int) (b : Bool) (hs : s.size ≤ 9000000000000000000) : Ev (fun k => spec_l16Var.f k s a b) (numB s a b) := by
  unfold spec_l16Var.f numB
  refine Ev.bind (spec_readvar s a hs) ?_
  cases b
  · by_cases h : (readV s a).2.2 = true
    · simp only [Bool.false_eq_true, if_false, if_pos h]; exact Ev.now _
    · simp only [Bool.false_eq_true, if_false, if_neg h]; exact Ev.now _
  · simp only [if_true]; exact Ev.now _
theorem spec_sho (s : ByteArray) (a : Int) (b : Bool) (hs : s.size ≤ 9000000000000000000) : Ev (fun k => spec_l16ReadShort.f k s a b) (shoB s a b) := by
  unfold spec_l16ReadShort.f shoB
  refine Ev.bind (spec_readshort s a hs) ?_
  cases b
  · by_cases h : (readS s a).2.2 = true
    · simp only [Bool.false_eq_true, if_false, if_pos h]; exact Ev.now _
    · simp only [Bool.false_eq_true, if_false, if_neg h]; exact Ev.now _
  · simp only [if_true]; exact Ev.now _
theorem impl_num (s : ByteArray) (a : Int) (b : Bool) (hs : s.size ≤ 9000000000000000000) : Ev (fun k => impl_scan_number.f k s a b) (numB s a b) := by
  unfold impl_scan_number.f numB
  refine Ev.bind (impl_readvar s a hs) ?_
  cases b
  · by_cases h : (readV s a).2.2 = true
    · simp only [Bool.false_eq_true, if_false, if_pos h]; exact Ev.now _
    · simp only [Bool.false_eq_true, if_false, if_neg h]; exact Ev.now _
  · simp only [if_true]; exact Ev.now _
theorem impl_sho (s : ByteArray) (a : Int) (b : Bool) (hs : s.size ≤ 9000000000000000000) : Ev (fun k => impl_scan_short.f k s a b) (shoB s a b) := by
  unfold impl_scan_short.f shoB
  refine Ev.bind (impl_readshort s a hs) ?_
  cases b
  · by_cases h : (readS s a).2.2 = true
    · simp only [Bool.false_eq_true, if_false, if_pos h]; exact Ev.now _
    · simp only [Bool.false_eq_true, if_false, if_neg h]; exact Ev.now _
  · simp only [if_true]; exact Ev.now _
/-- A reader that has come to place a holds what it has read: the text's begin is p. -/
def Read (s : ByteArray) (p : ByteArray) (a : Int) (b : Bool) : Prop := b = true ∨ (b = false ∧ 0 ≤ a ∧ a ≤ (s.size : Int) ∧ s.extract 0 a.toNat = p)
theorem ext_join (s : ByteArray) (a b : Nat) (h : a ≤ b) : s.extract 0 a ++ s.extract a b = s.extract 0 b := by
  apply bl_inj
  rw [bl_app, bl_ext, bl_ext, bl_ext, List.drop_zero, show b - 0 = a + (b - a) by omega, List.take_add, Nat.sub_zero]
theorem num_read {s p : ByteArray} {a : Int} {b : Bool} (h : Read s p a b) : (numB s a b).2.1 = s ∧ Read s (p ++ varT (numB s a b).1) (numB s a b).2.2.1 (numB s a b).2.2.2 ∧ (0 ≤ (numB s a b).1 ∧ (numB s a b).1 ≤ 1000000000) := by
  unfold numB
  rcases h with rfl | ⟨rfl, h0, h1, h2⟩
  · rw [if_pos rfl]; exact ⟨rfl, .inl rfl, (show (0 : Int) ≤ 0 ∧ (0 : Int) ≤ 1000000000 by omega)⟩
  · rw [if_neg (by simp)]
    by_cases hk : (readV s a).2.2 = true
    · rw [if_pos hk]
      have hv := readV_ok (s := s) (a := a) (v := (readV s a).1) (nx := (readV s a).2.1) (by rw [← hk])
      refine ⟨rfl, .inr ⟨rfl, (show 0 ≤ (readV s a).2.1 by omega), (show (readV s a).2.1 ≤ (s.size : Int) by omega), ?_⟩, hv.2.1⟩
      show s.extract 0 (readV s a).2.1.toNat = p ++ varT (readV s a).1
      rw [← hv.2.2, ← h2, ext_join s _ _ (by omega)]
    · rw [if_neg hk]; exact ⟨rfl, .inl rfl, (show (0 : Int) ≤ 0 ∧ (0 : Int) ≤ 1000000000 by omega)⟩
theorem sho_read {s p : ByteArray} {a : Int} {b : Bool} (h : Read s p a b) : (shoB s a b).2.1 = s ∧ Read s (p ++ shortT (shoB s a b).1) (shoB s a b).2.2.1 (shoB s a b).2.2.2 ∧ (shoB s a b).1.size ≤ 20000 := by
  unfold shoB
  rcases h with rfl | ⟨rfl, h0, h1, h2⟩
  · rw [if_pos rfl]; exact ⟨rfl, .inl rfl, by show 0 ≤ 20000; omega⟩
  · rw [if_neg (by simp)]
    by_cases hk : (readS s a).2.2 = true
    · rw [if_pos hk]
      have hv := readS_ok (s := s) (a := a) (t := (readS s a).1) (nx := (readS s a).2.1) (by rw [← hk])
      refine ⟨rfl, .inr ⟨rfl, (show 0 ≤ (readS s a).2.1 by omega), (show (readS s a).2.1 ≤ (s.size : Int) by omega), ?_⟩, hv.2.1⟩
      show s.extract 0 (readS s a).2.1.toNat = p ++ shortT (readS s a).1
      rw [← hv.2.2, ← h2, ext_join s _ _ (by omega)]
    · rw [if_neg hk]; exact ⟨rfl, .inl rfl, by show 0 ≤ 20000; omega⟩
/-- At a text's end all was read. -/
theorem read_end {s p : ByteArray} {a : Int} (h : Read s p a false) : p = s ↔ a = (s.size : Int) := by
  rcases h with h | ⟨_, h0, h1, rfl⟩
  · cases h
  · constructor
    · intro h
      have := congrArg ByteArray.size h
      rw [ByteArray.size_extract] at this
      omega
    · intro h
      subst h
      apply bl_inj
      rw [bl_ext, List.drop_zero]
      exact List.take_of_length_le (by rw [bytesOf_length]; omega)

/-! ### scan -/
theorem done_bad (s : ByteArray) (a : Int) : impl_scan_done.f s a true = some (false, s, a, true) := by unfold impl_scan_done.f; rw [if_pos rfl]
theorem done_ok (s : ByteArray) (a : Int) : impl_scan_done.f s a false = some ((a == (s.size : Int)), s, a, false) := by unfold impl_scan_done.f; rw [if_neg (by simp)]

/-! ### loops -/
/-- A loop upward whose rounds do nothing but go on. -/
theorem up_loop {β : Type} {F : Nat → Int → Option β} {n : Nat} {r : β} (hs : ∀ k (j : Nat), j < n → F (k + 1) (j : Int) = F k ((j + 1 : Nat) : Int)) (he : ∀ k, F (k + 1) (n : Int) = some r) :
    ∀ (d j : Nat), n - j = d → j ≤ n → ∀ k, d < k → F k (j : Int) = some r := by
  intro d
  induction d with
  | zero =>
    intro j hd hj k hk
    obtain ⟨k, rfl⟩ : ∃ m, k = m + 1 := ⟨k - 1, by omega⟩
    obtain rfl : j = n := by omega
    exact he k
  | succ d ih =>
    intro j hd hj k hk
    obtain ⟨k, rfl⟩ : ∃ m, k = m + 1 := ⟨k - 1, by omega⟩
    rw [hs k j (by omega)]
    exact ih (j + 1) (by omega) (by omega) k (by omega)
/-- A loop that turns each element of a list into one of a list that was made. -/
theorem map_loop {α β : Type} {F : Nat → List β → Int → Option (List β)} {g : α → β} {l : List α}
    (hs : ∀ k (acc : List β) (j : Nat) (hj : j < l.length), acc.length = l.length → F (k + 1) acc (j : Int) = F k (acc.set j (g l[j])) ((j + 1 : Nat) : Int))
    (he : ∀ k (acc : List β), F (k + 1) acc (l.length : Int) = some acc) :
    ∀ (d j : Nat) (acc : List β), l.length - j = d → j ≤ l.length → acc.length = l.length → (∀ i, i < j → acc[i]? = (l[i]?).map g) → ∀ k, d < k → F k acc (j : Int) = some (l.map g) := by
  intro d
  induction d with
  | zero =>
    intro j acc hd hj hl ha k hk
    obtain ⟨k, rfl⟩ : ∃ m, k = m + 1 := ⟨k - 1, by omega⟩
    obtain rfl : j = l.length := by omega
    rw [he]
    congr 1
    apply List.ext_getElem?
    intro i
    rw [List.getElem?_map]
    by_cases hi : i < l.length
    · exact ha i hi
    · rw [List.getElem?_eq_none (by omega), List.getElem?_eq_none (by omega)]; rfl
  | succ d ih =>
    intro j acc hd hj hl ha k hk
    obtain ⟨k, rfl⟩ : ∃ m, k = m + 1 := ⟨k - 1, by omega⟩
    have hjl : j < l.length := by omega
    rw [hs k acc j hjl hl]
    refine ih (j + 1) _ (by omega) (by omega) (by rw [List.length_set]; exact hl) (fun i hi => ?_) k (by omega)
    by_cases hij : i = j
    · subst hij
      rw [List.getElem?_set_self (by omega), List.getElem?_eq_getElem hjl]
      rfl
    · rw [List.getElem?_set_ne (fun h => hij h.symm)]
      exact ha i (by omega)
theorem getD_at {α : Type} {l : List α} {j : Nat} (z : α) (h : j < l.length) : l.getD (j : Int).toNat z = l[j] := by
  simp [List.getD_eq_getElem?_getD, List.getElem?_eq_getElem h]

/-! ### sz -/
theorem sz_loop {α : Type} {F : Nat → Int → Int → Option Int} {g : α → Int → Option Int} {l : List α} {P : α → Prop}
    (hs : ∀ k (left : Int) (j : Nat) (hj : j < l.length), l.length ≤ 2000000 → F (k + 1) left (j : Int) = (g l[j] left).bind fun t => if t < 0 then some (-1) else F k t ((j + 1 : Nat) : Int))
    (he : ∀ k (left : Int), F (k + 1) left (l.length : Int) = some left)
    (hg : ∀ x ∈ l, ∀ left : Int, 0 ≤ left → left ≤ 1048576 → ∃ t, g x left = some t ∧ (t < 0 ∨ (0 ≤ t ∧ t ≤ left ∧ P x))) (hl : l.length ≤ 2000000) :
    ∀ (d j : Nat) (left : Int), l.length - j = d → j ≤ l.length → 0 ≤ left → left ≤ 1048576 → ∃ t, (∀ k, d < k → F k left (j : Int) = some t) ∧ (t < 0 ∨ (0 ≤ t ∧ t ≤ left ∧ ∀ i (hi : i < l.length), j ≤ i → P l[i])) := by
  intro d
  induction d with
  | zero =>
    intro j left hd hj h0 h1
    obtain rfl : j = l.length := by omega
    refine ⟨left, fun k hk => ?_, .inr ⟨h0, Int.le_refl _, fun i hi h => absurd hi (by omega)⟩⟩
    obtain ⟨k, rfl⟩ : ∃ m, k = m + 1 := ⟨k - 1, by omega⟩
    exact he k left
  | succ d ih =>
    intro j left hd hj h0 h1
    have hjl : j < l.length := by omega
    obtain ⟨t, ht, hc⟩ := hg l[j] (List.getElem_mem _) left h0 h1
    rcases hc with hc | ⟨h2, h3, hP⟩
    · refine ⟨-1, fun k hk => ?_, .inl (by omega)⟩
      obtain ⟨k, rfl⟩ : ∃ m, k = m + 1 := ⟨k - 1, by omega⟩
      rw [hs k left j hjl hl, ht]
      simp only [Option.bind_some]
      rw [if_pos hc]
    · obtain ⟨t2, ih1, ih2⟩ := ih (j + 1) t (by omega) (by omega) h2 (by omega)
      refine ⟨t2, fun k hk => ?_, ?_⟩
      · obtain ⟨k, rfl⟩ : ∃ m, k = m + 1 := ⟨k - 1, by omega⟩
        rw [hs k left j hjl hl, ht]
        simp only [Option.bind_some]
        rw [if_neg (by omega)]
        exact ih1 k (by omega)
      · rcases ih2 with h4 | ⟨h4, h5, h6⟩
        · exact .inl h4
        · refine .inr ⟨h4, by omega, fun i hi hji => ?_⟩
          by_cases hij : i = j
          · subst hij; exact hP
          · exact h6 i hi (by omega)

/-! ### c_Session -/

/-! ### c_Item -/

/-! ### mark -/
theorem mt_loop : ∀ (d : Nat) (x : Int) (s : ByteArray), 0 ≤ x → x < 10 ^ d → x ≤ 9223372036854775807 → s.size + d ≤ 1000 → ∃ t, ∀ k, d < k → laws_markText.l0 k x s = some t := by
  intro d
  induction d with
  | zero =>
    intro x s h0 h1 h2 hs
    refine ⟨(⟨#[109]⟩ : ByteArray) ++ s, fun k hk => ?_⟩
    obtain ⟨k, rfl⟩ : ∃ m, k = m + 1 := ⟨k - 1, by omega⟩
    simp only [laws_markText.l0]
    rw [if_neg (by omega), if_pos (by omega)]
  | succ d ih =>
    intro x s h0 h1 h2 hs
    by_cases hx : x > 0
    · have h10 : x / 10 < 10 ^ d := by
        have : (10 : Int) ^ (d + 1) = 10 ^ d * 10 := Int.pow_succ 10 d
        omega
      obtain ⟨t, ih⟩ := ih (x / 10) (strOfNums [(48 + x % 10) % 256] ++ s) (by omega) h10 (by omega) (by rw [ByteArray.size_append, strOfNums_size]; simp only [List.length_cons, List.length_nil]; omega)
      refine ⟨t, fun k hk => ?_⟩
      obtain ⟨k, rfl⟩ : ∃ m, k = m + 1 := ⟨k - 1, by omega⟩
      simp only [laws_markText.l0]
      rw [if_pos hx, Int.tmod_eq_emod_of_nonneg h0, Int.tdiv_eq_ediv_of_nonneg h0, w64 (x := 48 + x % 10) (by omega) (by omega)]
      simp only [Option.bind_some]
      rw [if_pos (by rw [strOfNums_size]; simp only [List.length_cons, List.length_nil]; omega)]
      rw [w64 (by omega) (by omega)]
      exact ih k (by omega)
    · refine ⟨(⟨#[109]⟩ : ByteArray) ++ s, fun k hk => ?_⟩
      obtain ⟨k, rfl⟩ : ∃ m, k = m + 1 := ⟨k - 1, by omega⟩
      simp only [laws_markText.l0]
      rw [if_neg hx, if_pos (by omega)]
theorem markText_ok (n : Int) (h0 : 0 ≤ n) (h1 : n < 1000000000000000) : ∃ t, ∀ k, 20 ≤ k → laws_markText.f k n = some t := by
  by_cases hn : n ≤ 0
  · exact ⟨_, fun k _ => by unfold laws_markText.f; rw [if_pos hn]⟩
  · obtain ⟨t, ht⟩ := mt_loop 15 n ⟨#[]⟩ h0 (by omega) (by omega) (by decide)
    exact ⟨t, fun k hk => by unfold laws_markText.f; rw [if_neg hn]; exact ht k (by omega)⟩
def mt (n : Int) : ByteArray := (laws_markText.f 20 n).getD ⟨#[]⟩
theorem markText_eq {k : Nat} {n : Int} (hk : 20 ≤ k) (h0 : 0 ≤ n) (h1 : n < 1000000000000000) : laws_markText.f k n = some (mt n) := by
  obtain ⟨t, ht⟩ := markText_ok n h0 h1
  unfold mt
  rw [ht k hk, ht 20 (by omega)]
  rfl
theorem mark_loop {α : Type} {F : Nat → List α → Int → Int → Option (Int × List α)} {G : Int → α} {w : Nat}
    (hs : ∀ k (l : List α) (c : Int) (j : Nat), j < l.length → l.length ≤ 2000000 → 20 ≤ k → 0 ≤ c → c ≤ 100000000000000 → F (k + 1) l c (j : Int) = F k (l.set j (G c)) (c + w) ((j + 1 : Nat) : Int))
    (he : ∀ k (l : List α) (c : Int), F (k + 1) l c (l.length : Int) = some (c, l)) :
    ∀ (d j : Nat) (l : List α) (c : Int), l.length - j = d → j ≤ l.length → l.length ≤ 2000000 → 0 ≤ c → c + w * d ≤ 100000000000000 →
    ∃ l' : List α, l'.length = l.length ∧ (∀ i, i < j → l'[i]? = l[i]?) ∧ (∀ i, j ≤ i → i < l.length → l'[i]? = some (G (c + w * ((i - j : Nat) : Int)))) ∧ ∀ k, d + 20 < k → F k l c (j : Int) = some (c + w * d, l') := by
  intro d
  induction d with
  | zero =>
    intro j l c hd hj hl h0 h1
    obtain rfl : j = l.length := by omega
    refine ⟨l, rfl, fun _ _ => rfl, fun i h2 h3 => by omega, fun k hk => ?_⟩
    obtain ⟨k, rfl⟩ : ∃ m, k = m + 1 := ⟨k - 1, by omega⟩
    rw [he]
    simp
  | succ d ih =>
    intro j l c hd hj hl h0 h1
    have hmul : (w : Int) * ((d + 1 : Nat) : Int) = w + w * d := by rw [Int.natCast_succ, Int.mul_add, Int.mul_one, Int.add_comm]
    have hwd : 0 ≤ (w : Int) * (d : Int) := Int.mul_nonneg (by omega) (by omega)
    obtain ⟨l', hl', h2, h3, h4⟩ := ih (j + 1) (l.set j (G c)) (c + w) (by rw [List.length_set]; omega) (by rw [List.length_set]; omega) (by rw [List.length_set]; exact hl) (by omega) (by omega)
    rw [List.length_set] at hl' h3
    refine ⟨l', hl', fun i hi => ?_, fun i hi1 hi2 => ?_, fun k hk => ?_⟩
    · rw [h2 i (by omega), List.getElem?_set_ne (by omega)]
    · by_cases hij : i = j
      · subst hij
        rw [h2 i (by omega), List.getElem?_set_self (by omega)]
        simp
      · rw [h3 i (by omega) hi2]
        congr 2
        have : ((i - j : Nat) : Int) = ((i - (j + 1) : Nat) : Int) + 1 := by omega
        rw [this, Int.mul_add, Int.mul_one]
        omega
    · obtain ⟨k, rfl⟩ : ∃ m, k = m + 1 := ⟨k - 1, by omega⟩
      rw [hs k l c j (by omega) hl (by omega) h0 (by omega), h4 k (by omega), hmul]
      congr 2
      omega
theorem held_loop {α : Type} {F : Nat → List α → Int → Int → Option Int} {G : Int → α} {w : Nat} {l : List α}
    (hs : ∀ k (c : Int) (j : Nat) (hj : j < l.length), l.length ≤ 2000000 → 20 ≤ k → 0 ≤ c → c ≤ 100000000000000 → l[j] = G c → F (k + 1) l c (j : Int) = F k l (c + w) ((j + 1 : Nat) : Int))
    (he : ∀ k (c : Int), F (k + 1) l c (l.length : Int) = some c) (hl : l.length ≤ 2000000) :
    ∀ (d j : Nat) (c : Int), l.length - j = d → j ≤ l.length → 0 ≤ c → c + w * d ≤ 100000000000000 → (∀ i, j ≤ i → i < l.length → l[i]? = some (G (c + w * ((i - j : Nat) : Int)))) → ∀ k, d + 20 < k → F k l c (j : Int) = some (c + w * d) := by
  intro d
  induction d with
  | zero =>
    intro j c hd hj h0 h1 hG k hk
    obtain rfl : j = l.length := by omega
    obtain ⟨k, rfl⟩ : ∃ m, k = m + 1 := ⟨k - 1, by omega⟩
    rw [he]
    simp
  | succ d ih =>
    intro j c hd hj h0 h1 hG k hk
    obtain ⟨k, rfl⟩ : ∃ m, k = m + 1 := ⟨k - 1, by omega⟩
    have hjl : j < l.length := by omega
    have hmul : (w : Int) * ((d + 1 : Nat) : Int) = w + w * d := by rw [Int.natCast_succ, Int.mul_add, Int.mul_one, Int.add_comm]
    have hwd : 0 ≤ (w : Int) * (d : Int) := Int.mul_nonneg (by omega) (by omega)
    have hj0 : l[j] = G c := by
      have := hG j (Nat.le_refl _) hjl
      rw [List.getElem?_eq_getElem hjl] at this
      simpa using this
    rw [hs k c j hjl hl (by omega) h0 (by omega) hj0, ih (j + 1) (c + w) (by omega) (by omega) (by omega) (by omega) (fun i h2 h3 => ?_) k (by omega), hmul]
    · congr 1; omega
    · rw [hG i (by omega) h3]
      congr 2
      have : ((i - j : Nat) : Int) = ((i - (j + 1) : Nat) : Int) + 1 := by omega
      rw [this, Int.mul_add, Int.mul_one]
      omega

/-! ### m_Session -/
def mkSession (c : Int) : S101 := ⟨c, c + 1, mt (c + 1 + 1)⟩
theorem rdset_Session (l : List S101) (j : Nat) (a : S101) (h : j < l.length) : rd_T101 (l.set j a) (j : Int) = a := by
  unfold rd_T101
  rw [getD_at _ (by rw [List.length_set]; exact h), List.getElem_set_self]
theorem markSessionS_ok (l : List S101) (c : Int) (hl : l.length ≤ 2000000) (h0 : 0 ≤ c) (h1 : c + 3 * l.length ≤ 100000000000000) :
    ∃ l' : List S101, l'.length = l.length ∧ (∀ i, i < l.length → l'[i]? = some (mkSession (c + 3 * (i : Int)))) ∧ ∀ k, l.length + 20 < k → laws_markSessionS.f k l c = some (c + 3 * l.length, l') := by
  obtain ⟨l', hl', _, h3, h4⟩ := mark_loop (F := fun k l c j => laws_markSessionS.l0 k l c j) (G := mkSession) (w := 3) (fun k l c j hj hl hk h0 h1 => by
      simp (disch := omega) only [laws_markSessionS.l0, ip, Option.bind_some, w64, markText_eq, rdset_Session, List.set_set, Int.toNat_natCast]
      unfold mkSession
      congr 1 <;> omega) (fun k l c => by simp only [laws_markSessionS.l0]; rw [if_neg (by omega)]) l.length 0 l c (by omega) (by omega) hl h0 h1
  exact ⟨l', hl', fun i hi => by simpa using h3 i (by omega) hi, h4⟩
theorem heldSessionS_ok (l : List S101) (c : Int) (hl : l.length ≤ 2000000) (h0 : 0 ≤ c) (h1 : c + 3 * l.length ≤ 100000000000000) (hG : ∀ i, i < l.length → l[i]? = some (mkSession (c + 3 * (i : Int)))) :
    ∀ k, l.length + 20 < k → laws_heldSessionS.f k l c = some (c + 3 * l.length) := by
  exact held_loop (F := fun k l c j => laws_heldSessionS.l0 k l c j) (G := mkSession) (w := 3) (fun k c j hj hl hk h0 h1 hP => by
      have hr : rd_T101 l (j : Int) = mkSession c := by unfold rd_T101; rw [getD_at _ hj]; exact hP
      simp (disch := omega) only [laws_heldSessionS.l0, hr, mkSession, ip, Option.bind_some, w64, markText_eq, if_true, bne_self_eq_false, Bool.false_eq_true, if_false]
      congr 1 <;> omega) (fun k c => by simp only [laws_heldSessionS.l0]; rw [if_neg (by omega)]) hl l.length 0 c (by omega) (by omega) h0 h1 (fun i _ hi => by simpa using hG i hi)
theorem markheldSession (l : List S101) (hl : l.length ≤ 2000000) (c : Int) (h0 : 0 ≤ c) (h1 : c ≤ 10000000000000) : ∃ (m : Int) (l' : List S101), 0 ≤ m ∧ m ≤ c + 3 * l.length ∧ Ev (fun k => laws_markSessionS.f k l c) (m, l') ∧ Ev (fun k => laws_heldSessionS.f k l' c) m := by
  obtain ⟨l', hl', h2, h3⟩ := markSessionS_ok l c hl h0 (by omega)
  refine ⟨c + 3 * l.length, l', by omega, by omega, ⟨l.length + 21, fun k hk => h3 k (by omega)⟩, ⟨l.length + 21, fun k hk => ?_⟩⟩
  have := heldSessionS_ok l' c (by omega) h0 (by omega) (fun i hi => h2 i (by omega)) k (by omega)
  rw [hl'] at this
  exact this
theorem eqSessionS_ok (l : List S101) (hl : l.length ≤ 2000000) : ∀ k, l.length < k → laws_eqSessionS.f k l l = some true := by
  intro k hk
  unfold laws_eqSessionS.f
  rw [if_pos rfl]
  refine up_loop (F := fun k j => laws_eqSessionS.l0 k l l j) (n := l.length) ?_ ?_ l.length 0 (by omega) (by omega) k hk
  · intro k j hj
    simp (disch := omega) only [laws_eqSessionS.l0, laws_eqSession.f, ip, w64, Option.bind_some, if_true, bne_self_eq_false, Bool.false_eq_true, if_false]
    rfl
  · intro k
    simp only [laws_eqSessionS.l0]
    rw [if_neg (by omega)]

/-! ### m_Item -/
def mkItem (c : Int) : S104 := ⟨mt (c), mt (c + 1), c + 1 + 1⟩
theorem rdset_Item (l : List S104) (j : Nat) (a : S104) (h : j < l.length) : rd_T104 (l.set j a) (j : Int) = a := by
  unfold rd_T104
  rw [getD_at _ (by rw [List.length_set]; exact h), List.getElem_set_self]
theorem markItemS_ok (l : List S104) (c : Int) (hl : l.length ≤ 2000000) (h0 : 0 ≤ c) (h1 : c + 3 * l.length ≤ 100000000000000) :
    ∃ l' : List S104, l'.length = l.length ∧ (∀ i, i < l.length → l'[i]? = some (mkItem (c + 3 * (i : Int)))) ∧ ∀ k, l.length + 20 < k → laws_markItemS.f k l c = some (c + 3 * l.length, l') := by
  obtain ⟨l', hl', _, h3, h4⟩ := mark_loop (F := fun k l c j => laws_markItemS.l0 k l c j) (G := mkItem) (w := 3) (fun k l c j hj hl hk h0 h1 => by
      simp (disch := omega) only [laws_markItemS.l0, ip, Option.bind_some, w64, markText_eq, rdset_Item, List.set_set, Int.toNat_natCast]
      unfold mkItem
      congr 1 <;> omega) (fun k l c => by simp only [laws_markItemS.l0]; rw [if_neg (by omega)]) l.length 0 l c (by omega) (by omega) hl h0 h1
  exact ⟨l', hl', fun i hi => by simpa using h3 i (by omega) hi, h4⟩
theorem heldItemS_ok (l : List S104) (c : Int) (hl : l.length ≤ 2000000) (h0 : 0 ≤ c) (h1 : c + 3 * l.length ≤ 100000000000000) (hG : ∀ i, i < l.length → l[i]? = some (mkItem (c + 3 * (i : Int)))) :
    ∀ k, l.length + 20 < k → laws_heldItemS.f k l c = some (c + 3 * l.length) := by
  exact held_loop (F := fun k l c j => laws_heldItemS.l0 k l c j) (G := mkItem) (w := 3) (fun k c j hj hl hk h0 h1 hP => by
      have hr : rd_T104 l (j : Int) = mkItem c := by unfold rd_T104; rw [getD_at _ hj]; exact hP
      simp (disch := omega) only [laws_heldItemS.l0, hr, mkItem, ip, Option.bind_some, w64, markText_eq, if_true, bne_self_eq_false, Bool.false_eq_true, if_false]
      congr 1 <;> omega) (fun k c => by simp only [laws_heldItemS.l0]; rw [if_neg (by omega)]) hl l.length 0 c (by omega) (by omega) h0 h1 (fun i _ hi => by simpa using hG i hi)
theorem markheldItem (l : List S104) (hl : l.length ≤ 2000000) (c : Int) (h0 : 0 ≤ c) (h1 : c ≤ 10000000000000) : ∃ (m : Int) (l' : List S104), 0 ≤ m ∧ m ≤ c + 3 * l.length ∧ Ev (fun k => laws_markItemS.f k l c) (m, l') ∧ Ev (fun k => laws_heldItemS.f k l' c) m := by
  obtain ⟨l', hl', h2, h3⟩ := markItemS_ok l c hl h0 (by omega)
  refine ⟨c + 3 * l.length, l', by omega, by omega, ⟨l.length + 21, fun k hk => h3 k (by omega)⟩, ⟨l.length + 21, fun k hk => ?_⟩⟩
  have := heldItemS_ok l' c (by omega) h0 (by omega) (fun i hi => h2 i (by omega)) k (by omega)
  rw [hl'] at this
  exact this
theorem eqItemS_ok (l : List S104) (hl : l.length ≤ 2000000) : ∀ k, l.length < k → laws_eqItemS.f k l l = some true := by
  intro k hk
  unfold laws_eqItemS.f
  rw [if_pos rfl]
  refine up_loop (F := fun k j => laws_eqItemS.l0 k l l j) (n := l.length) ?_ ?_ l.length 0 (by omega) (by omega) k hk
  · intro k j hj
    simp (disch := omega) only [laws_eqItemS.l0, laws_eqItem.f, ip, w64, Option.bind_some, if_true, bne_self_eq_false, Bool.false_eq_true, if_false]
    rfl
  · intro k
    simp only [laws_eqItemS.l0]
    rw [if_neg (by omega)]

/-! ### keep -/
theorem eqKeep_ok (a : List S101) (b : List S104) (ha : a.length ≤ 2000000) (hb : b.length ≤ 2000000) : ∀ k, a.length + b.length < k → laws_eqKeep.f k a b a b = some true := by
  intro k hk
  unfold laws_eqKeep.f
  rw [eqSessionS_ok a ha k (by omega), eqItemS_ok b hb k (by omega)]
  rfl

/-! ### keepok -/
def pS (a : List S101) (j : Nat) : Bool :=
  rng (rd_T101 a j).f0 1 1000000 && (!(decide ((j : Int) > 0) && decide ((rd_T101 a ((j : Int) - 1)).f0 ≥ (rd_T101 a j).f0)) && (rng (rd_T101 a j).f1 0 1000000 && (decide (((rd_T101 a j).f2.size : Int) ≤ 40) && (!decide ((rd_T101 a j).f1 = 0) || decide ((rd_T101 a j).f2.toList = ([] : List UInt8))))))
def pI (a : List S104) (j : Nat) : Bool :=
  rng ((rd_T104 a j).f0.size : Int) 1 8 && ((!decide ((j : Int) > 0) || Op.bytesLess (rd_T104 a ((j : Int) - 1)).f0.toList (rd_T104 a j).f0.toList) && (decide (((rd_T104 a j).f1.size : Int) ≤ 20) && rng (rd_T104 a j).f2 1 1000000000))
def keepB (a : List S101) (b : List S104) : Bool :=
  (allF (pS a) 0 a.length && decide ((a.length : Int) ≤ 3)) && (allF (pI b) 0 b.length && decide ((b.length : Int) ≤ 8))
theorem gt_iff {x : Int} : (x > 40) = ¬ (x ≤ 40) := by simp
theorem gt_iff20 {x : Int} : (x > 20) = ¬ (x ≤ 20) := by simp
theorem spec_sess (a : List S101) (ha : a.length ≤ 1048576) : Ev (fun k => spec_l15Sessions.f k a) (allF (pS a) 0 a.length && decide ((a.length : Int) ≤ 3)) := by
  refine all_ev (F := fun k j => spec_l15Sessions.l0 k a (j : Int)) (n := a.length) (fun j hj => ?_) ?_ a.length 0 (by omega) (by omega)
  · have es : ∀ k, spec_l15Sessions.l0 (k + 1) a (j : Int) = if pS a j = true then spec_l15Sessions.l0 k a ((j + 1 : Nat) : Int) else some false := fun k => by
      simp only [spec_l15Sessions.l0]
      rw [if_pos (by omega), if_pos (by omega)]
      simp only [in_eq, Option.bind_some, gt_iff]
      rw [w64 (x := (j : Int) + 1) (by omega) (by omega), w64 (x := (j : Int) - 1) (by omega) (by omega)]
      unfold pS
      have e1 : ((j : Int) + 1) = ((j + 1 : Nat) : Int) := by omega
      rw [e1]
      by_cases h0 : (j : Int) > 0
      · simp only [h0, show (0 : Int) ≤ (j : Int) - 1 by omega, show (j : Int) - 1 < (a.length : Int) by omega, if_true]
        cases h1 : rng (rd_T101 a j).f0 1 1000000 <;> cases h2 : rng (rd_T101 a j).f1 0 1000000 <;>
          by_cases h3 : (rd_T101 a ((j : Int) - 1)).f0 ≥ (rd_T101 a j).f0 <;> by_cases h4 : ((rd_T101 a j).f2.size : Int) ≤ 40 <;>
          by_cases h5 : (rd_T101 a j).f1 = 0 <;> by_cases h6 : (rd_T101 a j).f2.toList = ([] : List UInt8) <;> simp [h1, h2, h3, h4, h5, h6]
      · simp only [h0, if_false]
        cases h1 : rng (rd_T101 a j).f0 1 1000000 <;> cases h2 : rng (rd_T101 a j).f1 0 1000000 <;>
          by_cases h4 : ((rd_T101 a j).f2.size : Int) ≤ 40 <;>
          by_cases h5 : (rd_T101 a j).f1 = 0 <;> by_cases h6 : (rd_T101 a j).f2.toList = ([] : List UInt8) <;> simp [h1, h2, h4, h5, h6]
    refine ⟨fun hp r hr => Ev.step (fun k => by rw [es, if_pos hp]) hr, fun hp => Ev.here (f := fun _ => some false) (fun k => by rw [es, if_neg (by simp [hp])]) (fun _ => rfl)⟩
  · exact Ev.here (f := fun _ => some (decide ((a.length : Int) ≤ 3))) (fun k => by simp only [spec_l15Sessions.l0]; rw [if_neg (by omega)]) (fun _ => rfl)
theorem spec_KeepOk_ok (a : List S101) (b : List S104) (ha : a.length ≤ 1048576) (hb : b.length ≤ 1048576) : Ev (fun k => spec_KeepOk.f k a b) (keepB a b) := by
  have hfin : Ev (fun k => spec_KeepOk.l0 k ((b.length : Nat) : Int) a b) (allF (pS a) 0 a.length && decide ((a.length : Int) ≤ 3) && decide ((b.length : Int) ≤ 8)) := by
    refine Ev.step (fun k => by simp only [spec_KeepOk.l0]; rw [if_neg (by omega)]) ?_
    refine Ev.bind (spec_sess a ha) ?_
    cases allF (pS a) 0 a.length && decide ((a.length : Int) ≤ 3)
    · simpa using Ev.now false
    · simpa using Ev.now (decide ((b.length : Int) ≤ 8))
  have h := all_ev (F := fun k j => spec_KeepOk.l0 k (j : Int) a b) (p := pI b) (n := b.length) (fun j hj => ?_) hfin b.length 0 (by omega) (by omega)
  · have e : keepB a b = (allF (pI b) 0 b.length && (allF (pS a) 0 a.length && decide ((a.length : Int) ≤ 3) && decide ((b.length : Int) ≤ 8))) := by
      unfold keepB
      cases allF (pI b) 0 b.length <;> cases allF (pS a) 0 a.length && decide ((a.length : Int) ≤ 3) <;> simp
    rw [e]
    exact h
  · have es : ∀ k, spec_KeepOk.l0 (k + 1) (j : Int) a b = if pI b j = true then spec_KeepOk.l0 k ((j + 1 : Nat) : Int) a b else some false := fun k => by
      simp only [spec_KeepOk.l0]
      rw [if_pos (by omega), if_pos (by omega)]
      simp only [in_eq, Option.bind_some, gt_iff20]
      rw [w64 (x := (j : Int) + 1) (by omega) (by omega), w64 (x := (j : Int) - 1) (by omega) (by omega)]
      unfold pI
      have e1 : ((j : Int) + 1) = ((j + 1 : Nat) : Int) := by omega
      rw [e1]
      by_cases h0 : (j : Int) > 0
      · simp only [h0, show (0 : Int) ≤ (j : Int) - 1 by omega, show (j : Int) - 1 < (b.length : Int) by omega, if_true]
        cases h1 : rng ((rd_T104 b j).f0.size : Int) 1 8 <;> cases h2 : rng (rd_T104 b j).f2 1 1000000000 <;>
          cases h3 : Op.bytesLess (rd_T104 b ((j : Int) - 1)).f0.toList (rd_T104 b j).f0.toList <;> by_cases h4 : ((rd_T104 b j).f1.size : Int) ≤ 20 <;> simp [h1, h2, h3, h4]
      · simp only [h0, if_false]
        cases h1 : rng ((rd_T104 b j).f0.size : Int) 1 8 <;> cases h2 : rng (rd_T104 b j).f2 1 1000000000 <;>
          by_cases h4 : ((rd_T104 b j).f1.size : Int) ≤ 20 <;> simp [h1, h2, h4]
    refine ⟨fun hp r hr => Ev.step (fun k => by rw [es, if_pos hp]) hr, fun hp => Ev.here (f := fun _ => some false) (fun k => by rw [es, if_neg (by simp [hp])]) (fun _ => rfl)⟩
theorem impl_items (a : List S101) (b : List S104) (ha : a.length ≤ 1048576) (hb : b.length ≤ 1048576) : Ev (fun k => impl_KeepOk.l1 k b (b.length : Int) 0 a b) (decide ((a.length : Int) ≤ 3) && (allF (pI b) 0 b.length && decide ((b.length : Int) ≤ 8))) := by
  have hfin : Ev (fun k => impl_KeepOk.l1 k b (b.length : Int) ((b.length : Nat) : Int) a b) (decide ((a.length : Int) ≤ 3) && decide ((b.length : Int) ≤ 8)) := by
    refine Ev.here (f := fun _ => some (decide ((a.length : Int) ≤ 3) && decide ((b.length : Int) ≤ 8))) (fun k => ?_) (fun _ => rfl)
    simp only [impl_KeepOk.l1]
    rw [if_neg (by omega)]
    by_cases h : (a.length : Int) ≤ 3 <;> simp [h]
  have h := all_ev (F := fun k j => impl_KeepOk.l1 k b (b.length : Int) (j : Int) a b) (p := pI b) (n := b.length) (fun j hj => ?_) hfin b.length 0 (by omega) (by omega)
  · have e : (decide ((a.length : Int) ≤ 3) && (allF (pI b) 0 b.length && decide ((b.length : Int) ≤ 8))) = (allF (pI b) 0 b.length && (decide ((a.length : Int) ≤ 3) && decide ((b.length : Int) ≤ 8))) := by
      cases allF (pI b) 0 b.length <;> cases decide ((a.length : Int) ≤ 3) <;> simp
    rw [e]
    exact h
  · have es : ∀ k, impl_KeepOk.l1 (k + 1) b (b.length : Int) (j : Int) a b = if pI b j = true then impl_KeepOk.l1 k b (b.length : Int) ((j + 1 : Nat) : Int) a b else some false := fun k => by
      simp only [impl_KeepOk.l1]
      rw [if_pos (by omega), if_pos (by omega), if_pos (by omega)]
      simp only [impl_keyOk.f, impl_valOk.f, within_eq, Option.bind_some, decide_eq_true_eq]
      rw [w64 (x := (j : Int) + 1) (by omega) (by omega), w64 (x := (j : Int) - 1) (by omega) (by omega)]
      unfold pI
      have e1 : ((j : Int) + 1) = ((j + 1 : Nat) : Int) := by omega
      rw [e1]
      by_cases h0 : (j : Int) > 0
      · simp only [h0, show (0 : Int) ≤ (j : Int) - 1 by omega, show (j : Int) - 1 < (b.length : Int) by omega, if_true]
        cases h1 : rng ((rd_T104 b j).f0.size : Int) 1 8 <;> cases h2 : rng (rd_T104 b j).f2 1 1000000000 <;>
          cases h3 : Op.bytesLess (rd_T104 b ((j : Int) - 1)).f0.toList (rd_T104 b j).f0.toList <;> by_cases h4 : ((rd_T104 b j).f1.size : Int) ≤ 20 <;> simp [h1, h2, h3, h4]
      · simp only [h0, if_false]
        cases h1 : rng ((rd_T104 b j).f0.size : Int) 1 8 <;> cases h2 : rng (rd_T104 b j).f2 1 1000000000 <;>
          by_cases h4 : ((rd_T104 b j).f1.size : Int) ≤ 20 <;> simp [h1, h2, h4]
    refine ⟨fun hp r hr => Ev.step (fun k => by rw [es, if_pos hp]) hr, fun hp => Ev.here (f := fun _ => some false) (fun k => by rw [es, if_neg (by simp [hp])]) (fun _ => rfl)⟩
theorem impl_KeepOk_ok (a : List S101) (b : List S104) (ha : a.length ≤ 1048576) (hb : b.length ≤ 1048576) : Ev (fun k => impl_KeepOk.f k a b) (keepB a b) := by
  have hfin : Ev (fun k => impl_KeepOk.l0 k a (a.length : Int) ((a.length : Nat) : Int) a b) (decide ((a.length : Int) ≤ 3) && (allF (pI b) 0 b.length && decide ((b.length : Int) ≤ 8))) :=
    Ev.step (fun k => by simp only [impl_KeepOk.l0]; rw [if_neg (by omega)]) (impl_items a b ha hb)
  have h := all_ev (F := fun k j => impl_KeepOk.l0 k a (a.length : Int) (j : Int) a b) (p := pS a) (n := a.length) (fun j hj => ?_) hfin a.length 0 (by omega) (by omega)
  · have e : keepB a b = (allF (pS a) 0 a.length && (decide ((a.length : Int) ≤ 3) && (allF (pI b) 0 b.length && decide ((b.length : Int) ≤ 8)))) := by
      unfold keepB
      cases allF (pS a) 0 a.length <;> simp
    rw [e]
    exact h
  · have es : ∀ k, impl_KeepOk.l0 (k + 2) a (a.length : Int) (j : Int) a b = if pS a j = true then impl_KeepOk.l0 k a (a.length : Int) ((j + 1 : Nat) : Int) a b else some false := fun k => by
      simp only [impl_KeepOk.l0, impl_KeepOk.j1]
      rw [if_pos (by omega), if_pos (by omega), if_pos (by omega)]
      simp only [impl_isIndex.f, within_eq, Option.bind_some, gt_iff]
      rw [w64 (x := (j : Int) + 1) (by omega) (by omega), w64 (x := (j : Int) - 1) (by omega) (by omega)]
      unfold pS
      have e1 : ((j : Int) + 1) = ((j + 1 : Nat) : Int) := by omega
      rw [e1]
      by_cases h0 : (j : Int) > 0
      · simp only [h0, show (0 : Int) ≤ (j : Int) - 1 by omega, show (j : Int) - 1 < (a.length : Int) by omega, if_true]
        cases h1 : rng (rd_T101 a j).f0 1 1000000 <;> cases h2 : rng (rd_T101 a j).f1 0 1000000 <;>
          by_cases h3 : (rd_T101 a ((j : Int) - 1)).f0 ≥ (rd_T101 a j).f0 <;> by_cases h4 : ((rd_T101 a j).f2.size : Int) ≤ 40 <;>
          by_cases h5 : (rd_T101 a j).f1 = 0 <;> by_cases h6 : (rd_T101 a j).f2.toList = ([] : List UInt8) <;> simp [h1, h2, h3, h4, h5, h6]
      · simp only [h0, if_false]
        cases h1 : rng (rd_T101 a j).f0 1 1000000 <;> cases h2 : rng (rd_T101 a j).f1 0 1000000 <;>
          by_cases h4 : ((rd_T101 a j).f2.size : Int) ≤ 40 <;>
          by_cases h5 : (rd_T101 a j).f1 = 0 <;> by_cases h6 : (rd_T101 a j).f2.toList = ([] : List UInt8) <;> simp [h1, h2, h4, h5, h6]
    have two : ∀ r, Ev (fun k => if pS a j = true then impl_KeepOk.l0 k a (a.length : Int) ((j + 1 : Nat) : Int) a b else some false) r → Ev (fun k => impl_KeepOk.l0 k a (a.length : Int) (j : Int) a b) r := by
      rintro r ⟨K, hK⟩
      refine ⟨K + 2, fun k hk => ?_⟩
      obtain ⟨m, rfl⟩ : ∃ m, k = m + 2 := ⟨k - 2, by omega⟩
      show impl_KeepOk.l0 (m + 2) a (a.length : Int) (j : Int) a b = some r
      rw [es]
      exact hK m (by omega)
    refine ⟨fun hp r hr => two r (by simpa only [hp, if_true] using hr), fun hp => two false ⟨0, fun k _ => by simp [hp]⟩⟩

/-! ### keeptext -/
theorem allF_all {p : Nat → Bool} : ∀ d j, allF p j d = true → ∀ i, j ≤ i → i < j + d → p i = true := by
  intro d
  induction d with
  | zero => intro j _ i h1 h2; omega
  | succ d ih =>
    intro j h i h1 h2
    unfold allF at h
    rw [Bool.and_eq_true] at h
    by_cases hij : i = j
    · subst hij; exact h.1
    · exact ih (j + 1) h.2 i (by omega) (by omega)
def encS (x : S101) : ByteArray := varT x.f0 ++ varT x.f1 ++ shortT x.f2
def encI (x : S104) : ByteArray := shortT x.f0 ++ shortT x.f1 ++ varT x.f2
def keepT (a : List S101) (b : List S104) : ByteArray := varT (a.length : Int) ++ catB encS a ++ (varT (b.length : Int) ++ catB encI b)
theorem keepB_iff {a : List S101} {b : List S104} (h : keepB a b = true) : (a.length ≤ 3 ∧ b.length ≤ 8) ∧
    (∀ j (hj : j < a.length), (1 ≤ a[j].f0 ∧ a[j].f0 ≤ 1000000) ∧ (0 ≤ a[j].f1 ∧ a[j].f1 ≤ 1000000) ∧ a[j].f2.size ≤ 40) ∧ (∀ j (hj : j < b.length), b[j].f0.size ≤ 8 ∧ b[j].f1.size ≤ 20 ∧ (1 ≤ b[j].f2 ∧ b[j].f2 ≤ 1000000000)) := by
  unfold keepB at h
  simp only [Bool.and_eq_true, decide_eq_true_eq] at h
  obtain ⟨⟨hs, ha⟩, hi, hb⟩ := h
  refine ⟨⟨by omega, by omega⟩, fun j hj => ?_, fun j hj => ?_⟩
  · have := allF_all _ _ hs j (by omega) (by omega)
    unfold pS at this
    have hget : rd_T101 a (j : Int) = a[j] := by unfold rd_T101; exact getD_at _ hj
    simp only [Bool.and_eq_true, rng_iff, decide_eq_true_eq, hget] at this
    omega
  · have := allF_all _ _ hi j (by omega) (by omega)
    unfold pI at this
    have hget : rd_T104 b (j : Int) = b[j] := by unfold rd_T104; exact getD_at _ hj
    simp only [Bool.and_eq_true, rng_iff, decide_eq_true_eq, hget] at this
    omega
theorem spec_kt_items (a : List S101) (b : List S104) (h : keepB a b = true) : ∀ (d j : Nat) (acc : ByteArray), b.length - j = d → j ≤ b.length → acc.size ≤ 10000 + 100 * j → Ev (fun k => spec_KeepText.l1 k acc (j : Int) a b) (acc ++ catB encI (b.drop j), true) := by
  obtain ⟨⟨_, hl⟩, _, hI⟩ := keepB_iff h
  intro d
  induction d with
  | zero =>
    intro j acc hd hj ha
    rw [List.drop_of_length_le (by omega)]
    simp only [catB, app_empty]
    exact Ev.step (f := fun _ => some (acc, true)) (fun k => by simp only [spec_KeepText.l1]; rw [if_neg (by omega)]) (Ev.now _)
  | succ d ih =>
    intro j acc hd hj ha
    have hjl : j < b.length := by omega
    obtain ⟨h1, h2, h3⟩ := hI j hjl
    have hget : rd_T104 b (j : Int) = b[j] := by unfold rd_T104; exact getD_at _ hjl
    refine Ev.step (fun k => rfl) ?_
    simp only [spec_KeepText.l1, if_pos (show (j : Int) < (b.length : Int) by omega), if_pos (show (0 : Int) ≤ (j : Int) by omega), hget, w64 (x := (j : Int) + 1) (by omega) (by omega)]
    have s1 := shortT_size b[j].f0
    have s2 := shortT_size b[j].f1
    have s3 := varT_size b[j].f2
    refine Ev.bind (spec_short b[j].f0 (by omega)) ?_
    simp only [if_pos (show acc.size + (shortT b[j].f0).size ≤ 9223372036854775807 by omega)]
    refine Ev.bind (spec_short b[j].f1 (by omega)) ?_
    simp only [if_pos (show (acc ++ shortT b[j].f0).size + (shortT b[j].f1).size ≤ 9223372036854775807 by rw [ByteArray.size_append]; omega)]
    refine Ev.bind (spec_var b[j].f2 (by omega) (by omega)) ?_
    simp only [if_pos (show (acc ++ shortT b[j].f0 ++ shortT b[j].f1).size + (varT b[j].f2).size ≤ 9223372036854775807 by rw [ByteArray.size_append, ByteArray.size_append]; omega)]
    have := ih (j + 1) (acc ++ shortT b[j].f0 ++ shortT b[j].f1 ++ varT b[j].f2) (by omega) (by omega) (by rw [ByteArray.size_append, ByteArray.size_append, ByteArray.size_append]; omega)
    rw [List.drop_eq_getElem_cons hjl, catB, encI]
    simp only [ByteArray.append_assoc] at this ⊢
    exact this
theorem spec_kt_sess (a : List S101) (b : List S104) (h : keepB a b = true) : ∀ (d j : Nat) (acc : ByteArray), a.length - j = d → j ≤ a.length → acc.size ≤ 1000 + 100 * j → Ev (fun k => spec_KeepText.l0 k acc (j : Int) a b) (acc ++ catB encS (a.drop j) ++ (varT (b.length : Int) ++ catB encI b), true) := by
  obtain ⟨⟨hl, hl2⟩, hS, _⟩ := keepB_iff h
  intro d
  induction d with
  | zero =>
    intro j acc hd hj ha
    rw [List.drop_of_length_le (by omega)]
    simp only [catB, app_empty]
    have s0 := varT_size (b.length : Int)
    refine Ev.step (fun k => rfl) ?_
    simp only [spec_KeepText.l0, if_neg (show ¬ (j : Int) < (a.length : Int) by omega)]
    refine Ev.bind (spec_var (b.length : Int) (by omega) (by omega)) ?_
    simp only [if_pos (show acc.size + (varT (b.length : Int)).size ≤ 9223372036854775807 by omega)]
    have := spec_kt_items a b h b.length 0 (acc ++ varT (b.length : Int)) (by omega) (by omega) (by rw [ByteArray.size_append]; omega)
    simp only [List.drop_zero, ByteArray.append_assoc] at this
    exact this
  | succ d ih =>
    intro j acc hd hj ha
    have hjl : j < a.length := by omega
    obtain ⟨h1, h2, h3⟩ := hS j hjl
    have hget : rd_T101 a (j : Int) = a[j] := by unfold rd_T101; exact getD_at _ hjl
    refine Ev.step (fun k => rfl) ?_
    simp only [spec_KeepText.l0, if_pos (show (j : Int) < (a.length : Int) by omega), if_pos (show (0 : Int) ≤ (j : Int) by omega), hget, w64 (x := (j : Int) + 1) (by omega) (by omega)]
    have s1 := varT_size a[j].f0
    have s2 := varT_size a[j].f1
    have s3 := shortT_size a[j].f2
    refine Ev.bind (spec_var a[j].f0 (by omega) (by omega)) ?_
    simp only [if_pos (show acc.size + (varT a[j].f0).size ≤ 9223372036854775807 by omega)]
    refine Ev.bind (spec_var a[j].f1 (by omega) (by omega)) ?_
    simp only [if_pos (show (acc ++ varT a[j].f0).size + (varT a[j].f1).size ≤ 9223372036854775807 by rw [ByteArray.size_append]; omega)]
    refine Ev.bind (spec_short a[j].f2 (by omega)) ?_
    simp only [if_pos (show (acc ++ varT a[j].f0 ++ varT a[j].f1).size + (shortT a[j].f2).size ≤ 9223372036854775807 by rw [ByteArray.size_append, ByteArray.size_append]; omega)]
    have := ih (j + 1) (acc ++ varT a[j].f0 ++ varT a[j].f1 ++ shortT a[j].f2) (by omega) (by omega) (by rw [ByteArray.size_append, ByteArray.size_append, ByteArray.size_append]; omega)
    rw [List.drop_eq_getElem_cons hjl, catB, encS]
    simp only [ByteArray.append_assoc] at this ⊢
    exact this
theorem spec_KeepText_ok (a : List S101) (b : List S104) (ha : a.length ≤ 1048576) (hb : b.length ≤ 1048576) : Ev (fun k => spec_KeepText.f k a b) (if keepB a b = true then (keepT a b, true) else ((⟨#[]⟩ : ByteArray), false)) := by
  unfold spec_KeepText.f
  refine Ev.bind (spec_KeepOk_ok a b ha hb) ?_
  by_cases h : keepB a b = true
  · have s0 := varT_size (a.length : Int)
    simp only [if_pos h]
    refine Ev.bind (spec_var (a.length : Int) (by omega) (by omega)) ?_
    have := spec_kt_sess a b h a.length 0 (varT (a.length : Int)) (by omega) (by omega) (by omega)
    simp only [List.drop_zero] at this
    exact this
  · simp only [if_neg h]
    exact Ev.now _

/-! ### readkeep -/
def noKeep : List S101 × List S104 × Bool := ([], [], false)
theorem num_bad (s : ByteArray) (a : Int) : numB s a true = (0, s, a, true) := by unfold numB; rw [if_pos rfl]
theorem sho_bad (s : ByteArray) (a : Int) : shoB s a true = ((⟨#[]⟩ : ByteArray), s, a, true) := by unfold shoB; rw [if_pos rfl]
theorem num_s (s : ByteArray) (a : Int) (b : Bool) : (numB s a b).2.1 = s := by
  unfold numB
  split
  · rfl
  · split <;> rfl
theorem sho_s (s : ByteArray) (a : Int) (b : Bool) : (shoB s a b).2.1 = s := by
  unfold shoB
  split
  · rfl
  · split <;> rfl
theorem num_r (s : ByteArray) (a : Int) (b : Bool) : 0 ≤ (numB s a b).1 ∧ (numB s a b).1 ≤ 1000000000 := by
  unfold numB
  split
  · exact ⟨by show (0 : Int) ≤ 0; omega, by show (0 : Int) ≤ 1000000000; omega⟩
  · split
    · rename_i h
      have hv := readV_ok (s := s) (a := a) (v := (readV s a).1) (nx := (readV s a).2.1) (by rw [← h])
      exact hv.2.1
    · exact ⟨by show (0 : Int) ≤ 0; omega, by show (0 : Int) ≤ 1000000000; omega⟩
/-- One session, one item. -/
def oneS (s : ByteArray) (a : Int) (b : Bool) : S101 × Int × Bool :=
  let p := numB s a b
  let q := numB s p.2.2.1 p.2.2.2
  let r := shoB s q.2.2.1 q.2.2.2
  (⟨p.1, q.1, r.1⟩, r.2.2.1, r.2.2.2)
def oneI (s : ByteArray) (a : Int) (b : Bool) : S104 × Int × Bool :=
  let p := shoB s a b
  let q := shoB s p.2.2.1 p.2.2.2
  let r := numB s q.2.2.1 q.2.2.2
  (⟨p.1, q.1, r.1⟩, r.2.2.1, r.2.2.2)
theorem oneS_bad (s : ByteArray) (a : Int) : (oneS s a true).2.2 = true := by simp only [oneS, num_bad, sho_bad]
theorem oneI_bad (s : ByteArray) (a : Int) : (oneI s a true).2.2 = true := by simp only [oneI, num_bad, sho_bad]
theorem oneS_read {s p : ByteArray} {a : Int} {b : Bool} (h : Read s p a b) : Read s (p ++ encS (oneS s a b).1) (oneS s a b).2.1 (oneS s a b).2.2 := by
  have h1 := (num_read h).2.1
  have h2 := (num_read h1).2.1
  have h3 := (sho_read h2).2.1
  simp only [oneS, encS]
  simp only [ByteArray.append_assoc] at h3 ⊢
  exact h3
theorem oneI_read {s p : ByteArray} {a : Int} {b : Bool} (h : Read s p a b) : Read s (p ++ encI (oneI s a b).1) (oneI s a b).2.1 (oneI s a b).2.2 := by
  have h1 := (sho_read h).2.1
  have h2 := (sho_read h1).2.1
  have h3 := (num_read h2).2.1
  simp only [oneI, encI]
  simp only [ByteArray.append_assoc] at h3 ⊢
  exact h3
/-- Reads till n are there, or it is bad (spec); reads d more (impl). -/
def goU {α : Type} (one : Int → Bool → α × Int × Bool) (n : Int) : Nat → Int → Bool → List α → List α × Int × Bool
  | 0, a, b, acc => (acc, a, b)
  | d + 1, a, b, acc => if (acc.length : Int) < n ∧ b = false then goU one n d (one a b).2.1 (one a b).2.2 (acc ++ [(one a b).1]) else (acc, a, b)
def goA {α : Type} (one : Int → Bool → α × Int × Bool) : Nat → Int → Bool → List α → List α × Int × Bool
  | 0, a, b, acc => (acc, a, b)
  | d + 1, a, b, acc => goA one d (one a b).2.1 (one a b).2.2 (acc ++ [(one a b).1])
theorem goA_bad {α : Type} {one : Int → Bool → α × Int × Bool} (h : ∀ a, (one a true).2.2 = true) : ∀ d a acc, (goA one d a true acc).2.2 = true := by
  intro d
  induction d with
  | zero => intro a acc; rfl
  | succ d ih => intro a acc; simp only [goA, h a]; exact ih _ _
theorem goA_len {α : Type} {one : Int → Bool → α × Int × Bool} : ∀ d a b acc, (goA one d a b acc).1.length = acc.length + d := by
  intro d
  induction d with
  | zero => intro a b acc; rfl
  | succ d ih => intro a b acc; simp only [goA]; rw [ih, List.length_append, List.length_singleton]; omega
theorem goU_bad {α : Type} {one : Int → Bool → α × Int × Bool} {n : Int} : ∀ d a acc, goU one n d a true acc = (acc, a, true) := by
  intro d a acc
  cases d with
  | zero => rfl
  | succ d => simp only [goU]; rw [if_neg (by simp)]
theorem goU_end {α : Type} {one : Int → Bool → α × Int × Bool} {n : Int} : ∀ d a b (acc : List α), ¬ ((acc.length : Int) < n) → goU one n d a b acc = (acc, a, b) := by
  intro d a b acc h
  cases d with
  | zero => rfl
  | succ d => simp only [goU]; rw [if_neg (fun hh => h hh.1)]
theorem goU_len {α : Type} {one : Int → Bool → α × Int × Bool} {n : Int} : ∀ d a b (acc : List α), (goU one n d a b acc).1.length ≤ acc.length + d ∧ ((goU one n d a b acc).2.2 = true ∨ n ≤ ((goU one n d a b acc).1.length : Int) ∨ (goU one n d a b acc).1.length = acc.length + d) := by
  intro d
  induction d with
  | zero => intro a b acc; exact ⟨by simp only [goU]; omega, .inr (.inr rfl)⟩
  | succ d ih =>
    intro a b acc
    simp only [goU]
    by_cases h : (acc.length : Int) < n ∧ b = false
    · simp only [if_pos h]
      have := ih (one a b).2.1 (one a b).2.2 (acc ++ [(one a b).1])
      rw [List.length_append, List.length_singleton] at this
      refine ⟨by omega, ?_⟩
      rcases this.2 with h1 | h1 | h1
      · exact .inl h1
      · exact .inr (.inl h1)
      · exact .inr (.inr (by omega))
    · simp only [if_neg h]
      refine ⟨by omega, ?_⟩
      cases b with
      | true => exact .inl rfl
      | false => exact .inr (.inl (by have : ¬ (acc.length : Int) < n := fun hh => h ⟨hh, rfl⟩; omega))
theorem go_rel {α : Type} {one : Int → Bool → α × Int × Bool} (h : ∀ a, (one a true).2.2 = true) {n : Int} : ∀ (d d2 : Nat) (a : Int) (b : Bool) (acc : List α), (acc.length : Int) + d = n → d ≤ d2 →
    (goU one n d2 a b acc).2.2 = (goA one d a b acc).2.2 ∧ ((goA one d a b acc).2.2 = false → goU one n d2 a b acc = goA one d a b acc) := by
  intro d
  induction d with
  | zero =>
    intro d2 a b acc hn hd
    rw [goU_end d2 a b acc (by omega)]
    exact ⟨rfl, fun _ => rfl⟩
  | succ d ih =>
    intro d2 a b acc hn hd
    obtain ⟨d2, rfl⟩ : ∃ m, d2 = m + 1 := ⟨d2 - 1, by omega⟩
    cases b with
    | true =>
      rw [goU_bad, goA_bad h]
      exact ⟨rfl, fun hh => by cases hh⟩
    | false =>
      simp only [goU, goA]
      rw [if_pos ⟨by omega, trivial⟩]
      exact ih d2 _ _ _ (by rw [List.length_append, List.length_singleton]; omega) (by omega)
theorem goA_read {α : Type} {one : Int → Bool → α × Int × Bool} {enc : α → ByteArray} {s : ByteArray} (h : ∀ p a b, Read s p a b → Read s (p ++ enc (one a b).1) (one a b).2.1 (one a b).2.2) : ∀ d p a b acc, Read s (p ++ catB enc acc) a b → Read s (p ++ catB enc (goA one d a b acc).1) (goA one d a b acc).2.1 (goA one d a b acc).2.2 := by
  have hc : ∀ (l : List α) (x : α), catB enc (l ++ [x]) = catB enc l ++ enc x := by
    intro l x
    induction l with
    | nil => simp only [List.nil_append, catB, app_empty, empty_app]
    | cons y l ih => simp only [List.cons_append, catB, ih, ByteArray.append_assoc]
  intro d
  induction d with
  | zero => intro p a b acc hr; exact hr
  | succ d ih =>
    intro p a b acc hr
    simp only [goA]
    apply ih
    rw [hc, ← ByteArray.append_assoc]
    exact h _ _ _ hr
theorem impl_count (s : ByteArray) (a : Int) (b : Bool) (c : Int) (hs : s.size ≤ 9000000000000000000) : Ev (fun k => impl_scan_count.f k s a b c) (if (numB s a b).1 > c then (0, s, (numB s a b).2.2.1, true) else (numB s a b)) := by
  unfold impl_scan_count.f
  refine Ev.bind (impl_num s a b hs) ?_
  by_cases h : (numB s a b).1 > c
  · simp only [if_pos h, num_s]
    exact Ev.now _
  · simp only [if_neg h]
    exact Ev.now _
theorem impl_rk0 (s : ByteArray) (hs : s.size ≤ 9000000000000000000) (n : Int) (hn : n ≤ 100) (r : List S101 × List S104 × Bool) : ∀ (d : Nat) (a : Int) (b : Bool) (acc : List S101), (acc.length : Int) + d = n →
    Ev (fun k => (impl_scan_count.f k s (goA (oneS s) d a b acc).2.1 (goA (oneS s) d a b acc).2.2 8).bind fun bt => impl_ReadKeep.l1 k bt.1 0 bt.2.1 bt.2.2.1 bt.2.2.2 (goA (oneS s) d a b acc).1 []) r →
    Ev (fun k => impl_ReadKeep.l0 k n (acc.length : Int) s a b acc) r := by
  intro d
  induction d with
  | zero =>
    intro a b acc hd hr
    refine Ev.step (fun k => by simp only [impl_ReadKeep.l0]; rw [if_neg (by omega)]) ?_
    exact hr
  | succ d ih =>
    intro a b acc hd hr
    refine Ev.step (fun k => by simp only [impl_ReadKeep.l0]; rw [if_pos (by omega)]) ?_
    refine Ev.bind (impl_num s a b hs) ?_
    simp only [num_s]
    refine Ev.bind (impl_num s _ _ hs) ?_
    simp only [num_s]
    refine Ev.bind (impl_sho s _ _ hs) ?_
    simp only [sho_s]
    rw [w64 (x := (acc.length : Int) + 1) (by omega) (by omega)]
    simp only [if_pos (show acc.length < 4398046511104 by omega)]
    have := ih (oneS s a b).2.1 (oneS s a b).2.2 (acc ++ [(oneS s a b).1]) (by rw [List.length_append, List.length_singleton]; omega) hr
    rw [List.length_append, List.length_singleton] at this
    exact this
theorem impl_rk1 (s : ByteArray) (hs : s.size ≤ 9000000000000000000) (n : Int) (hn : n ≤ 100) (A : List S101) (r : List S101 × List S104 × Bool) : ∀ (d : Nat) (a : Int) (b : Bool) (acc : List S104), (acc.length : Int) + d = n →
    Ev (fun k => (impl_scan_done.f s (goA (oneI s) d a b acc).2.1 (goA (oneI s) d a b acc).2.2).bind fun bt266 => (if bt266.1 = true then ((impl_KeepOk.f k A (goA (oneI s) d a b acc).1).bind fun t270 => (if t270 = true then (some (A, (goA (oneI s) d a b acc).1, true)) else (some (noKeep)))) else (some (noKeep)))) r →
    Ev (fun k => impl_ReadKeep.l1 k n (acc.length : Int) s a b A acc) r := by
  intro d
  induction d with
  | zero =>
    intro a b acc hd hr
    refine Ev.step (fun k => by simp only [impl_ReadKeep.l1]; rw [if_neg (by omega)]) ?_
    exact hr
  | succ d ih =>
    intro a b acc hd hr
    refine Ev.step (fun k => by simp only [impl_ReadKeep.l1]; rw [if_pos (by omega)]) ?_
    refine Ev.bind (impl_sho s a b hs) ?_
    simp only [sho_s]
    refine Ev.bind (impl_sho s _ _ hs) ?_
    simp only [sho_s]
    refine Ev.bind (impl_num s _ _ hs) ?_
    simp only [num_s]
    rw [w64 (x := (acc.length : Int) + 1) (by omega) (by omega)]
    simp only [if_pos (show acc.length < 3518437208883 by omega)]
    have := ih (oneI s a b).2.1 (oneI s a b).2.2 (acc ++ [(oneI s a b).1]) (by rw [List.length_append, List.length_singleton]; omega) hr
    rw [List.length_append, List.length_singleton] at this
    exact this
theorem impl_fin (s : ByteArray) (A : List S101) (B : List S104) (a : Int) (b : Bool) (ha : A.length ≤ 1000) (hb : B.length ≤ 1000) : Ev (fun k => (impl_scan_done.f s a b).bind fun bt266 => (if bt266.1 = true then ((impl_KeepOk.f k A B).bind fun t270 => (if t270 = true then (some (A, B, true)) else (some (noKeep)))) else (some (noKeep)))) (if b = false ∧ a = (s.size : Int) ∧ keepB A B = true then (A, B, true) else noKeep) := by
  cases b with
  | true =>
    simp only [done_bad, Option.bind_some, Bool.false_eq_true, if_false]
    rw [if_neg (by simp)]
    exact Ev.now _
  | false =>
    simp only [done_ok, Option.bind_some]
    by_cases h : a = (s.size : Int)
    · simp only [h, beq_self_eq_true, if_true]
      refine Ev.bind (impl_KeepOk_ok A B (by omega) (by omega)) ?_
      by_cases hk : keepB A B = true
      · simp only [if_pos hk, hk, and_self, if_true]; exact Ev.now _
      · simp only [hk, and_false, if_false, Bool.false_eq_true]; exact Ev.now _
    · simp only [beq_eq_false_iff_ne.2 h, Bool.false_eq_true, if_false, h, false_and, and_false]
      exact Ev.now _
theorem spec_rk0 (s : ByteArray) (hs : s.size ≤ 9000000000000000000) (n : Int) (r : List S101 × List S104 × Bool) : ∀ (d : Nat) (a : Int) (b : Bool) (acc : List S101), acc.length + d = 50 →
    Ev (fun k => (spec_l16Var.f k s (goU (oneS s) n d a b acc).2.1 (goU (oneS s) n d a b acc).2.2).bind fun bt => spec_ReadKeep.l1 k s bt.1 0 bt.2.1 bt.2.2.1 bt.2.2.2 (goU (oneS s) n d a b acc).1 []) r →
    Ev (fun k => spec_ReadKeep.l0 k s n (acc.length : Int) s a b acc) r := by
  intro d
  have hout : ∀ x7 (a : Int) (b : Bool) (acc : List S101), Ev (fun k => (spec_l16Var.f k s a b).bind fun bt => spec_ReadKeep.l1 k s bt.1 0 bt.2.1 bt.2.2.1 bt.2.2.2 acc []) r → Ev (fun k => spec_ReadKeep.j1 k s n x7 false s a b acc) r := by
    intro x7 a b acc hr
    exact Ev.step (fun k => by simp only [spec_ReadKeep.j1, Bool.false_eq_true, if_false]) hr
  induction d with
  | zero =>
    intro a b acc hd hr
    refine Ev.step (f := fun k => spec_ReadKeep.j1 k s n (acc.length : Int) false s a b acc) (fun k => ?_) (hout _ _ _ _ hr)
    simp only [spec_ReadKeep.l0]
    by_cases h : (acc.length : Int) < n
    · rw [if_pos h, if_neg (by omega)]
    · rw [if_neg h]
  | succ d ih =>
    intro a b acc hd hr
    by_cases h : (acc.length : Int) < n ∧ b = false
    · obtain ⟨h, rfl⟩ := h
      have hg : ∀ a, goU (oneS s) n (d + 1) a false acc = goU (oneS s) n d (oneS s a false).2.1 (oneS s a false).2.2 (acc ++ [(oneS s a false).1]) := fun a => by simp only [goU]; rw [if_pos ⟨h, trivial⟩]
      rw [hg] at hr
      refine Ev.step (f := fun k => spec_ReadKeep.j1 k s n (acc.length : Int) true s a false acc) (fun k => by simp only [spec_ReadKeep.l0]; rw [if_pos h, if_pos (by omega)]; rfl) ?_
      refine Ev.step (fun k => by simp only [spec_ReadKeep.j1, if_true]; rfl) ?_
      refine Ev.bind (spec_num s a false hs) ?_
      simp only [num_s]
      refine Ev.bind (spec_num s _ _ hs) ?_
      simp only [num_s]
      refine Ev.bind (spec_sho s _ _ hs) ?_
      simp only [sho_s]
      rw [w64 (x := (acc.length : Int) + 1) (by omega) (by omega)]
      simp only [if_pos (show acc.length < 4398046511104 by omega)]
      have := ih (oneS s a false).2.1 (oneS s a false).2.2 (acc ++ [(oneS s a false).1]) (by rw [List.length_append, List.length_singleton]; omega) hr
      rw [List.length_append, List.length_singleton] at this
      exact this
    · have hg : goU (oneS s) n (d + 1) a b acc = (acc, a, b) := by simp only [goU]; rw [if_neg h]
      rw [hg] at hr
      refine Ev.step (f := fun k => spec_ReadKeep.j1 k s n (acc.length : Int) false s a b acc) (fun k => ?_) (hout _ _ _ _ hr)
      simp only [spec_ReadKeep.l0]
      by_cases h1 : (acc.length : Int) < n
      · rw [if_pos h1, if_pos (by omega)]
        cases b with
        | true => rfl
        | false => exact absurd ⟨h1, rfl⟩ h
      · rw [if_neg h1]
theorem spec_rk1 (s : ByteArray) (hs : s.size ≤ 9000000000000000000) (n : Int) (A : List S101) (r : List S101 × List S104 × Bool) : ∀ (d : Nat) (a : Int) (b : Bool) (acc : List S104), acc.length + d = 50 →
    Ev (fun k => (spec_KeepText.f k A (goU (oneI s) n d a b acc).1).bind fun bt193 => (if (goU (oneI s) n d a b acc).2.2 = true then (some (noKeep)) else (if bt193.2 = true then (if bt193.1.toList = s.toList then (some (A, (goU (oneI s) n d a b acc).1, true)) else (some (noKeep))) else (some (noKeep))))) r →
    Ev (fun k => spec_ReadKeep.l1 k s n (acc.length : Int) s a b A acc) r := by
  intro d
  have hout : ∀ x9 (a : Int) (b : Bool) (acc : List S104), Ev (fun k => (spec_KeepText.f k A acc).bind fun bt193 => (if b = true then (some (noKeep)) else (if bt193.2 = true then (if bt193.1.toList = s.toList then (some (A, acc, true)) else (some (noKeep))) else (some (noKeep))))) r → Ev (fun k => spec_ReadKeep.j3 k s n x9 false s a b A acc) r := by
    intro x9 a b acc hr
    exact Ev.step (fun k => by simp only [spec_ReadKeep.j3, Bool.false_eq_true, if_false]; rfl) hr
  induction d with
  | zero =>
    intro a b acc hd hr
    refine Ev.step (f := fun k => spec_ReadKeep.j3 k s n (acc.length : Int) false s a b A acc) (fun k => ?_) (hout _ _ _ _ hr)
    simp only [spec_ReadKeep.l1]
    by_cases h : (acc.length : Int) < n
    · rw [if_pos h, if_neg (by omega)]
    · rw [if_neg h]
  | succ d ih =>
    intro a b acc hd hr
    by_cases h : (acc.length : Int) < n ∧ b = false
    · obtain ⟨h, rfl⟩ := h
      have hg : ∀ a, goU (oneI s) n (d + 1) a false acc = goU (oneI s) n d (oneI s a false).2.1 (oneI s a false).2.2 (acc ++ [(oneI s a false).1]) := fun a => by simp only [goU]; rw [if_pos ⟨h, trivial⟩]
      rw [hg] at hr
      refine Ev.step (f := fun k => spec_ReadKeep.j3 k s n (acc.length : Int) true s a false A acc) (fun k => by simp only [spec_ReadKeep.l1]; rw [if_pos h, if_pos (by omega)]; rfl) ?_
      refine Ev.step (fun k => by simp only [spec_ReadKeep.j3, if_true]; rfl) ?_
      refine Ev.bind (spec_sho s a false hs) ?_
      simp only [sho_s]
      refine Ev.bind (spec_sho s _ _ hs) ?_
      simp only [sho_s]
      refine Ev.bind (spec_num s _ _ hs) ?_
      simp only [num_s]
      rw [w64 (x := (acc.length : Int) + 1) (by omega) (by omega)]
      simp only [if_pos (show acc.length < 3518437208883 by omega)]
      have := ih (oneI s a false).2.1 (oneI s a false).2.2 (acc ++ [(oneI s a false).1]) (by rw [List.length_append, List.length_singleton]; omega) hr
      rw [List.length_append, List.length_singleton] at this
      exact this
    · have hg : goU (oneI s) n (d + 1) a b acc = (acc, a, b) := by simp only [goU]; rw [if_neg h]
      rw [hg] at hr
      refine Ev.step (f := fun k => spec_ReadKeep.j3 k s n (acc.length : Int) false s a b A acc) (fun k => ?_) (hout _ _ _ _ hr)
      simp only [spec_ReadKeep.l1]
      by_cases h1 : (acc.length : Int) < n
      · rw [if_pos h1, if_pos (by omega)]
        cases b with
        | true => rfl
        | false => exact absurd ⟨h1, rfl⟩ h
      · rw [if_neg h1]
theorem spec_fin (s : ByteArray) (A : List S101) (B : List S104) (b : Bool) (ha : A.length ≤ 1000) (hb : B.length ≤ 1000) : Ev (fun k => (spec_KeepText.f k A B).bind fun bt193 => (if b = true then (some (noKeep)) else (if bt193.2 = true then (if bt193.1.toList = s.toList then (some (A, B, true)) else (some (noKeep))) else (some (noKeep))))) (if b = false ∧ keepT A B = s ∧ keepB A B = true then (A, B, true) else noKeep) := by
  refine Ev.bind (spec_KeepText_ok A B (by omega) (by omega)) ?_
  cases b with
  | true =>
    simp only [if_true]
    rw [if_neg (by simp)]
    exact Ev.now _
  | false =>
    by_cases hk : keepB A B = true
    · simp only [if_pos hk, hk, Bool.false_eq_true, if_false, if_true, toList_iff, and_true, true_and]
      by_cases ht : keepT A B = s
      · simp only [if_pos ht]; exact Ev.now _
      · simp only [if_neg ht]; exact Ev.now _
    · simp only [if_neg hk, Bool.false_eq_true, if_false, hk, and_false]
      exact Ev.now _

/-! ### FnExactReadKeep -/
theorem markheldKeep (a : List S101) (b : List S104) (ha : a.length ≤ 2000000) (hb : b.length ≤ 2000000) : ∃ m a' b', 0 ≤ m ∧ Ev (fun k => laws_markKeep.f k a b 1) (m, a', b') ∧ Ev (fun k => laws_heldKeep.f k a' b' 1) m := by
  obtain ⟨m, a', h0, h1, e1, e2⟩ := markheldSession a ha 1 (by omega) (by omega)
  obtain ⟨m2, b', h3, h4, e3, e4⟩ := markheldItem b hb m (by omega) (by omega)
  refine ⟨m2, a', b', h3, ?_, ?_⟩
  · refine Ev.bind e1 (Ev.bind e3 (Ev.now _))
  · refine Ev.bind e2 ?_
    simp only [if_neg (show ¬ m < 0 by omega)]
    refine Ev.bind e4 ?_
    simp only [if_neg (show ¬ m2 < 0 by omega)]
    exact Ev.now _
theorem fin_len {A : List S101} {B : List S104} {p : Prop} [Decidable p] : ((if p ∧ keepB A B = true then (A, B, true) else noKeep).1.length ≤ 3 ∧ (if p ∧ keepB A B = true then (A, B, true) else noKeep).2.1.length ≤ 8) := by
  by_cases h : p ∧ keepB A B = true
  · rw [if_pos h]
    exact (keepB_iff h.2).1
  · rw [if_neg h]
    exact ⟨by simp [noKeep], by simp [noKeep]⟩
/-- One answer for both. -/
theorem readkeep (s : ByteArray) (hs : s.size ≤ 9000000000000000000) : ∃ r : List S101 × List S104 × Bool, Ev (fun k => spec_ReadKeep.f k s) r ∧ Ev (fun k => impl_ReadKeep.f k s) r ∧ r.1.length ≤ 3 ∧ r.2.1.length ≤ 8 := by
  have R0 : Read s (⟨#[]⟩ : ByteArray) 0 false := .inr ⟨rfl, by omega, by omega, bl_inj (by rw [bl_ext]; rfl)⟩
  have hv := num_r s 0 false
  have R1 := (num_read R0).2.1
  rw [empty_app] at R1
  have e0 := num_s s 0 false
  rcases q1 : numB s 0 false with ⟨v, s1, i1, c1⟩
  rw [q1] at hv R1 e0
  simp only at hv R1 e0
  subst s1
  -- what the spec comes to
  have hS : Ev (fun k => spec_ReadKeep.f k s) (if (goU (oneI s) (numB s (goU (oneS s) v 50 i1 c1 []).2.1 (goU (oneS s) v 50 i1 c1 []).2.2).1 50 (numB s (goU (oneS s) v 50 i1 c1 []).2.1 (goU (oneS s) v 50 i1 c1 []).2.2).2.2.1 (numB s (goU (oneS s) v 50 i1 c1 []).2.1 (goU (oneS s) v 50 i1 c1 []).2.2).2.2.2 []).2.2 = false ∧
      keepT (goU (oneS s) v 50 i1 c1 []).1 (goU (oneI s) (numB s (goU (oneS s) v 50 i1 c1 []).2.1 (goU (oneS s) v 50 i1 c1 []).2.2).1 50 (numB s (goU (oneS s) v 50 i1 c1 []).2.1 (goU (oneS s) v 50 i1 c1 []).2.2).2.2.1 (numB s (goU (oneS s) v 50 i1 c1 []).2.1 (goU (oneS s) v 50 i1 c1 []).2.2).2.2.2 []).1 = s ∧
      keepB (goU (oneS s) v 50 i1 c1 []).1 (goU (oneI s) (numB s (goU (oneS s) v 50 i1 c1 []).2.1 (goU (oneS s) v 50 i1 c1 []).2.2).1 50 (numB s (goU (oneS s) v 50 i1 c1 []).2.1 (goU (oneS s) v 50 i1 c1 []).2.2).2.2.1 (numB s (goU (oneS s) v 50 i1 c1 []).2.1 (goU (oneS s) v 50 i1 c1 []).2.2).2.2.2 []).1 = true
      then ((goU (oneS s) v 50 i1 c1 []).1, (goU (oneI s) (numB s (goU (oneS s) v 50 i1 c1 []).2.1 (goU (oneS s) v 50 i1 c1 []).2.2).1 50 (numB s (goU (oneS s) v 50 i1 c1 []).2.1 (goU (oneS s) v 50 i1 c1 []).2.2).2.2.1 (numB s (goU (oneS s) v 50 i1 c1 []).2.1 (goU (oneS s) v 50 i1 c1 []).2.2).2.2.2 []).1, true) else noKeep) := by
    unfold spec_ReadKeep.f
    refine Ev.bind (spec_num s 0 false hs) ?_
    simp only [q1]
    refine spec_rk0 s hs v _ 50 i1 c1 [] (by simp) ?_
    refine Ev.bind (spec_num s _ _ hs) ?_
    simp only [num_s]
    refine spec_rk1 s hs _ _ _ 50 _ _ [] (by simp) ?_
    have l1 := (goU_len (one := oneS s) (n := v) 50 i1 c1 ([] : List S101)).1
    have l2 := (goU_len (one := oneI s) (n := (numB s (goU (oneS s) v 50 i1 c1 []).2.1 (goU (oneS s) v 50 i1 c1 []).2.2).1) 50 (numB s (goU (oneS s) v 50 i1 c1 []).2.1 (goU (oneS s) v 50 i1 c1 []).2.2).2.2.1 (numB s (goU (oneS s) v 50 i1 c1 []).2.1 (goU (oneS s) v 50 i1 c1 []).2.2).2.2.2 ([] : List S104)).1
    simp only [List.length_nil] at l1 l2
    exact spec_fin s _ _ _ (by omega) (by omega)
  -- what impl comes to, from a count v of sessions
  have hI : ∀ w : Nat, w ≤ 3 → ∀ (i : Int) (c : Bool), Ev (fun k => impl_ReadKeep.l0 k (w : Int) 0 s i c []) (if ((numB s (goA (oneS s) w i c []).2.1 (goA (oneS s) w i c []).2.2).1 ≤ 8 ∧ (goA (oneI s) (numB s (goA (oneS s) w i c []).2.1 (goA (oneS s) w i c []).2.2).1.toNat (numB s (goA (oneS s) w i c []).2.1 (goA (oneS s) w i c []).2.2).2.2.1 (numB s (goA (oneS s) w i c []).2.1 (goA (oneS s) w i c []).2.2).2.2.2 []).2.2 = false ∧
      (goA (oneI s) (numB s (goA (oneS s) w i c []).2.1 (goA (oneS s) w i c []).2.2).1.toNat (numB s (goA (oneS s) w i c []).2.1 (goA (oneS s) w i c []).2.2).2.2.1 (numB s (goA (oneS s) w i c []).2.1 (goA (oneS s) w i c []).2.2).2.2.2 []).2.1 = (s.size : Int)) ∧ keepB (goA (oneS s) w i c []).1 (goA (oneI s) (numB s (goA (oneS s) w i c []).2.1 (goA (oneS s) w i c []).2.2).1.toNat (numB s (goA (oneS s) w i c []).2.1 (goA (oneS s) w i c []).2.2).2.2.1 (numB s (goA (oneS s) w i c []).2.1 (goA (oneS s) w i c []).2.2).2.2.2 []).1 = true
      then ((goA (oneS s) w i c []).1, (goA (oneI s) (numB s (goA (oneS s) w i c []).2.1 (goA (oneS s) w i c []).2.2).1.toNat (numB s (goA (oneS s) w i c []).2.1 (goA (oneS s) w i c []).2.2).2.2.1 (numB s (goA (oneS s) w i c []).2.1 (goA (oneS s) w i c []).2.2).2.2.2 []).1, true) else noKeep) := by
    intro w hw i c
    refine impl_rk0 s hs (w : Int) (by omega) _ w i c [] (by simp) ?_
    refine Ev.bind (impl_count s _ _ 8 hs) ?_
    have l1 := goA_len (one := oneS s) w i c ([] : List S101)
    simp only [List.length_nil] at l1
    rcases qA : goA (oneS s) w i c [] with ⟨A, i2, c2⟩
    rw [qA] at l1
    simp only at l1 ⊢
    have hm := num_r s i2 c2
    have es := num_s s i2 c2
    rcases qm : numB s i2 c2 with ⟨m, s2, i3, c3⟩
    rw [qm] at hm es
    simp only at hm es ⊢
    subst s2
    by_cases h8 : m > 8
    · simp only [if_pos h8]
      rw [if_neg (fun h => absurd h.1.1 (by omega))]
      refine impl_rk1 s hs 0 (by omega) A _ 0 i3 true [] (by simp) ?_
      simp only [goA]
      have := impl_fin s A [] i3 true (by omega) (by simp)
      rw [if_neg (by simp)] at this
      exact this
    · simp only [if_neg h8]
      refine impl_rk1 s hs m (by omega) A _ m.toNat i3 c3 [] (by simp; omega) ?_
      have l2 := goA_len (one := oneI s) m.toNat i3 c3 ([] : List S104)
      simp only [List.length_nil] at l2
      have hf := impl_fin s A (goA (oneI s) m.toNat i3 c3 []).1 (goA (oneI s) m.toNat i3 c3 []).2.1 (goA (oneI s) m.toNat i3 c3 []).2.2 (by omega) (by omega)
      have e : ((m ≤ 8 ∧ (goA (oneI s) m.toNat i3 c3 []).2.2 = false ∧ (goA (oneI s) m.toNat i3 c3 []).2.1 = (s.size : Int)) ∧ keepB A (goA (oneI s) m.toNat i3 c3 []).1 = true) ↔ ((goA (oneI s) m.toNat i3 c3 []).2.2 = false ∧ (goA (oneI s) m.toNat i3 c3 []).2.1 = (s.size : Int) ∧ keepB A (goA (oneI s) m.toNat i3 c3 []).1 = true) := ⟨fun h => ⟨h.1.2.1, h.1.2.2, h.2⟩, fun h => ⟨⟨by omega, h.1, h.2.1⟩, h.2.2⟩⟩
      simp only [e]
      exact hf
  have hI2 : (v > 3 ∧ Ev (fun k => impl_ReadKeep.f k s) noKeep) ∨ (v ≤ 3 ∧ ∀ r, Ev (fun k => impl_ReadKeep.l0 k v 0 s i1 c1 []) r → Ev (fun k => impl_ReadKeep.f k s) r) := by
    by_cases h3 : v > 3
    · refine .inl ⟨h3, ?_⟩
      unfold impl_ReadKeep.f
      refine Ev.bind (impl_count s 0 false 3 hs) ?_
      simp only [q1, if_pos h3]
      have := hI 0 (by omega) i1 true
      simp only [goA, num_bad] at this
      rw [if_neg (by simp [goA])] at this
      exact this
    · refine .inr ⟨by omega, fun r hr => ?_⟩
      unfold impl_ReadKeep.f
      refine Ev.bind (impl_count s 0 false 3 hs) ?_
      simp only [q1, if_neg h3]
      exact hr
  have hrelS := go_rel (one := oneS s) (oneS_bad s) (n := v) v.toNat 50 i1 c1 ([] : List S101)
  have hlenS := goU_len (one := oneS s) (n := v) 50 i1 c1 ([] : List S101)
  have hrdS := goA_read (one := oneS s) (enc := encS) (s := s) (fun p a b => oneS_read) v.toNat (varT v) i1 c1 [] (by simp only [catB, app_empty]; exact R1)
  have hlA := goA_len (one := oneS s) v.toNat i1 c1 ([] : List S101)
  rcases eA : goU (oneS s) v 50 i1 c1 [] with ⟨A, i2, c2⟩
  rw [eA] at hS hrelS hlenS
  simp only at hS hrelS hlenS
  have hm := num_r s i2 c2
  have es := num_s s i2 c2
  rcases q2 : numB s i2 c2 with ⟨m, s2, i3, c3⟩
  rw [q2] at hS hm es
  simp only at hS hm es
  subst s2
  have hrelI := go_rel (one := oneI s) (oneI_bad s) (n := m) m.toNat 50 i3 c3 ([] : List S104)
  have hlenI := goU_len (one := oneI s) (n := m) 50 i3 c3 ([] : List S104)
  have hbadI := goU_bad (one := oneI s) (n := m) 50 i3 ([] : List S104)
  rcases eB : goU (oneI s) m 50 i3 c3 [] with ⟨B, i4, c4⟩
  rw [eB] at hS hrelI hlenI
  simp only [List.length_nil] at hS hrelI hlenI hlenS hlA
  -- where it is bad, or too long
  have no : (c4 = true ∨ v > 3 ∨ m > 8) → Ev (fun k => spec_ReadKeep.f k s) noKeep := by
    intro h
    rw [if_neg] at hS
    · exact hS
    · rintro ⟨hc, _, hk⟩
      have hl := (keepB_iff hk).1
      have hc2 : c2 = false := by
        cases c2 with
        | false => rfl
        | true =>
          rw [num_bad] at q2
          injection q2 with _ q2; injection q2 with _ q2; injection q2 with _ q2
          subst q2
          rw [hbadI] at eB
          injection eB with _ eB; injection eB with _ eB
          rw [← eB] at hc; cases hc
      rw [hc2] at hlenS
      rw [hc] at hlenI
      rcases h with h | h | h
      · rw [hc] at h; cases h
      · rcases hlenS.2 with h1 | h1 | h1
        · cases h1
        · omega
        · omega
      · rcases hlenI.2 with h1 | h1 | h1
        · cases h1
        · omega
        · omega
  rcases hI2 with ⟨h3, hI2⟩ | ⟨h3, hI2⟩
  · exact ⟨noKeep, no (.inr (.inl h3)), hI2, by simp [noKeep], by simp [noKeep]⟩
  · have hI := hI v.toNat (by omega) i1 c1
    rw [show ((v.toNat : Nat) : Int) = v by omega] at hI
    have hrelS := hrelS (by simp; omega) (by omega)
    rcases eA2 : goA (oneS s) v.toNat i1 c1 [] with ⟨A2, j2, d2⟩
    rw [eA2] at hI hrelS hrdS hlA
    simp only at hI hrelS hrdS hlA
    obtain ⟨hr1, hr2⟩ := hrelS
    subst hr1
    cases c2 with
    | true =>
      rw [num_bad] at q2
      injection q2 with qa q2; injection q2 with _ q2; injection q2 with qb q2
      subst q2
      rw [hbadI] at eB
      injection eB with _ eB; injection eB with _ eB
      rw [num_bad] at hI
      simp only at hI
      rw [if_neg (by rintro ⟨⟨_, h, _⟩, _⟩; rw [goA_bad (oneI_bad s)] at h; cases h)] at hI
      exact ⟨noKeep, no (.inl eB.symm), hI2 _ hI, by simp [noKeep], by simp [noKeep]⟩
    | false =>
      have hh := hr2 rfl
      injection hh with ha hh; injection hh with hb _
      subst ha hb
      rw [q2] at hI
      simp only at hI
      by_cases h8 : m > 8
      · rw [if_neg (fun h => absurd h.1.1 (by omega))] at hI
        exact ⟨noKeep, no (.inr (.inr h8)), hI2 _ hI, by simp [noKeep], by simp [noKeep]⟩
      · have hrelI := hrelI (by simp; omega) (by omega)
        have R2 := (num_read hrdS).2.1
        rw [q2] at R2
        simp only at R2
        have hrdI := goA_read (one := oneI s) (enc := encI) (s := s) (fun p a b => oneI_read) m.toNat (varT v ++ catB encS A ++ varT m) i3 c3 [] (by simp only [catB, app_empty]; exact R2)
        have hlB := goA_len (one := oneI s) m.toNat i3 c3 ([] : List S104)
        rcases eB2 : goA (oneI s) m.toNat i3 c3 [] with ⟨B2, j4, d4⟩
        rw [eB2] at hI hrelI hrdI hlB
        simp only [List.length_nil] at hI hrelI hrdI hlB
        obtain ⟨hr3, hr4⟩ := hrelI
        subst hr3
        cases c4 with
        | true =>
          rw [if_neg (by rintro ⟨⟨_, h, _⟩, _⟩; cases h)] at hI
          exact ⟨noKeep, no (.inl rfl), hI2 _ hI, by simp [noKeep], by simp [noKeep]⟩
        | false =>
          have hh := hr4 rfl
          injection hh with ha hh; injection hh with hb _
          subst ha hb
          have hp : varT v ++ catB encS A ++ varT m ++ catB encI B = keepT A B := by
            unfold keepT
            rw [show (A.length : Int) = v by omega, show (B.length : Int) = m by omega]
            simp only [ByteArray.append_assoc]
          rw [hp] at hrdI
          have he := read_end hrdI
          have hiff : ((m ≤ 8 ∧ false = false ∧ i4 = (s.size : Int)) ∧ keepB A B = true) ↔ ((false = false ∧ keepT A B = s) ∧ keepB A B = true) := ⟨fun h => ⟨⟨rfl, he.2 h.1.2.2⟩, h.2⟩, fun h => ⟨⟨by omega, rfl, he.1 h.1.2⟩, h.2⟩⟩
          have hiff2 : (false = false ∧ keepT A B = s ∧ keepB A B = true) ↔ ((false = false ∧ keepT A B = s) ∧ keepB A B = true) := ⟨fun h => ⟨⟨rfl, h.2.1⟩, h.2.2⟩, fun h => ⟨rfl, h.1.2, h.2⟩⟩
          have f1 : ∀ (p q : Prop) (ip : Decidable p) (iq : Decidable q) (x y : List S101 × List S104 × Bool), (p ↔ q) → (@ite _ p ip x y) = (@ite _ q iq x y) := by
            intro p q ip iq x y h
            by_cases hq : q
            · rw [if_pos hq, if_pos (h.2 hq)]
            · rw [if_neg hq, if_neg (fun hp => hq (h.1 hp))]
          rw [f1 _ _ _ inferInstance _ _ hiff] at hI
          rw [f1 _ _ _ inferInstance _ _ hiff2] at hS
          have hl := fin_len (A := A) (B := B) (p := (false = false ∧ keepT A B = s))
          exact ⟨_, hS, hI2 _ hI, hl.1, hl.2⟩
theorem FnExactReadKeep : StFnExactReadKeep.Pure := by
  intro s hs
  by_cases hb : (s.size : Int) > 1048576
  · exact ⟨0, by unfold laws_FnExactReadKeep.f; rw [if_pos hb]⟩
  · obtain ⟨⟨A, B, ok⟩, e1, e2, l1, l2⟩ := readkeep s (by omega)
    simp only at l1 l2
    obtain ⟨m0, A', B', g0, m0e, h0e⟩ := markheldKeep A B (by omega) (by omega)
    obtain ⟨K1, hK1⟩ := Ev.both e1 e2
    obtain ⟨K2, hK2⟩ := Ev.both m0e h0e
    refine ⟨K1 + K2 + 20, ?_⟩
    unfold laws_FnExactReadKeep.f
    rw [if_neg hb, (hK1 _ (by omega)).1]
    simp only [Option.bind_some]
    rw [(hK1 _ (by omega)).2]
    simp only [Option.bind_some]
    rw [eqKeep_ok A B (by omega) (by omega) _ (by omega)]
    simp only [Option.bind_some, if_true, bne_self_eq_false, laws_FnExactReadKeep.j0, Bool.false_eq_true, if_false]
    rw [(hK2 _ (by omega)).1]
    simp only [Option.bind_some]
    rw [(hK2 _ (by omega)).2]
    simp only [Option.bind_some]
    rw [if_neg (by omega), if_pos trivial, (hK1 _ (by omega)).2]
    simp only [Option.bind_some]
    rw [eqKeep_ok A B (by omega) (by omega) _ (by omega)]
    simp only [Option.bind_some, if_true, bne_self_eq_false, laws_FnExactReadKeep.j1, Bool.false_eq_true, if_false]
    rw [(hK2 _ (by omega)).2]
    simp only [Option.bind_some]
    rw [if_neg (by omega), if_pos trivial]

end Go.Proofs.Ythgjcijcmacpmaa.Pure
