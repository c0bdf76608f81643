/- The pure statement of the law 'FnExactReadCommand', proved: over numbers, lists and texts alone. No condition. -/
import Derived.Test.YtideegpoakkgeaaStFnExactReadCommand
import Derived.Laws.BitsLemmas
namespace Go.Proofs.Ytideegpoakkgeaa.Pure
open Go.RowKit Go.Proofs.Ytideegpoakkgeaa.QFnExactReadCommand Go.Proofs.YtideegpoakkgeaaW.PrintWords Go.Proofs.YtideegpoakkgeaaW.PrintLast Go.Proofs.YtideegpoakkgeaaW.PrintMore Go.Proofs.Ytideegpoakkgeaa.StFnExactReadCommand Go.Proofs.Ytideegpoakkgeaa.Opens
set_option linter.unusedVariables false
set_option linter.unusedSimpArgs false

/-! ### base -/
theorem w64 {x : Int} (h0 : -9223372036854775808 ≤ x) (h1 : x ≤ 9223372036854775807) : wrap64 x = x := by unfold wrap64; omega
theorem w64_range (x : Int) : -9223372036854775808 ≤ wrap64 x ∧ wrap64 x ≤ 9223372036854775807 := by unfold wrap64; omega
theorem ip {α : Type} {c : Prop} [Decidable c] {a b : α} (h : c) : (if c then a else b) = a := if_pos h
theorem ineg {α : Type} {c : Prop} [Decidable c] {a b : α} (h : ¬ c) : (if c then a else b) = b := if_neg h
theorem wf_range {n : Int} (h : (Lit.int .i64 n).wf = true) : -9223372036854775808 ≤ n ∧ n ≤ 9223372036854775807 := by
  simp only [Lit.wf, IntKind.min, IntKind.max, IntKind.signed, IntKind.bits, Bool.and_eq_true, decide_eq_true_eq, if_true] at h
  omega
theorem wf_u8 {n : Int} (h : (Lit.int .u8 n).wf = true) : 0 ≤ n ∧ n ≤ 255 := by
  simp [Lit.wf, IntKind.min, IntKind.max, IntKind.signed, IntKind.bits] at h
  omega
theorem and_low (x : Int) (i : Nat) (hi : i ≤ 62) : Go.bits .and .i64 x (2 ^ i - 1) = x % 2 ^ i := by
  have hpos : 0 < 2 ^ i := Nat.two_pow_pos i
  have hc : ((2 : Int) ^ i - 1) = ((2 ^ i - 1 : Nat) : Int) := by rw [Int.natCast_sub hpos]; simp
  have h62 : 2 ^ i ≤ 2 ^ 62 := Nat.pow_le_pow_right (by decide) hi
  have hlt : 2 ^ i - 1 < 2 ^ 64 := by omega
  have hd : (2 ^ i : Nat) ∣ 2 ^ 64 := Nat.pow_dvd_pow 2 (by omega)
  rw [hc]
  simp only [Go.bits, BitVec.ofInt_natCast, BitVec.toNat_and, BitVec.toNat_ofNat, BitVec.toNat_ofInt]
  simp only [show IntKind.i64.bits = 64 from rfl]
  rw [Nat.mod_eq_of_lt hlt, Nat.and_two_pow_sub_one_eq_mod]
  have h1 : (((x % ((2 ^ 64 : Nat) : Int)).toNat % 2 ^ i : Nat) : Int) = x % 2 ^ i := by
    rw [Int.natCast_emod, Int.toNat_of_nonneg (Int.emod_nonneg _ (by decide))]
    rw [Int.natCast_pow]
    exact Int.emod_emod_of_dvd _ (by
      have : (((2 ^ i : Nat) : Int)) ∣ ((2 ^ 64 : Nat) : Int) := Int.natCast_dvd_natCast.2 hd
      simpa using this)
  rw [h1]
  have h2 : 0 ≤ x % 2 ^ i := Int.emod_nonneg _ (by
    have : (0 : Int) < 2 ^ i := by exact_mod_cast hpos
    omega)
  have h3 : x % 2 ^ i < 2 ^ i := Int.emod_lt_of_pos _ (by exact_mod_cast hpos)
  have h4 : (2 : Int) ^ i ≤ 2 ^ 62 := by exact_mod_cast h62
  rw [IntKind.wrap_i64]
  omega
theorem and255 (x : Int) : Go.bits .and .i64 x 255 = x % 256 := and_low x 8 (by omega)
theorem and65535 (x : Int) : Go.bits .and .i64 x 65535 = x % 65536 := and_low x 16 (by omega)
theorem and30 (x : Int) : Go.bits .and .i64 x 1073741823 = x % 1073741824 := and_low x 30 (by omega)
theorem and1 (x : Int) : Go.bits .and .i64 x 1 = x % 2 := and_low x 1 (by omega)
/-- A law's last step: both are one. -/
theorem same_end {v : Bool} : (if (v != v) = true then some false else some true : Option Bool) = some true := by simp
theorem Ev.ex {α : Type} {g : Nat → Option α} {r : α} (h : Ev g r) : ∃ k, g k = some r := h.rounds
theorem Ev.from_ {α : Type} {g : Nat → Option α} {r : α} (K : Nat) (h : ∀ k, K ≤ k → g k = some r) : Ev g r := ⟨K, h⟩
theorem Ev.both {α β : Type} {g : Nat → Option α} {f : Nat → Option β} {r : α} {q : β} (h : Ev g r) (h' : Ev f q) : ∃ K, ∀ k, K ≤ k → g k = some r ∧ f k = some q := by
  obtain ⟨K, h⟩ := h
  obtain ⟨K', h'⟩ := h'
  exact ⟨K + K', fun k hk => ⟨h k (by omega), h' k (by omega)⟩⟩

/-! ### in -/
def rng (a b c : Int) : Bool := decide (b ≤ a) && decide (a ≤ c)
theorem rng_iff {a b c : Int} : rng a b c = true ↔ b ≤ a ∧ a ≤ c := by simp [rng]
theorem rng_false {a b c : Int} : rng a b c = false ↔ ¬ (b ≤ a ∧ a ≤ c) := by rw [← rng_iff]; simp
theorem in_eq (a b c : Int) : spec_l01In.f a b c = some (rng a b c) := by
  unfold spec_l01In.f rng
  by_cases h : b ≤ a
  · rw [if_pos h]; simp [h]
  · rw [if_neg h]; simp [h]
theorem within_eq (a b c : Int) : impl_within.f a b c = some (rng a b c) := by
  unfold impl_within.f rng
  by_cases h : b ≤ a
  · rw [if_pos h]; simp [h]
  · rw [if_neg h]; simp [h]

/-! ### bl -/
theorem bl_inj {s t : ByteArray} (h : bytesOf s = bytesOf t) : s = t := by
  unfold bytesOf at h
  have h2 : s.data.toList = t.data.toList := by
    apply List.ext_getElem?
    intro i
    have h3 := congrArg (fun l => l[i]?) h
    simp only [List.getElem?_map] at h3
    cases h4 : s.data.toList[i]? <;> cases h5 : t.data.toList[i]? <;> rw [h4, h5] at h3 <;> simp at h3 ⊢
    exact UInt8.toNat_inj.1 (by omega)
  exact ByteArray.ext (by rw [← Array.toArray_toList (xs := s.data), h2])
theorem bl_app (s t : ByteArray) : bytesOf (s ++ t) = bytesOf s ++ bytesOf t := by
  unfold bytesOf
  rw [ByteArray.toList_data_append, List.map_append]
theorem bl_ext (s : ByteArray) (a b : Nat) : bytesOf (s.extract a b) = ((bytesOf s).drop a).take (b - a) := by
  unfold bytesOf
  rw [ByteArray.data_extract, Array.toList_extract, ← List.map_drop, ← List.map_take] <;> simp [List.extract_eq_drop_take]
theorem bl_range {s : ByteArray} : ∀ x ∈ bytesOf s, 0 ≤ x ∧ x ≤ 255 := by
  intro x hx
  obtain ⟨b, _, rfl⟩ := List.mem_map.1 hx
  have := b.toNat_lt
  omega
theorem bl_str {l : List Int} (h : ∀ x ∈ l, 0 ≤ x ∧ x ≤ 255) : bytesOf (strOfNums l) = l := by
  unfold bytesOf
  rw [strOfNums_data, List.map_map]
  have : ∀ x ∈ l, ((fun b : UInt8 => (b.toNat : Int)) ∘ fun n : Int => UInt8.ofNat n.toNat) x = x := by
    intro x hx
    have := h x hx
    simp only [Function.comp, UInt8.toNat_ofNat']
    omega
  rw [List.map_congr_left this, List.map_id']
theorem str_bl (s : ByteArray) : strOfNums (bytesOf s) = s := bl_inj (bl_str bl_range)
theorem bl_empty : bytesOf (⟨#[]⟩ : ByteArray) = [] := rfl
theorem bt_bl (s : ByteArray) (i : Int) : bt s i = rd (bytesOf s) i := (rd_bytesOf s i).symm
theorem toList_iff {s t : ByteArray} : s.toList = t.toList ↔ s = t := by
  rw [ByteArray.toList_eq, ByteArray.toList_eq]
  constructor
  · intro h; exact ByteArray.ext (by rw [← Array.toArray_toList (xs := s.data), h])
  · intro h; rw [h]
theorem toList_nil {s : ByteArray} : s.toList = ([] : List UInt8) ↔ bytesOf s = [] := by
  rw [ByteArray.toList_eq]
  unfold bytesOf
  simp

/-! ### var -/
def varL : Nat → Int → List Int
  | 0, x => [x % 256]
  | d + 1, x => if x > 127 then (x % 128 + 128) % 256 :: varL d (x / 128) else [x % 256]
theorem varL_length : ∀ d x, (varL d x).length ≤ d + 1 := by
  intro d
  induction d with
  | zero => intro x; simp [varL]
  | succ d ih =>
    intro x
    unfold varL
    split
    · have := ih (x / 128); simp only [List.length_cons]; omega
    · simp
def varT (x : Int) : ByteArray := strOfNums (varL 8 x)
theorem varT_size (x : Int) : (varT x).size ≤ 9 := by
  unfold varT
  rw [strOfNums_size]
  exact varL_length 8 x
theorem spec_var_loop : ∀ (d : Nat) (x : Int) (acc : List Int), 0 ≤ x → x < 128 ^ (d + 1) → x ≤ 9223372036854775807 → acc.length + d ≤ 1000 → ∀ k, d < k → spec_l01Var.l0 k x acc = some (strOfNums (acc ++ varL d x)) := by
  intro d
  induction d with
  | zero =>
    intro x acc h0 h1 h2 h3 k hk
    obtain ⟨k, rfl⟩ : ∃ m, k = m + 1 := ⟨k - 1, by omega⟩
    simp only [spec_l01Var.l0, varL]
    rw [if_neg (by omega), if_pos (by omega)]
  | succ d ih =>
    intro x acc h0 h1 h2 h3 k hk
    obtain ⟨k, rfl⟩ : ∃ m, k = m + 1 := ⟨k - 1, by omega⟩
    simp only [spec_l01Var.l0, varL]
    by_cases hx : x > 127
    · have hp : (128 : Int) ^ (d + 1 + 1) = 128 ^ (d + 1) * 128 := Int.pow_succ 128 (d + 1)
      rw [if_pos hx, if_pos (by omega), if_pos hx, Int.tdiv_eq_ediv_of_nonneg h0, Int.tmod_eq_emod_of_nonneg h0, w64 (x := x / 128) (by omega) (by omega), w64 (x := x % 128 + 128) (by omega) (by omega)]
      rw [ih (x / 128) (acc ++ [(x % 128 + 128) % 256]) (by omega) (by omega) (by omega) (by rw [List.length_append, List.length_singleton]; omega) k (by omega), List.append_assoc]
      rfl
    · rw [if_neg hx, if_pos (by omega), if_neg hx]
theorem spec_var (x : Int) (h0 : 0 ≤ x) (h1 : x ≤ 1000000000) : Ev (fun k => spec_l01Var.f k x) (varT x) := ⟨9, fun k hk => by
  exact spec_var_loop 8 x [] h0 (by omega) (by omega) (by simp) k (by omega)⟩
def shortT (s : ByteArray) : ByteArray := varT (s.size : Int) ++ s
theorem shortT_size (s : ByteArray) : (shortT s).size ≤ s.size + 9 := by
  have := varT_size (s.size : Int)
  unfold shortT
  rw [ByteArray.size_append]
  omega
theorem spec_short (s : ByteArray) (hs : s.size ≤ 1000000000) : Ev (fun k => spec_l16Short.f k s) (shortT s) := by
  unfold spec_l16Short.f
  refine Ev.bind (spec_var (s.size : Int) (by omega) (by omega)) ?_
  have := varT_size (s.size : Int)
  simp only [if_pos (show (varT (s.size : Int)).size + s.size ≤ 9223372036854775807 by omega)]
  exact Ev.now _
def catB {α : Type} (f : α → ByteArray) : List α → ByteArray
  | [] => (⟨#[]⟩ : ByteArray)
  | x :: l => f x ++ catB f l
theorem app_empty (s : ByteArray) : s ++ (⟨#[]⟩ : ByteArray) = s := bl_inj (by rw [bl_app, bl_empty, List.append_nil])
theorem empty_app (s : ByteArray) : (⟨#[]⟩ : ByteArray) ++ s = s := bl_inj (by rw [bl_app, bl_empty, List.nil_append])

/-! ### all -/
def allF (p : Nat → Bool) (j : Nat) : Nat → Bool
  | 0 => true
  | d + 1 => p j && allF p (j + 1) d
/-- A loop that asks the same of each place, one after the other, and then something more. -/
theorem all_ev {F : Nat → Nat → Option Bool} {n : Nat} {p : Nat → Bool} {R : Bool}
    (hs : ∀ j, j < n → (p j = true → ∀ r, Ev (fun k => F k (j + 1)) r → Ev (fun k => F k j) r) ∧ (p j = false → Ev (fun k => F k j) false))
    (he : Ev (fun k => F k n) R) : ∀ d j, n - j = d → j ≤ n → Ev (fun k => F k j) (allF p j d && R) := by
  intro d
  induction d with
  | zero =>
    intro j hd hj
    obtain rfl : j = n := by omega
    simpa [allF] using he
  | succ d ih =>
    intro j hd hj
    have h := hs j (by omega)
    cases hp : p j with
    | true =>
      have := ih (j + 1) (by omega) (by omega)
      simp only [allF, hp, Bool.true_and]
      exact h.1 hp _ this
    | false =>
      simp only [allF, hp, Bool.false_and]
      exact h.2 hp
theorem Ev.here {α : Type} {F f : Nat → Option α} {r : α} (hs : ∀ k, F (k + 1) = f k) (h : ∀ k, f k = some r) : Ev F r := Ev.step hs ⟨0, fun k _ => h k⟩

/-! ### readvar -/
def valW : List Int → Int
  | [] => 0
  | x :: l => x % 128 + 128 * valW l
theorem valW_nn : ∀ l, 0 ≤ valW l := by
  intro l
  induction l with
  | nil => simp [valW]
  | cons x l ih => simp only [valW]; omega
theorem valW_lt : ∀ l : List Int, valW l < 128 ^ l.length := by
  intro l
  induction l with
  | nil => simp [valW]
  | cons x l ih =>
    simp only [valW, List.length_cons]
    have : (128 : Int) ^ (l.length + 1) = 128 ^ l.length * 128 := Int.pow_succ 128 l.length
    omega
theorem valW_app (l : List Int) (c : Int) : valW (l ++ [c]) = valW l + (c % 128) * 128 ^ l.length := by
  induction l with
  | nil => simp [valW]
  | cons x l ih =>
    simp only [List.cons_append, valW, ih, List.length_cons]
    have h1 : (128 : Int) ^ (l.length + 1) = 128 ^ l.length * 128 := Int.pow_succ 128 l.length
    have h2 : 128 * (c % 128 * 128 ^ l.length) = c % 128 * (128 ^ l.length * 128) := by rw [Int.mul_comm 128, Int.mul_assoc]
    rw [h1, Int.mul_add, h2]
    omega
theorem valW_pos (l : List Int) (c : Int) (h0 : 0 ≤ c) (h1 : c ≤ 127) (hc : c ≠ 0) : 1 ≤ valW (l ++ [c]) := by
  induction l with
  | nil => simp only [List.nil_append, valW]; omega
  | cons x l ih => simp only [List.cons_append, valW]; omega
theorem varL_range : ∀ d x, ∀ y ∈ varL d x, 0 ≤ y ∧ y ≤ 255 := by
  intro d
  induction d with
  | zero => intro x y hy; simp only [varL, List.mem_singleton] at hy; omega
  | succ d ih =>
    intro x y hy
    unfold varL at hy
    split at hy
    · rcases List.mem_cons.1 hy with h | h
      · omega
      · exact ih _ y h
    · simp only [List.mem_singleton] at hy; omega
theorem varL_of : ∀ (pre : List Int) (c : Int) (d : Nat), (∀ x ∈ pre, 128 ≤ x ∧ x ≤ 255) → 0 ≤ c → c ≤ 127 → pre.length ≤ d → (pre = [] ∨ c ≠ 0) → varL d (valW (pre ++ [c])) = pre ++ [c] := by
  intro pre
  induction pre with
  | nil =>
    intro c d _ h0 h1 _ _
    have e : valW ([] ++ [c]) = c := by simp only [List.nil_append, valW]; omega
    rw [e]
    cases d with
    | zero => simp only [varL, List.nil_append]; congr 1; omega
    | succ d => simp only [varL, List.nil_append]; rw [if_neg (by omega)]; congr 1; omega
  | cons x l ih =>
    intro c d hp h0 h1 hl hc
    have hc : c ≠ 0 := by
      rcases hc with h | h
      · cases h
      · exact h
    obtain ⟨d, rfl⟩ : ∃ m, d = m + 1 := ⟨d - 1, by simp at hl; omega⟩
    have hx := hp x List.mem_cons_self
    have hw := valW_pos l c h0 h1 hc
    simp only [List.cons_append, valW, varL]
    rw [if_pos (by omega), show (x % 128 + 128 * valW (l ++ [c])) / 128 = valW (l ++ [c]) by omega, ih c d (fun y hy => hp y (List.mem_cons_of_mem _ hy)) h0 h1 (by simp at hl; omega) (.inr hc)]
    congr 1
    omega
theorem varL_not : ∀ (pre : List Int) (d : Nat), (∀ x ∈ pre, 128 ≤ x ∧ x ≤ 255) → pre ≠ [] → varL d (valW (pre ++ [0])) ≠ pre ++ [0] := by
  intro pre
  induction pre with
  | nil => intro d _ h; exact absurd rfl h
  | cons x l ih =>
    intro d hp _ he
    have hx := hp x List.mem_cons_self
    have hlen := congrArg List.length he
    cases d with
    | zero => simp [varL] at hlen
    | succ d =>
      simp only [List.cons_append, valW, varL] at he hlen
      by_cases hv : x % 128 + 128 * valW (l ++ [0]) > 127
      · rw [if_pos hv, show (x % 128 + 128 * valW (l ++ [0])) / 128 = valW (l ++ [0]) by omega] at he
        have ht := (List.cons.inj he).2
        cases l with
        | nil => simp [valW] at hv; omega
        | cons y l => exact ih d (fun z hz => hp z (List.mem_cons_of_mem _ hz)) (by simp) ht
      · rw [if_neg hv] at hlen
        simp at hlen
def preB (s : ByteArray) (a : Int) (i : Nat) : List Int := ((bytesOf s).drop a.toNat).take i
theorem preB_len (s : ByteArray) (a : Int) (i : Nat) (h0 : 0 ≤ a) (h : a + (i : Int) ≤ (s.size : Int)) : (preB s a i).length = i := by
  unfold preB
  rw [List.length_take, List.length_drop, bytesOf_length]
  omega
theorem preB_succ (s : ByteArray) (a : Int) (i : Nat) (h0 : 0 ≤ a) (h : a + (i : Int) < (s.size : Int)) : preB s a (i + 1) = preB s a i ++ [bt s (a + (i : Int))] := by
  unfold preB
  have hl : i < ((bytesOf s).drop a.toNat).length := by rw [List.length_drop, bytesOf_length]; omega
  have e : bt s (a + (i : Int)) = ((bytesOf s).drop a.toNat)[i] := by
    have hb : a.toNat + i < (bytesOf s).length := by rw [bytesOf_length]; omega
    rw [List.getElem_drop, bt_bl]
    unfold rd
    rw [show (a + (i : Int)).toNat = a.toNat + i by omega]
    simp [List.getD_eq_getElem?_getD, List.getElem?_eq_getElem hb]
  rw [e, List.take_append_getElem hl]
theorem ext_preB (s : ByteArray) (a : Int) (i : Nat) (h0 : 0 ≤ a) : bytesOf (s.extract a.toNat (a + (i : Int)).toNat) = preB s a i := by
  rw [bl_ext]
  unfold preB
  rw [show (a + (i : Int)).toNat - a.toNat = i by omega]
def rv (s : ByteArray) (a : Int) : Nat → Nat → Int → Int × Int × Bool
  | 0, _, _ => (0, 0, false)
  | d + 1, i, n =>
    if a + (i : Int) < (s.size : Int) then
      (if bt s (a + (i : Int)) > 127 then rv s a d (i + 1) (n + bt s (a + (i : Int)) % 128 * 128 ^ i)
       else if (0 < i ∧ bt s (a + (i : Int)) = 0) ∨ n + bt s (a + (i : Int)) % 128 * 128 ^ i > 1000000000 then (0, 0, false)
       else (n + bt s (a + (i : Int)) % 128 * 128 ^ i, a + (i : Int) + 1, true))
    else (0, 0, false)
def readV (s : ByteArray) (a : Int) : Int × Int × Bool := if rng a 0 (s.size : Int) = true then rv s a 5 0 0 else (0, 0, false)
theorem pow_bounds (i : Nat) (h : i ≤ 4) : 1 ≤ (128 : Int) ^ i ∧ (128 : Int) ^ i ≤ 268435456 := by
  rcases (by omega : i = 0 ∨ i = 1 ∨ i = 2 ∨ i = 3 ∨ i = 4) with rfl | rfl | rfl | rfl | rfl <;> decide
theorem dig_bounds (c : Int) (i : Nat) (h : i ≤ 4) : 0 ≤ c % 128 * 128 ^ i ∧ c % 128 * 128 ^ i ≤ 127 * 128 ^ i := by
  have hp := pow_bounds i h
  exact ⟨Int.mul_nonneg (by omega) (by omega), Int.mul_le_mul_of_nonneg_right (by omega) (by omega)⟩
theorem shl7 (x : Int) (i : Nat) (hi : i ≤ 4) (h0 : 0 ≤ x) (h1 : x ≤ 127) : shl .i64 x (7 * (i : Int)) = x * 128 ^ i := by
  unfold shl
  rcases (by omega : i = 0 ∨ i = 1 ∨ i = 2 ∨ i = 3 ∨ i = 4) with rfl | rfl | rfl | rfl | rfl
  · rw [show x * 2 ^ min ((7 * ((0 : Nat) : Int)).toNat) IntKind.i64.bits = x * 1 from rfl, show (128 : Int) ^ 0 = 1 from rfl, IntKind.wrap_i64]; omega
  · rw [show x * 2 ^ min ((7 * ((1 : Nat) : Int)).toNat) IntKind.i64.bits = x * 128 from rfl, show (128 : Int) ^ 1 = 128 from rfl, IntKind.wrap_i64]; omega
  · rw [show x * 2 ^ min ((7 * ((2 : Nat) : Int)).toNat) IntKind.i64.bits = x * 16384 from rfl, show (128 : Int) ^ 2 = 16384 from rfl, IntKind.wrap_i64]; omega
  · rw [show x * 2 ^ min ((7 * ((3 : Nat) : Int)).toNat) IntKind.i64.bits = x * 2097152 from rfl, show (128 : Int) ^ 3 = 2097152 from rfl, IntKind.wrap_i64]; omega
  · rw [show x * 2 ^ min ((7 * ((4 : Nat) : Int)).toNat) IntKind.i64.bits = x * 268435456 from rfl, show (128 : Int) ^ 4 = 268435456 from rfl, IntKind.wrap_i64]; omega
theorem impl_rv (s : ByteArray) (a : Int) (h0 : 0 ≤ a) (h1 : a ≤ (s.size : Int)) (hs : s.size ≤ 9000000000000000000) : ∀ (d i : Nat) (n : Int), i + d = 5 → 0 ≤ n → n < 128 ^ i → Ev (fun k => impl_ReadVar.l0 k s a n (i : Int)) (rv s a d i n) := by
  intro d
  induction d with
  | zero =>
    intro i n hd hn0 hn1
    refine Ev.step (fun k => by simp only [impl_ReadVar.l0]; rw [if_neg (by omega)]) ?_
    exact Ev.here (f := fun _ => some (0, 0, false)) (fun k => by simp only [impl_ReadVar.j1, Bool.false_eq_true, if_false]) (fun _ => rfl)
  | succ d ih =>
    intro i n hd hn0 hn1
    have hb := bt_range s (a + (i : Int))
    have ea : wrap64 (a + (i : Int) + 1) = a + (i : Int) + 1 := w64 (by omega) (by omega)
    have ew : wrap64 (a + (i : Int)) = a + (i : Int) := w64 (by omega) (by omega)
    have ei : wrap64 ((i : Int) + 1) = ((i + 1 : Nat) : Int) := by rw [w64 (by omega) (by omega)]; omega
    have e7 : wrap64 (7 * (i : Int)) = 7 * (i : Int) := w64 (by omega) (by omega)
    have h07 : 0 ≤ 7 * (i : Int) := by omega
    have h0i : 0 ≤ a + (i : Int) := by omega
    have hi5 : (i : Int) < 5 := by omega
    have ec : wrap64 (bt s (a + (i : Int))) = bt s (a + (i : Int)) := w64 (by omega) (by omega)
    have em : Int.tmod (bt s (a + (i : Int))) 128 = bt s (a + (i : Int)) % 128 := Int.tmod_eq_emod_of_nonneg hb.1
    have es : shl .i64 (bt s (a + (i : Int)) % 128) (7 * (i : Int)) = bt s (a + (i : Int)) % 128 * 128 ^ i := shl7 _ i (by omega) (by omega) (by omega)
    obtain ⟨q, hq0, hqn⟩ : ∃ q, bt s (a + (i : Int)) % 128 * 128 ^ i = q ∧ (0 ≤ n + q ∧ n + q < 128 ^ (i + 1) ∧ n + q ≤ 9000000000000000000) := by
      have hp := pow_bounds i (by omega)
      have hps : (128 : Int) ^ (i + 1) = 128 ^ i * 128 := Int.pow_succ 128 i
      have hq := dig_bounds (bt s (a + (i : Int))) i (by omega)
      exact ⟨_, rfl, by omega, by omega, by omega⟩
    have en : wrap64 (n + q) = n + q := w64 (by omega) (by omega)
    have ih := ih (i + 1) (n + q) (by omega) hqn.1 hqn.2.1
    refine Ev.step (fun k => by simp only [impl_ReadVar.l0]; rw [if_pos hi5, ew]) ?_
    unfold rv
    rw [hq0] at es ⊢
    by_cases hin : a + (i : Int) < (s.size : Int)
    · rw [if_pos hin, show decide (a + (i : Int) < (s.size : Int)) = true from decide_eq_true hin]
      refine Ev.step (fun k => by simp only [impl_ReadVar.j1, if_true, ew]; rw [if_pos h0i, if_pos hin, e7, if_pos h07, ec, em, es, en, ei, ea]) ?_
      by_cases hc : bt s (a + (i : Int)) > 127
      · rw [if_pos hc]
        simp only [if_pos hc]
        exact ih
      · rw [if_neg hc]
        simp only [if_neg hc]
        by_cases hi : (i : Int) > 0
        · have hi' : 0 < i := Int.natCast_pos.1 hi
          by_cases hz : bt s (a + (i : Int)) = 0
          · have hz' : (0 < i ∧ bt s (a + (i : Int)) = 0) ∨ n + q > 1000000000 := .inl ⟨hi', hz⟩
            rw [if_pos hz']
            simp only [if_pos hi, if_pos hz]
            exact Ev.now _
          · by_cases hm : n + q > 1000000000
            · have hz' : (0 < i ∧ bt s (a + (i : Int)) = 0) ∨ n + q > 1000000000 := .inr hm
              rw [if_pos hz']
              simp only [if_pos hi, if_neg hz, if_pos hm]
              exact Ev.now _
            · have hz' : ¬ ((0 < i ∧ bt s (a + (i : Int)) = 0) ∨ n + q > 1000000000) := fun h => h.elim (fun h => hz h.2) hm
              rw [if_neg hz']
              simp only [if_pos hi, if_neg hz, if_neg hm]
              exact Ev.now _
        · have hi' : ¬ 0 < i := fun h => hi (Int.natCast_pos.2 h)
          by_cases hm : n + q > 1000000000
          · have hz' : (0 < i ∧ bt s (a + (i : Int)) = 0) ∨ n + q > 1000000000 := .inr hm
            rw [if_pos hz']
            simp only [if_neg hi, if_pos hm]
            exact Ev.now _
          · have hz' : ¬ ((0 < i ∧ bt s (a + (i : Int)) = 0) ∨ n + q > 1000000000) := fun h => h.elim (fun h => hi' h.1) hm
            rw [if_neg hz']
            simp only [if_neg hi, if_neg hm]
            exact Ev.now _
    · rw [if_neg hin, show decide (a + (i : Int) < (s.size : Int)) = false from decide_eq_false hin]
      exact Ev.here (f := fun _ => some (0, 0, false)) (fun k => by simp only [impl_ReadVar.j1, Bool.false_eq_true, if_false]) (fun _ => rfl)
theorem impl_readvar (s : ByteArray) (a : Int) (hs : s.size ≤ 9000000000000000000) : Ev (fun k => impl_ReadVar.f k s a) (readV s a) := by
  unfold impl_ReadVar.f readV
  simp only [within_eq, Option.bind_some]
  cases hr : rng a 0 (s.size : Int) with
  | false => simp only [Bool.false_eq_true, if_false]; exact Ev.now _
  | true =>
    have h := rng_iff.1 hr
    simp only [if_true]
    exact impl_rv s a h.1 h.2 hs 5 0 0 (by omega) (by omega) (by decide)
theorem var_is (s : ByteArray) (a : Int) (i : Nat) (h0 : 0 ≤ a) (hin : a + (i : Int) < (s.size : Int)) (hi : i ≤ 8) (hp : ∀ x ∈ preB s a i, 128 ≤ x ∧ x ≤ 255) (hc : bt s (a + (i : Int)) ≤ 127) :
    (varT (valW (preB s a (i + 1))) = s.extract a.toNat (a + (i : Int) + 1).toNat) ↔ ¬ (0 < i ∧ bt s (a + (i : Int)) = 0) := by
  have hb := bt_range s (a + (i : Int))
  have e1 : bytesOf (varT (valW (preB s a (i + 1)))) = varL 8 (valW (preB s a (i + 1))) := bl_str (varL_range 8 _)
  have e2 : bytesOf (s.extract a.toNat (a + (i : Int) + 1).toNat) = preB s a (i + 1) := by
    have := ext_preB s a (i + 1) h0
    rw [show a + ((i + 1 : Nat) : Int) = a + (i : Int) + 1 by omega] at this
    exact this
  have hs := preB_succ s a i h0 hin
  have hl := preB_len s a i h0 (by omega)
  constructor
  · intro h ⟨hi0, hz⟩
    have h2 := congrArg bytesOf h
    rw [e1, e2, hs, hz] at h2
    exact varL_not (preB s a i) 8 hp (by intro he; rw [he] at hl; simp at hl; omega) h2
  · intro h
    apply bl_inj
    rw [e1, e2, hs]
    refine varL_of (preB s a i) _ 8 hp hb.1 hc (by omega) ?_
    by_cases hi0 : 0 < i
    · exact .inr (fun hz => h ⟨hi0, hz⟩)
    · exact .inl (List.length_eq_zero_iff.1 (by omega))
theorem spec_rv (s : ByteArray) (a : Int) (h0 : 0 ≤ a) (h1 : a ≤ (s.size : Int)) (hs : s.size ≤ 9000000000000000000) : ∀ (d i : Nat), i + d = 5 → a + (i : Int) ≤ (s.size : Int) → (∀ x ∈ preB s a i, 128 ≤ x ∧ x ≤ 255) →
    Ev (fun k => spec_ReadVar.l0 k s a (valW (preB s a i)) (128 ^ i) (a + (i : Int))) (rv s a d i (valW (preB s a i))) := by
  have e5 : wrap64 (a + 5) = a + 5 := w64 (by omega) (by omega)
  intro d
  induction d with
  | zero =>
    intro i hd hin hp
    refine Ev.step (f := fun k => spec_ReadVar.j1 k s a (valW (preB s a i)) (128 ^ i) (a + (i : Int)) false) (fun k => ?_) (Ev.here (f := fun _ => some (0, 0, false)) (fun k => by simp only [spec_ReadVar.j1, Bool.false_eq_true, if_false]) (fun _ => rfl))
    simp only [spec_ReadVar.l0]
    by_cases h : a + (i : Int) < (s.size : Int)
    · rw [if_pos h, e5, show decide (a + (i : Int) < a + 5) = false from decide_eq_false (by omega)]
    · rw [if_neg h]
  | succ d ih =>
    intro i hd hin hp
    have hb := bt_range s (a + (i : Int))
    by_cases hlt : a + (i : Int) < (s.size : Int)
    · have hsucc := preB_succ s a i h0 hlt
      have hval : valW (preB s a (i + 1)) = valW (preB s a i) + bt s (a + (i : Int)) % 128 * 128 ^ i := by rw [hsucc, valW_app, preB_len s a i h0 hin]
      have hv : decide (a + (i : Int) < a + 5) = true := decide_eq_true (by omega)
      have ea : wrap64 (a + (i : Int) + 1) = a + (i : Int) + 1 := w64 (by omega) (by omega)
      have ec : wrap64 (bt s (a + (i : Int))) = bt s (a + (i : Int)) := w64 (by omega) (by omega)
      have em : Int.tmod (bt s (a + (i : Int))) 128 = bt s (a + (i : Int)) % 128 := Int.tmod_eq_emod_of_nonneg hb.1
      have h0i : 0 ≤ a + (i : Int) := by omega
      have h01 : a ≤ a + (i : Int) + 1 := by omega
      have h02 : a + (i : Int) + 1 ≤ (s.size : Int) := by omega
      have hi8 : i ≤ 8 := by omega
      obtain ⟨eq, en, ep⟩ : wrap64 (bt s (a + (i : Int)) % 128 * 128 ^ i) = bt s (a + (i : Int)) % 128 * 128 ^ i ∧ wrap64 (valW (preB s a i) + bt s (a + (i : Int)) % 128 * 128 ^ i) = valW (preB s a (i + 1)) ∧ wrap64 ((128 : Int) ^ i * 128) = 128 ^ (i + 1) := by
        have hn0 := valW_nn (preB s a i)
        have hn1 := valW_lt (preB s a i)
        rw [preB_len s a i h0 hin] at hn1
        have hpb := pow_bounds i (by omega)
        have hps : (128 : Int) ^ (i + 1) = 128 ^ i * 128 := Int.pow_succ 128 i
        have hq := dig_bounds (bt s (a + (i : Int))) i (by omega)
        rw [hval, hps]
        clear hval hsucc hp ih em ec ea e5 hv
        exact ⟨w64 (by omega) (by omega), w64 (by omega) (by omega), w64 (by omega) (by omega)⟩
      have hpn : ¬ bt s (a + (i : Int)) ≤ 127 → ∀ x ∈ preB s a (i + 1), 128 ≤ x ∧ x ≤ 255 := by
        intro hc x hx
        rw [hsucc] at hx
        rcases List.mem_append.1 hx with hx | hx
        · exact hp x hx
        · simp only [List.mem_singleton] at hx
          subst hx
          exact ⟨by omega, hb.2⟩
      have ih := ih (i + 1) (by omega) (by omega)
      rw [show a + ((i + 1 : Nat) : Int) = a + (i : Int) + 1 by omega] at ih
      have hiff := var_is s a i h0 hlt hi8 hp
      have hnn := valW_nn (preB s a (i + 1))
      refine Ev.step (fun k => by simp only [spec_ReadVar.l0]; rw [if_pos hlt, e5, hv]) ?_
      refine Ev.step (fun k => by simp only [spec_ReadVar.j1, if_true]; rw [if_pos h0i, if_pos hlt, ec, em, eq, en, ep, ea]) ?_
      unfold rv
      rw [if_pos hlt, ← hval]
      clear hval eq en ep em ec
      by_cases hc : bt s (a + (i : Int)) > 127
      · have hc2 : ¬ bt s (a + (i : Int)) < 128 := by omega
        rw [if_pos hc]
        simp only [if_neg hc2]
        exact ih (hpn (by omega))
      · have hc2 : bt s (a + (i : Int)) < 128 := by omega
        have hiff := hiff (by omega)
        rw [if_neg hc]
        simp only [if_pos hc2]
        by_cases hm : valW (preB s a (i + 1)) > 1000000000
        · have hz' : (0 < i ∧ bt s (a + (i : Int)) = 0) ∨ valW (preB s a (i + 1)) > 1000000000 := .inr hm
          rw [if_pos hz']
          simp only [if_pos hm]
          exact Ev.now _
        · simp only [if_neg hm]
          refine Ev.bind (spec_var _ hnn (Int.not_lt.1 hm)) ?_
          simp only [if_pos h0, if_pos h01, if_pos h02, toList_iff]
          by_cases hz : 0 < i ∧ bt s (a + (i : Int)) = 0
          · have hz' : (0 < i ∧ bt s (a + (i : Int)) = 0) ∨ valW (preB s a (i + 1)) > 1000000000 := .inl hz
            rw [if_pos hz']
            simp only [if_neg (show ¬ varT (valW (preB s a (i + 1))) = s.extract a.toNat (a + (i : Int) + 1).toNat from fun h => hiff.1 h hz)]
            exact Ev.now _
          · have hz' : ¬ ((0 < i ∧ bt s (a + (i : Int)) = 0) ∨ valW (preB s a (i + 1)) > 1000000000) := fun h => h.elim hz hm
            rw [if_neg hz']
            simp only [if_pos (hiff.2 hz)]
            exact Ev.now _
    · unfold rv
      rw [if_neg hlt]
      refine Ev.step (f := fun k => spec_ReadVar.j1 k s a (valW (preB s a i)) (128 ^ i) (a + (i : Int)) false) (fun k => by simp only [spec_ReadVar.l0]; rw [if_neg hlt]) (Ev.here (f := fun _ => some (0, 0, false)) (fun k => by simp only [spec_ReadVar.j1, Bool.false_eq_true, if_false]) (fun _ => rfl))
theorem spec_readvar (s : ByteArray) (a : Int) (hs : s.size ≤ 9000000000000000000) : Ev (fun k => spec_ReadVar.f k s a) (readV s a) := by
  unfold spec_ReadVar.f readV
  simp only [in_eq, Option.bind_some]
  cases hr : rng a 0 (s.size : Int) with
  | false => simp only [Bool.false_eq_true, if_false]; exact Ev.now _
  | true =>
    have h := rng_iff.1 hr
    simp only [if_true]
    have := spec_rv s a h.1 h.2 hs 5 0 (by omega) (by omega) (by unfold preB; simp)
    have e : preB s a 0 = [] := by unfold preB; simp
    rw [e] at this
    simpa [valW] using this
theorem rv_ok (s : ByteArray) (a : Int) (h0 : 0 ≤ a) : ∀ (d i : Nat), i + d = 5 → a + (i : Int) ≤ (s.size : Int) → (∀ x ∈ preB s a i, 128 ≤ x ∧ x ≤ 255) → ∀ v nx, rv s a d i (valW (preB s a i)) = (v, nx, true) →
    (0 ≤ v ∧ v ≤ 1000000000) ∧ (a < nx ∧ nx ≤ (s.size : Int)) ∧ s.extract a.toNat nx.toNat = varT v := by
  intro d
  induction d with
  | zero => intro i _ _ _ v nx h; simp [rv] at h
  | succ d ih =>
    intro i hd hin hp v nx h
    unfold rv at h
    have hb := bt_range s (a + (i : Int))
    by_cases hlt : a + (i : Int) < (s.size : Int)
    · have hsucc := preB_succ s a i h0 hlt
      have hval : valW (preB s a (i + 1)) = valW (preB s a i) + bt s (a + (i : Int)) % 128 * 128 ^ i := by rw [hsucc, valW_app, preB_len s a i h0 hin]
      rw [if_pos hlt, ← hval] at h
      by_cases hc : bt s (a + (i : Int)) > 127
      · rw [if_pos hc] at h
        exact ih (i + 1) (by omega) (by omega) (by
          rw [hsucc]
          intro x hx
          rcases List.mem_append.1 hx with hx | hx
          · exact hp x hx
          · simp only [List.mem_singleton] at hx; omega) v nx h
      · rw [if_neg hc] at h
        by_cases hz : (0 < i ∧ bt s (a + (i : Int)) = 0) ∨ valW (preB s a (i + 1)) > 1000000000
        · rw [if_pos hz] at h
          simp at h
        · rw [if_neg hz] at h
          simp only [Prod.mk.injEq, and_true] at h
          obtain ⟨rfl, rfl⟩ := h
          have hn := valW_nn (preB s a (i + 1))
          have hiff := var_is s a i h0 hlt (by omega) hp (by omega)
          refine ⟨⟨hn, ?_⟩, ⟨by omega, by omega⟩, (hiff.2 (fun h => hz (.inl h))).symm⟩
          rcases Int.lt_or_le 1000000000 (valW (preB s a (i + 1))) with h | h
          · exact absurd (.inr h) hz
          · exact h
    · rw [if_neg hlt] at h
      simp at h
theorem readV_ok {s : ByteArray} {a v nx : Int} (h : readV s a = (v, nx, true)) : (0 ≤ a ∧ a < nx ∧ nx ≤ (s.size : Int)) ∧ (0 ≤ v ∧ v ≤ 1000000000) ∧ s.extract a.toNat nx.toNat = varT v := by
  unfold readV at h
  cases hr : rng a 0 (s.size : Int) with
  | false => rw [hr] at h; simp at h
  | true =>
    have hh := rng_iff.1 hr
    rw [hr, if_pos rfl] at h
    have e : preB s a 0 = [] := by unfold preB; simp
    have := rv_ok s a hh.1 5 0 (by omega) (by omega) (by rw [e]; simp) v nx (by rw [e]; exact h)
    exact ⟨⟨hh.1, this.2.1⟩, this.1, this.2.2⟩
/-- What a short text's reader comes to. -/
def readS (s : ByteArray) (a : Int) : ByteArray × Int × Bool :=
  if (readV s a).2.2 = true ∧ (readV s a).1 ≤ 20000 ∧ (readV s a).1 ≤ (s.size : Int) - (readV s a).2.1 then (s.extract (readV s a).2.1.toNat ((readV s a).2.1 + (readV s a).1).toNat, (readV s a).2.1 + (readV s a).1, true) else ((⟨#[]⟩ : ByteArray), 0, false)
theorem readS_ok {s : ByteArray} {a nx : Int} {t : ByteArray} (h : readS s a = (t, nx, true)) : (0 ≤ a ∧ a < nx ∧ nx ≤ (s.size : Int)) ∧ t.size ≤ 20000 ∧ s.extract a.toNat nx.toNat = shortT t := by
  unfold readS at h
  split at h
  · rename_i hc
    obtain ⟨hk, h2, h3⟩ := hc
    have hv := readV_ok (s := s) (a := a) (v := (readV s a).1) (nx := (readV s a).2.1) (by rw [← hk])
    obtain ⟨⟨h0, h4, h5⟩, ⟨h6, _⟩, h7⟩ := hv
    simp only [Prod.mk.injEq, and_true] at h
    obtain ⟨rfl, rfl⟩ := h
    have hsz : (s.extract (readV s a).2.1.toNat ((readV s a).2.1 + (readV s a).1).toNat).size = (readV s a).1.toNat := by rw [ByteArray.size_extract]; omega
    refine ⟨⟨h0, by omega, by omega⟩, by omega, ?_⟩
    unfold shortT
    rw [hsz, show (((readV s a).1.toNat : Nat) : Int) = (readV s a).1 by omega, ← h7]
    apply bl_inj
    rw [bl_app, bl_ext, bl_ext, bl_ext]
    have e1 : ((readV s a).2.1 + (readV s a).1).toNat - a.toNat = ((readV s a).2.1.toNat - a.toNat) + ((readV s a).2.1 + (readV s a).1 - (readV s a).2.1).toNat := by omega
    have e2 : ((readV s a).2.1 + (readV s a).1).toNat - (readV s a).2.1.toNat = ((readV s a).2.1 + (readV s a).1 - (readV s a).2.1).toNat := by omega
    have e3 : (bytesOf s).drop (readV s a).2.1.toNat = ((bytesOf s).drop a.toNat).drop ((readV s a).2.1.toNat - a.toNat) := by rw [List.drop_drop]; congr 1; omega
    rw [e1, e2, e3, List.take_add]
  · simp at h
theorem readS_eqs (s : ByteArray) (a : Int) (hs : s.size ≤ 9000000000000000000) : (if (readV s a).2.2 = true then (if (readV s a).1 > 20000 then (some ((⟨#[]⟩ : ByteArray), (0 : Int), false)) else (if (readV s a).1 > (wrap64 ((s.size : Int) - (readV s a).2.1)) then (some ((⟨#[]⟩ : ByteArray), 0, false)) else (if 0 ≤ (readV s a).2.1 then (if (readV s a).2.1 ≤ (wrap64 ((readV s a).2.1 + (readV s a).1)) then (if (wrap64 ((readV s a).2.1 + (readV s a).1)) ≤ (s.size : Int) then (some (s.extract ((readV s a).2.1 : Int).toNat ((wrap64 ((readV s a).2.1 + (readV s a).1)) : Int).toNat, wrap64 ((readV s a).2.1 + (readV s a).1), true)) else (none)) else (none)) else (none)))) else (some ((⟨#[]⟩ : ByteArray), 0, false))) = some (readS s a) := by
  unfold readS
  by_cases hk : (readV s a).2.2 = true
  · have hv := readV_ok (s := s) (a := a) (v := (readV s a).1) (nx := (readV s a).2.1) (by rw [← hk])
    obtain ⟨⟨h0, h4, h5⟩, ⟨h6, h8⟩, h7⟩ := hv
    rw [if_pos hk, w64 (x := (s.size : Int) - (readV s a).2.1) (by omega) (by omega)]
    by_cases h1 : (readV s a).1 > 20000
    · rw [if_pos h1, if_neg (by omega)]
    · rw [if_neg h1]
      by_cases h2 : (readV s a).1 > (s.size : Int) - (readV s a).2.1
      · rw [if_pos h2, if_neg (by omega)]
      · rw [if_neg h2, if_pos (by omega), w64 (x := (readV s a).2.1 + (readV s a).1) (by omega) (by omega), if_pos (by omega), if_pos (by omega), if_pos ⟨hk, by omega, by omega⟩]
  · rw [if_neg hk, if_neg (fun h => hk h.1)]
theorem impl_readshort (s : ByteArray) (a : Int) (hs : s.size ≤ 9000000000000000000) : Ev (fun k => impl_ReadShort.f k s a) (readS s a) := by
  unfold impl_ReadShort.f
  refine Ev.bind (impl_readvar s a hs) ?_
  simp only [readS_eqs s a hs]
  exact Ev.now _
theorem spec_readshort (s : ByteArray) (a : Int) (hs : s.size ≤ 9000000000000000000) : Ev (fun k => spec_ReadShort.f k s a) (readS s a) := by
  unfold spec_ReadShort.f
  refine Ev.bind (spec_readvar s a hs) ?_
  simp only [readS_eqs s a hs]
  exact Ev.now _
/-- A reader's step over a number: what it reads, where it stands then, and whether it is bad. -/
def numB (s : ByteArray) (a : Int) (b : Bool) : Int × ByteArray × Int × Bool := if b = true then (0, s, a, true) else if (readV s a).2.2 = true then ((readV s a).1, s, (readV s a).2.1, false) else (0, s, a, true)
def shoB (s : ByteArray) (a : Int) (b : Bool) : ByteArray × ByteArray × Int × Bool := if b = true then ((⟨#[]⟩ : ByteArray), s, a, true) else if (readS s a).2.2 = true then ((readS s a).1, s, (readS s a).2.1, false) else ((⟨#[]⟩ : ByteArray), s, a, true)
theorem spec_num (s : ByteArray) (a : Int) (b : Bool) (hs : s.size ≤ 9000000000000000000) : Ev (fun k => spec_l16Var.f k s a b) (numB s a b) := by
  unfold spec_l16Var.f numB
  refine Ev.bind (spec_readvar s a hs) ?_
  cases b
  · by_cases h : (readV s a).2.2 = true
    · simp only [Bool.false_eq_true, if_false, if_pos h]; exact Ev.now _
    · simp only [Bool.false_eq_true, if_false, if_neg h]; exact Ev.now _
  · simp only [if_true]; exact Ev.now _
theorem spec_sho (s : ByteArray) (a : Int) (b : Bool) (hs : s.size ≤ 9000000000000000000) : Ev (fun k => spec_l16ReadShort.f k s a b) (shoB s a b) := by
  unfold spec_l16ReadShort.f shoB
  refine Ev.bind (spec_readshort s a hs) ?_
  cases b
  · by_cases h : (readS s a).2.2 = true
    · simp only [Bool.false_eq_true, if_false, if_pos h]; exact Ev.now _
    · simp only [Bool.false_eq_true, if_false, if_neg h]; exact Ev.now _
  · simp only [if_true]; exact Ev.now _
theorem impl_num (s : ByteArray) (a : Int) (b : Bool) (hs : s.size ≤ 9000000000000000000) : Ev (fun k => impl_scan_number.f k s a b) (numB s a b) := by
  unfold impl_scan_number.f numB
  refine Ev.bind (impl_readvar s a hs) ?_
  cases b
  · by_cases h : (readV s a).2.2 = true
    · simp only [Bool.false_eq_true, if_false, if_pos h]; exact Ev.now _
    · simp only [Bool.false_eq_true, if_false, if_neg h]; exact Ev.now _
  · simp only [if_true]; exact Ev.now _
theorem impl_sho (s : ByteArray) (a : Int) (b : Bool) (hs : s.size ≤ 9000000000000000000) : Ev (fun k => impl_scan_short.f k s a b) (shoB s a b) := by
  unfold impl_scan_short.f shoB
  refine Ev.bind (impl_readshort s a hs) ?_
  cases b
  · by_cases h : (readS s a).2.2 = true
    · simp only [Bool.false_eq_true, if_false, if_pos h]; exact Ev.now _
    · simp only [Bool.false_eq_true, if_false, if_neg h]; exact Ev.now _
  · simp only [if_true]; exact Ev.now _
/-- A reader that has come to place a holds what it has read: the text's begin is p. -/
def Read (s : ByteArray) (p : ByteArray) (a : Int) (b : Bool) : Prop := b = true ∨ (b = false ∧ 0 ≤ a ∧ a ≤ (s.size : Int) ∧ s.extract 0 a.toNat = p)
theorem ext_join (s : ByteArray) (a b : Nat) (h : a ≤ b) : s.extract 0 a ++ s.extract a b = s.extract 0 b := by
  apply bl_inj
  rw [bl_app, bl_ext, bl_ext, bl_ext, List.drop_zero, show b - 0 = a + (b - a) by omega, List.take_add, Nat.sub_zero]
theorem num_read {s p : ByteArray} {a : Int} {b : Bool} (h : Read s p a b) : (numB s a b).2.1 = s ∧ Read s (p ++ varT (numB s a b).1) (numB s a b).2.2.1 (numB s a b).2.2.2 ∧ (0 ≤ (numB s a b).1 ∧ (numB s a b).1 ≤ 1000000000) := by
  unfold numB
  rcases h with rfl | ⟨rfl, h0, h1, h2⟩
  · rw [if_pos rfl]; exact ⟨rfl, .inl rfl, (show (0 : Int) ≤ 0 ∧ (0 : Int) ≤ 1000000000 by omega)⟩
  · rw [if_neg (by simp)]
    by_cases hk : (readV s a).2.2 = true
    · rw [if_pos hk]
      have hv := readV_ok (s := s) (a := a) (v := (readV s a).1) (nx := (readV s a).2.1) (by rw [← hk])
      refine ⟨rfl, .inr ⟨rfl, (show 0 ≤ (readV s a).2.1 by omega), (show (readV s a).2.1 ≤ (s.size : Int) by omega), ?_⟩, hv.2.1⟩
      show s.extract 0 (readV s a).2.1.toNat = p ++ varT (readV s a).1
      rw [← hv.2.2, ← h2, ext_join s _ _ (by omega)]
    · rw [if_neg hk]; exact ⟨rfl, .inl rfl, (show (0 : Int) ≤ 0 ∧ (0 : Int) ≤ 1000000000 by omega)⟩
theorem sho_read {s p : ByteArray} {a : Int} {b : Bool} (h : Read s p a b) : (shoB s a b).2.1 = s ∧ Read s (p ++ shortT (shoB s a b).1) (shoB s a b).2.2.1 (shoB s a b).2.2.2 ∧ (shoB s a b).1.size ≤ 20000 := by
  unfold shoB
  rcases h with rfl | ⟨rfl, h0, h1, h2⟩
  · rw [if_pos rfl]; exact ⟨rfl, .inl rfl, by show 0 ≤ 20000; omega⟩
  · rw [if_neg (by simp)]
    by_cases hk : (readS s a).2.2 = true
    · rw [if_pos hk]
      have hv := readS_ok (s := s) (a := a) (t := (readS s a).1) (nx := (readS s a).2.1) (by rw [← hk])
      refine ⟨rfl, .inr ⟨rfl, (show 0 ≤ (readS s a).2.1 by omega), (show (readS s a).2.1 ≤ (s.size : Int) by omega), ?_⟩, hv.2.1⟩
      show s.extract 0 (readS s a).2.1.toNat = p ++ shortT (readS s a).1
      rw [← hv.2.2, ← h2, ext_join s _ _ (by omega)]
    · rw [if_neg hk]; exact ⟨rfl, .inl rfl, by show 0 ≤ 20000; omega⟩
/-- At a text's end all was read. -/
theorem read_end {s p : ByteArray} {a : Int} (h : Read s p a false) : p = s ↔ a = (s.size : Int) := by
  rcases h with h | ⟨_, h0, h1, rfl⟩
  · cases h
  · constructor
    · intro h
      have := congrArg ByteArray.size h
      rw [ByteArray.size_extract] at this
      omega
    · intro h
      subst h
      apply bl_inj
      rw [bl_ext, List.drop_zero]
      exact List.take_of_length_le (by rw [bytesOf_length]; omega)

/-! ### scan -/
theorem one_bad (s : ByteArray) (a : Int) : impl_scan_one.f s a true = some (0, s, a, true) := by unfold impl_scan_one.f; rw [if_pos rfl]
theorem one_end (s : ByteArray) (a : Int) (h : a ≥ (s.size : Int)) (b : Bool) : impl_scan_one.f s a b = some (0, s, a, true) := by
  unfold impl_scan_one.f
  by_cases hb : b = true
  · rw [if_pos hb]
  · rw [if_neg hb, if_pos h]
theorem one_ok (s : ByteArray) (a : Int) (h0 : 0 ≤ a) (h : a < (s.size : Int)) (hs : s.size ≤ 9000000000000000000) : impl_scan_one.f s a false = some (bt s a, s, a + 1, false) := by
  unfold impl_scan_one.f
  have hb := bt_range s a
  rw [if_neg (by simp), if_neg (by omega), w64 (x := a + 1) (by omega) (by omega), show a + 1 - 1 = a by omega, w64 (x := a) (by omega) (by omega), if_pos h0, if_pos h, w64 (by omega) (by omega)]
theorem done_bad (s : ByteArray) (a : Int) : impl_scan_done.f s a true = some (false, s, a, true) := by unfold impl_scan_done.f; rw [if_pos rfl]
theorem done_ok (s : ByteArray) (a : Int) : impl_scan_done.f s a false = some ((a == (s.size : Int)), s, a, false) := by unfold impl_scan_done.f; rw [if_neg (by simp)]

/-! ### commandok -/
theorem rngs_zero : rng 0 0 1000000 = true := by decide
theorem commandOk_same (o t q : Int) (key val : ByteArray) (v : Int) (k : Nat) (hk : 2 < k) : ∃ b, spec_CommandOk.f k o t q key val v = some b ∧ impl_CommandOk.f k o t q key val v = some b := by
  obtain ⟨k, rfl⟩ : ∃ m, k = m + 3 := ⟨k - 3, by omega⟩
  unfold spec_CommandOk.f impl_CommandOk.f
  simp only [in_eq, within_eq, Option.bind_some, spec_CommandOk.j0, spec_CommandOk.j1, impl_CommandOk.j0, impl_CommandOk.j1, impl_isIndex.f, impl_keyOk.f, impl_valOk.f]
  have hv : ((val.size : Int) > 20) ↔ ¬ ((val.size : Int) ≤ 20) := by omega
  by_cases h1 : o = 1
  · subst h1
    have : rng 1 1 5 = true := by decide
    by_cases a : t = 0
    · subst a
      by_cases b : q = 0
      · subst b
        by_cases c : key.toList = [] <;> by_cases d : val.toList = [] <;> simp [rngs_zero, this, c, d]
      · cases rng q 0 1000000 <;> simp [rngs_zero, this, b]
    · cases rng t 0 1000000 <;> cases rng q 0 1000000 <;> simp [this, a]
  · cases ht : rng t 0 1000000 <;> cases hq : rng q 0 1000000 <;> cases ho : rng o 1 5 <;> cases hkk : rng (key.size : Int) 1 8 <;> cases hvv : rng v 1 1000000000 <;>
      by_cases h20 : (val.size : Int) ≤ 20 <;> by_cases h2 : o = 2 <;> by_cases h3 : o = 3 <;> by_cases h4 : o = 4 <;> by_cases h5 : o = 5 <;>
      first
      | (exfalso; omega)
      | (exfalso; subst h2; revert ho; decide)
      | (exfalso; subst h3; revert ho; decide)
      | (exfalso; subst h4; revert ho; decide)
      | (exfalso; subst h5; revert ho; decide)
      | (exfalso; have := rng_iff.1 ho; omega)
      | (by_cases hl : val.toList = [] <;> by_cases hv0 : v = 0 <;> simp [h1, h2, h3, h4, h5, hv, h20, hl, hv0])

/-! ### bytes -/

/-! ### commandtext -/
theorem toList_size {s : ByteArray} (h : s.toList = ([] : List UInt8)) : s.size = 0 := by
  have h1 := toList_nil.1 h
  have h2 := bytesOf_length s
  rw [h1] at h2
  simpa using h2.symm
theorem commandOk_rng (o t q : Int) (key val : ByteArray) (v : Int) (k : Nat) (h : spec_CommandOk.f (k + 2) o t q key val v = some true) : (0 ≤ t ∧ t ≤ 1000000) ∧ (0 ≤ q ∧ q ≤ 1000000) ∧ (0 ≤ v ∧ v ≤ 1000000000) ∧ (1 ≤ o ∧ o ≤ 5) ∧ key.size ≤ 8 ∧ val.size ≤ 20 := by
  unfold spec_CommandOk.f at h
  simp only [in_eq, Option.bind_some, spec_CommandOk.j0, spec_CommandOk.j1] at h
  cases ht : rng t 0 1000000 with
  | false => simp [ht] at h
  | true =>
    cases hq : rng q 0 1000000 with
    | false => simp [ht, hq] at h
    | true =>
      cases ho : rng o 1 5 with
      | false => simp [ht, hq, ho] at h
      | true =>
        refine ⟨rng_iff.1 ht, rng_iff.1 hq, ?_⟩
        simp only [ht, hq, ho, if_true, Bool.not_true, Bool.false_eq_true, if_false] at h
        by_cases h1 : o = 1
        · subst h1
          by_cases c : key.toList = []
          · by_cases d : val.toList = []
            · by_cases hv : v = 0
              · have := toList_size c
                have := toList_size d
                exact ⟨by omega, by omega, by omega, by omega⟩
              · exfalso
                revert h
                by_cases h7 : t = 0 <;> by_cases h8 : q = 0 <;> simp [h7, h8, hv, c, d]
            · simp [c, d] at h
          · simp [c] at h
        · simp only [if_neg h1] at h
          cases hk : rng (key.size : Int) 1 8 with
          | false => simp [hk] at h
          | true =>
            have hk' := rng_iff.1 hk
            simp only [hk, if_true, decide_eq_true_eq] at h
            by_cases hv20 : (val.size : Int) > 20
            · simp [hv20] at h
            · simp only [if_neg hv20] at h
              refine ⟨?_, rng_iff.1 ho, by omega, by omega⟩
              by_cases h2 : o = 2
              · simp only [if_pos h2, Option.some.injEq, beq_iff_eq] at h
                omega
              · by_cases h5 : o = 5
                · simp only [if_neg h2, if_pos h5, Option.some.injEq] at h
                  have := rng_iff.1 h
                  omega
                · by_cases d : val.toList = []
                  · simp only [if_neg h2, if_neg h5, if_pos d, Option.some.injEq, beq_iff_eq] at h
                    omega
                  · simp [h2, h5, d] at h
def cmdT (o t q : Int) (key val : ByteArray) (v : Int) : ByteArray := strOfNums [o % 256] ++ varT t ++ varT q ++ shortT key ++ shortT val ++ varT v
theorem spec_cmd_k (o t q : Int) (key val : ByteArray) (v : Int) (k : Nat) : spec_CommandOk.f (k + 3) o t q key val v = spec_CommandOk.f (0 + 3) o t q key val v := by
  unfold spec_CommandOk.f
  simp only [spec_CommandOk.j0, spec_CommandOk.j1]
theorem impl_cmd_k (o t q : Int) (key val : ByteArray) (v : Int) (k : Nat) : impl_CommandOk.f (k + 3) o t q key val v = impl_CommandOk.f (0 + 3) o t q key val v := by
  unfold impl_CommandOk.f
  simp only [impl_CommandOk.j0, impl_CommandOk.j1]
theorem cmdOk_ev (o t q : Int) (key val : ByteArray) (v : Int) : ∃ b, Ev (fun k => spec_CommandOk.f k o t q key val v) b ∧ Ev (fun k => impl_CommandOk.f k o t q key val v) b ∧ (b = true → (0 ≤ t ∧ t ≤ 1000000) ∧ (0 ≤ q ∧ q ≤ 1000000) ∧ (0 ≤ v ∧ v ≤ 1000000000) ∧ (1 ≤ o ∧ o ≤ 5) ∧ key.size ≤ 8 ∧ val.size ≤ 20) := by
  obtain ⟨b, e1, e2⟩ := commandOk_same o t q key val v 3 (by omega)
  refine ⟨b, ⟨3, fun k hk => ?_⟩, ⟨3, fun k hk => ?_⟩, fun hb => ?_⟩
  · obtain ⟨m, rfl⟩ : ∃ m, k = m + 3 := ⟨k - 3, by omega⟩
    show spec_CommandOk.f (m + 3) o t q key val v = some b
    rw [spec_cmd_k]
    exact e1
  · obtain ⟨m, rfl⟩ : ∃ m, k = m + 3 := ⟨k - 3, by omega⟩
    show impl_CommandOk.f (m + 3) o t q key val v = some b
    rw [impl_cmd_k]
    exact e2
  · subst hb
    exact commandOk_rng o t q key val v 1 e1
theorem spec_cmdtext (o t q : Int) (key val : ByteArray) (v : Int) {b : Bool} (f1 : Ev (fun k => spec_CommandOk.f k o t q key val v) b) (hb : b = true → (0 ≤ t ∧ t ≤ 1000000) ∧ (0 ≤ q ∧ q ≤ 1000000) ∧ (0 ≤ v ∧ v ≤ 1000000000) ∧ (1 ≤ o ∧ o ≤ 5) ∧ key.size ≤ 8 ∧ val.size ≤ 20) :
    Ev (fun k => spec_CommandText.f k o t q key val v) (if b = true then (cmdT o t q key val v, true) else ((⟨#[]⟩ : ByteArray), false)) := by
  unfold spec_CommandText.f
  refine Ev.bind f1 ?_
  cases b with
  | false =>
    simp only [Bool.false_eq_true, if_false]
    exact Ev.now _
  | true =>
    obtain ⟨ht, hq, hv, ho, hk, hl⟩ := hb rfl
    have h1 : (strOfNums [o % 256]).size = 1 := by rw [strOfNums_size]; rfl
    have h2 := varT_size t
    have h3 := varT_size q
    have h4 := shortT_size key
    have h5 := shortT_size val
    have h6 := varT_size v
    simp only [if_true, Option.bind_some]
    refine Ev.bind (spec_var t ht.1 (by omega)) ?_
    simp only [if_pos (show (strOfNums [o % 256]).size + (varT t).size ≤ 9223372036854775807 by omega)]
    refine Ev.bind (spec_var q hq.1 (by omega)) ?_
    simp only [if_pos (show (strOfNums [o % 256] ++ varT t).size + (varT q).size ≤ 9223372036854775807 by rw [ByteArray.size_append]; omega)]
    refine Ev.bind (spec_short key (by omega)) ?_
    simp only [if_pos (show (strOfNums [o % 256] ++ varT t ++ varT q).size + (shortT key).size ≤ 9223372036854775807 by rw [ByteArray.size_append, ByteArray.size_append]; omega)]
    refine Ev.bind (spec_short val (by omega)) ?_
    simp only [if_pos (show (strOfNums [o % 256] ++ varT t ++ varT q ++ shortT key).size + (shortT val).size ≤ 9223372036854775807 by rw [ByteArray.size_append, ByteArray.size_append, ByteArray.size_append]; omega)]
    refine Ev.bind (spec_var v hv.1 hv.2) ?_
    simp only [if_pos (show (strOfNums [o % 256] ++ varT t ++ varT q ++ shortT key ++ shortT val).size + (varT v).size ≤ 9223372036854775807 by rw [ByteArray.size_append, ByteArray.size_append, ByteArray.size_append, ByteArray.size_append]; omega)]
    exact Ev.now _

/-! ### readcommand -/
def noCmd : Int × Int × Int × ByteArray × ByteArray × Int × Bool := (0, 0, 0, (⟨#[]⟩ : ByteArray), (⟨#[]⟩ : ByteArray), 0, false)
theorem first_byte (s : ByteArray) (h : 0 < s.size) : s.extract 0 1 = strOfNums [bt s 0 % 256] := by
  have hb := bt_range s 0
  have hl : 0 < (bytesOf s).length := by rw [bytesOf_length]; exact h
  have hr := bl_range (s := s)
  apply bl_inj
  rw [bl_ext, bl_str (by simp only [List.mem_singleton]; rintro x rfl; omega), List.drop_zero, bt_bl]
  cases hx : bytesOf s with
  | nil => rw [hx] at hl; simp at hl
  | cons x l =>
    have h2 := hr x (by rw [hx]; exact List.mem_cons_self)
    have e2 : rd (x :: l) 0 = x := by unfold rd; simp
    rw [e2]
    simp only [Nat.sub_zero, List.take_succ_cons, List.take_zero]
    congr 1
    omega
/-- What comes of a command's bytes: one answer for both. -/
theorem readcmd (s : ByteArray) (hs : s.size ≤ 9000000000000000000) : ∃ o t q key val v ok, Ev (fun k => spec_ReadCommand.f k s) (o, t, q, key, val, v, ok) ∧ Ev (fun k => impl_ReadCommand.f k s) (o, t, q, key, val, v, ok) ∧
    (ok = true → Ev (fun k => spec_CommandText.f k o t q key val v) (s, true)) := by
  by_cases h0 : s.toList = ([] : List UInt8)
  · have hz : s.size = 0 := toList_size h0
    refine ⟨0, 0, 0, (⟨#[]⟩ : ByteArray), (⟨#[]⟩ : ByteArray), 0, false, ?_, ?_, fun h => by cases h⟩
    · unfold spec_ReadCommand.f
      simp only [if_pos h0]
      exact Ev.now _
    · unfold impl_ReadCommand.f
      simp only [one_end s 0 (show (0 : Int) ≥ (s.size : Int) by omega), Option.bind_some]
      have n1 : ∀ a, numB s a true = (0, s, a, true) := fun a => by unfold numB; rw [if_pos rfl]
      have n2 : ∀ a, shoB s a true = ((⟨#[]⟩ : ByteArray), s, a, true) := fun a => by unfold shoB; rw [if_pos rfl]
      refine Ev.bind (impl_num s 0 true hs) ?_
      simp only [n1]
      refine Ev.bind (impl_num s 0 true hs) ?_
      simp only [n1]
      refine Ev.bind (impl_sho s 0 true hs) ?_
      simp only [n2]
      refine Ev.bind (impl_sho s 0 true hs) ?_
      simp only [n2]
      refine Ev.bind (impl_num s 0 true hs) ?_
      simp only [n1, done_bad, Option.bind_some, Bool.false_eq_true, if_false]
      exact Ev.now _
  · have hz : 0 < s.size := by
      rcases Nat.eq_zero_or_pos s.size with h | h
      · exact absurd (toList_nil.2 (List.length_eq_zero_iff.1 (by rw [bytesOf_length]; exact h))) h0
      · exact h
    have hb := bt_range s 0
    have R0 : Read s (strOfNums [bt s 0 % 256]) 1 false := .inr ⟨rfl, by omega, by omega, first_byte s hz⟩
    rcases q1 : numB s 1 false with ⟨t, s1, i1, c1⟩
    have g1 := num_read R0
    rw [q1] at g1
    obtain ⟨rfl, R1, ht⟩ : s1 = s ∧ Read s (strOfNums [bt s 0 % 256] ++ varT t) i1 c1 ∧ (0 ≤ t ∧ t ≤ 1000000000) := g1
    rcases q2 : numB s1 i1 c1 with ⟨q, s2, i2, c2⟩
    have g2 := num_read R1
    rw [q2] at g2
    obtain ⟨rfl, R2, hq⟩ : s2 = s1 ∧ Read s1 (strOfNums [bt s1 0 % 256] ++ varT t ++ varT q) i2 c2 ∧ (0 ≤ q ∧ q ≤ 1000000000) := g2
    rcases q3 : shoB s2 i2 c2 with ⟨key, s3, i3, c3⟩
    have g3 := sho_read R2
    rw [q3] at g3
    obtain ⟨rfl, R3, hk⟩ : s3 = s2 ∧ Read s2 (strOfNums [bt s2 0 % 256] ++ varT t ++ varT q ++ shortT key) i3 c3 ∧ key.size ≤ 20000 := g3
    rcases q4 : shoB s3 i3 c3 with ⟨val, s4, i4, c4⟩
    have g4 := sho_read R3
    rw [q4] at g4
    obtain ⟨rfl, R4, hv⟩ : s4 = s3 ∧ Read s3 (strOfNums [bt s3 0 % 256] ++ varT t ++ varT q ++ shortT key ++ shortT val) i4 c4 ∧ val.size ≤ 20000 := g4
    rcases q5 : numB s4 i4 c4 with ⟨v, s5, i5, c5⟩
    have g5 := num_read R4
    rw [q5] at g5
    obtain ⟨rfl, R5, hw⟩ : s5 = s4 ∧ Read s4 (cmdT (bt s4 0) t q key val v) i5 c5 ∧ (0 ≤ v ∧ v ≤ 1000000000) := g5
    obtain ⟨b, k1, k2, k3⟩ := cmdOk_ev (bt s5 0) t q key val v
    have k4 := spec_cmdtext (bt s5 0) t q key val v k1 k3
    have e0 : wrap64 (bt s5 0) = bt s5 0 := w64 (by omega) (by omega)
    have hS : ∀ r, Ev (fun k => if c5 = true then (some (0, 0, 0, (⟨#[]⟩ : ByteArray), (⟨#[]⟩ : ByteArray), 0, false)) else (if (if b = true then (cmdT (bt s5 0) t q key val v, true) else ((⟨#[]⟩ : ByteArray), false)).2 = true then (if (if b = true then (cmdT (bt s5 0) t q key val v, true) else ((⟨#[]⟩ : ByteArray), false)).1.toList = s5.toList then (some (bt s5 0, t, q, key, val, v, true)) else (some (0, 0, 0, (⟨#[]⟩ : ByteArray), (⟨#[]⟩ : ByteArray), 0, false))) else (some (0, 0, 0, (⟨#[]⟩ : ByteArray), (⟨#[]⟩ : ByteArray), 0, false)))) r → Ev (fun k => spec_ReadCommand.f k s5) r := by
      intro r hr
      unfold spec_ReadCommand.f
      simp only [if_neg h0, if_pos (show (0 : Int) < (s5.size : Int) by omega), e0]
      refine Ev.bind (spec_num s5 1 false hs) ?_
      simp only [q1]
      refine Ev.bind (spec_num s5 i1 c1 hs) ?_
      simp only [q2]
      refine Ev.bind (spec_sho s5 i2 c2 hs) ?_
      simp only [q3]
      refine Ev.bind (spec_sho s5 i3 c3 hs) ?_
      simp only [q4]
      refine Ev.bind (spec_num s5 i4 c4 hs) ?_
      simp only [q5]
      exact Ev.bind k4 hr
    have hI : ∀ r, Ev (fun k => (impl_scan_done.f s5 i5 c5).bind fun bt208 => (if bt208.1 = true then ((impl_CommandOk.f k (bt s5 0) t q key val v).bind fun t212 => (if t212 = true then (some (bt s5 0, t, q, key, val, v, true)) else (some (0, 0, 0, (⟨#[]⟩ : ByteArray), (⟨#[]⟩ : ByteArray), 0, false)))) else (some (0, 0, 0, (⟨#[]⟩ : ByteArray), (⟨#[]⟩ : ByteArray), 0, false)))) r → Ev (fun k => impl_ReadCommand.f k s5) r := by
      intro r hr
      unfold impl_ReadCommand.f
      simp only [one_ok s5 0 (by omega) (by omega) hs, Option.bind_some]
      refine Ev.bind (impl_num s5 1 false hs) ?_
      simp only [q1]
      refine Ev.bind (impl_num s5 i1 c1 hs) ?_
      simp only [q2]
      refine Ev.bind (impl_sho s5 i2 c2 hs) ?_
      simp only [q3]
      refine Ev.bind (impl_sho s5 i3 c3 hs) ?_
      simp only [q4]
      refine Ev.bind (impl_num s5 i4 c4 hs) ?_
      simp only [q5]
      exact hr
    cases c5 with
    | true =>
      refine ⟨0, 0, 0, (⟨#[]⟩ : ByteArray), (⟨#[]⟩ : ByteArray), 0, false, hS _ ?_, hI _ ?_, fun h => by cases h⟩
      · simp only [if_true]; exact Ev.now _
      · simp only [done_bad, Option.bind_some, Bool.false_eq_true, if_false]; exact Ev.now _
    | false =>
      have hend := read_end R5
      cases b with
      | false =>
        refine ⟨0, 0, 0, (⟨#[]⟩ : ByteArray), (⟨#[]⟩ : ByteArray), 0, false, hS _ ?_, hI _ ?_, fun h => by cases h⟩
        · simp only [Bool.false_eq_true, if_false]; exact Ev.now _
        · simp only [done_ok, Option.bind_some]
          by_cases he : i5 = (s5.size : Int)
          · simp only [he, beq_self_eq_true, if_true]
            refine Ev.bind k2 ?_
            simp only [Bool.false_eq_true, if_false]; exact Ev.now _
          · simp only [beq_eq_false_iff_ne.2 he, Bool.false_eq_true, if_false]; exact Ev.now _
      | true =>
        by_cases he : i5 = (s5.size : Int)
        · have hc := hend.2 he
          refine ⟨bt s5 0, t, q, key, val, v, true, hS _ ?_, hI _ ?_, fun _ => ?_⟩
          · simp only [Bool.false_eq_true, if_false, if_true, hc]; exact Ev.now _
          · simp only [done_ok, Option.bind_some, he, beq_self_eq_true, if_true]
            refine Ev.bind k2 ?_
            simp only [if_true]; exact Ev.now _
          · rw [if_pos rfl, hc] at k4
            exact k4
        · have hc : ¬ (cmdT (bt s5 0) t q key val v).toList = s5.toList := fun h => he (hend.1 (toList_iff.1 h))
          refine ⟨0, 0, 0, (⟨#[]⟩ : ByteArray), (⟨#[]⟩ : ByteArray), 0, false, hS _ ?_, hI _ ?_, fun h => by cases h⟩
          · simp only [Bool.false_eq_true, if_false, if_true, if_neg hc]; exact Ev.now _
          · simp only [done_ok, Option.bind_some, beq_eq_false_iff_ne.2 he, Bool.false_eq_true, if_false]; exact Ev.now _

/-! ### FnExactReadCommand -/
theorem FnExactReadCommand : StFnExactReadCommand.Pure := by
  intro s hs
  by_cases hb : (s.size : Int) > 1048576
  · exact ⟨0, by unfold laws_FnExactReadCommand.f; rw [if_pos hb]⟩
  · obtain ⟨o, t, q, key, val, v, ok, h1, h2, _⟩ := readcmd s (by omega)
    obtain ⟨K, hK⟩ := Ev.both h1 h2
    refine ⟨K, ?_⟩
    obtain ⟨h1, h2⟩ := hK K (Nat.le_refl _)
    unfold laws_FnExactReadCommand.f
    rw [if_neg hb]
    simp only [h1, h2, Option.bind_some]
    simp [laws_eqCommand.f]

end Go.Proofs.Ytideegpoakkgeaa.Pure
