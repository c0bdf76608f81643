/- The pure statement of the law 'FnExactCommandText', proved: over numbers, lists and texts alone. No condition. -/
import Derived.Test.YtakapoionaaimaaStFnExactCommandText
import Derived.Laws.BitsLemmas
namespace Go.Proofs.Ytakapoionaaimaa.Pure
open Go.RowKit Go.Proofs.Ytakapoionaaimaa.QFnExactCommandText Go.Proofs.YtakapoionaaimaaW.PrintWords Go.Proofs.YtakapoionaaimaaW.PrintLast Go.Proofs.YtakapoionaaimaaW.PrintMore Go.Proofs.Ytakapoionaaimaa.StFnExactCommandText Go.Proofs.Ytakapoionaaimaa.Opens
set_option linter.unusedVariables false
set_option linter.unusedSimpArgs false

/-! ### base -/
theorem w64 {x : Int} (h0 : -9223372036854775808 ≤ x) (h1 : x ≤ 9223372036854775807) : wrap64 x = x := by unfold wrap64; omega
theorem w64_range (x : Int) : -9223372036854775808 ≤ wrap64 x ∧ wrap64 x ≤ 9223372036854775807 := by unfold wrap64; omega
theorem ip {α : Type} {c : Prop} [Decidable c] {a b : α} (h : c) : (if c then a else b) = a := if_pos h
theorem ineg {α : Type} {c : Prop} [Decidable c] {a b : α} (h : ¬ c) : (if c then a else b) = b := if_neg h
theorem wf_range {n : Int} (h : (Lit.int .i64 n).wf = true) : -9223372036854775808 ≤ n ∧ n ≤ 9223372036854775807 := by
  simp only [Lit.wf, IntKind.min, IntKind.max, IntKind.signed, IntKind.bits, Bool.and_eq_true, decide_eq_true_eq, if_true] at h
  omega
theorem wf_u8 {n : Int} (h : (Lit.int .u8 n).wf = true) : 0 ≤ n ∧ n ≤ 255 := by
  simp [Lit.wf, IntKind.min, IntKind.max, IntKind.signed, IntKind.bits] at h
  omega
theorem and_low (x : Int) (i : Nat) (hi : i ≤ 62) : Go.bits .and .i64 x (2 ^ i - 1) = x % 2 ^ i := by
  have hpos : 0 < 2 ^ i := Nat.two_pow_pos i
  have hc : ((2 : Int) ^ i - 1) = ((2 ^ i - 1 : Nat) : Int) := by rw [Int.natCast_sub hpos]; simp
  have h62 : 2 ^ i ≤ 2 ^ 62 := Nat.pow_le_pow_right (by decide) hi
  have hlt : 2 ^ i - 1 < 2 ^ 64 := by omega
  have hd : (2 ^ i : Nat) ∣ 2 ^ 64 := Nat.pow_dvd_pow 2 (by omega)
  rw [hc]
  simp only [Go.bits, BitVec.ofInt_natCast, BitVec.toNat_and, BitVec.toNat_ofNat, BitVec.toNat_ofInt]
  simp only [show IntKind.i64.bits = 64 from rfl]
  rw [Nat.mod_eq_of_lt hlt, Nat.and_two_pow_sub_one_eq_mod]
  have h1 : (((x % ((2 ^ 64 : Nat) : Int)).toNat % 2 ^ i : Nat) : Int) = x % 2 ^ i := by
    rw [Int.natCast_emod, Int.toNat_of_nonneg (Int.emod_nonneg _ (by decide))]
    rw [Int.natCast_pow]
    exact Int.emod_emod_of_dvd _ (by
      have : (((2 ^ i : Nat) : Int)) ∣ ((2 ^ 64 : Nat) : Int) := Int.natCast_dvd_natCast.2 hd
      simpa using this)
  rw [h1]
  have h2 : 0 ≤ x % 2 ^ i := Int.emod_nonneg _ (by
    have : (0 : Int) < 2 ^ i := by exact_mod_cast hpos
    omega)
  have h3 : x % 2 ^ i < 2 ^ i := Int.emod_lt_of_pos _ (by exact_mod_cast hpos)
  have h4 : (2 : Int) ^ i ≤ 2 ^ 62 := by exact_mod_cast h62
  rw [IntKind.wrap_i64]
  omega
theorem and255 (x : Int) : Go.bits .and .i64 x 255 = x % 256 := and_low x 8 (by omega)
theorem and65535 (x : Int) : Go.bits .and .i64 x 65535 = x % 65536 := and_low x 16 (by omega)
theorem and30 (x : Int) : Go.bits .and .i64 x 1073741823 = x % 1073741824 := and_low x 30 (by omega)
theorem and1 (x : Int) : Go.bits .and .i64 x 1 = x % 2 := and_low x 1 (by omega)
/-- A law's last step: both are one. -/
theorem same_end {v : Bool} : (if (v != v) = true then some false else some true : Option Bool) = some true := by simp
theorem Ev.ex {α : Type} {g : Nat → Option α} {r : α} (h : Ev g r) : ∃ k, g k = some r := h.rounds
theorem Ev.from_ {α : Type} {g : Nat → Option α} {r : α} (K : Nat) (h : ∀ k, K ≤ k → g k = some r) : Ev g r := ⟨K, h⟩
theorem Ev.both {α β : Type} {g : Nat → Option α} {f : Nat → Option β} {r : α} {q : β} (h : Ev g r) (h' : Ev f q) : ∃ K, ∀ k, K ≤ k → g k = some r ∧ f k = some q := by
  obtain ⟨K, h⟩ := h
  obtain ⟨K', h'⟩ := h'
  exact ⟨K + K', fun k hk => ⟨h k (by omega), h' k (by omega)⟩⟩

/-! ### in -/
def rng (a b c : Int) : Bool := decide (b ≤ a) && decide (a ≤ c)
theorem rng_iff {a b c : Int} : rng a b c = true ↔ b ≤ a ∧ a ≤ c := by simp [rng]
theorem rng_false {a b c : Int} : rng a b c = false ↔ ¬ (b ≤ a ∧ a ≤ c) := by rw [← rng_iff]; simp
theorem in_eq (a b c : Int) : spec_l01In.f a b c = some (rng a b c) := by
  unfold spec_l01In.f rng
  by_cases h : b ≤ a
  · rw [if_pos h]; simp [h]
  · rw [if_neg h]; simp [h]
theorem within_eq (a b c : Int) : impl_within.f a b c = some (rng a b c) := by
  unfold impl_within.f rng
  by_cases h : b ≤ a
  · rw [if_pos h]; simp [h]
  · rw [if_neg h]; simp [h]

/-! ### commandok -/
theorem rngs_zero : rng 0 0 1000000 = true := by decide
theorem commandOk_same (o t q : Int) (key val : ByteArray) (v : Int) (k : Nat) (hk : 2 < k) : ∃ b, spec_CommandOk.f k o t q key val v = some b ∧ impl_CommandOk.f k o t q key val v = some b := by
  obtain ⟨k, rfl⟩ : ∃ m, k = m + 3 := ⟨k - 3, by omega⟩
  unfold spec_CommandOk.f impl_CommandOk.f
  simp only [in_eq, within_eq, Option.bind_some, spec_CommandOk.j0, spec_CommandOk.j1, impl_CommandOk.j0, impl_CommandOk.j1, impl_isIndex.f, impl_keyOk.f, impl_valOk.f]
  have hv : ((val.size : Int) > 20) ↔ ¬ ((val.size : Int) ≤ 20) := by omega
  by_cases h1 : o = 1
  · subst h1
    have : rng 1 1 5 = true := by decide
    by_cases a : t = 0
    · subst a
      by_cases b : q = 0
      · subst b
        by_cases c : key.toList = [] <;> by_cases d : val.toList = [] <;> simp [rngs_zero, this, c, d]
      · cases rng q 0 1000000 <;> simp [rngs_zero, this, b]
    · cases rng t 0 1000000 <;> cases rng q 0 1000000 <;> simp [this, a]
  · cases ht : rng t 0 1000000 <;> cases hq : rng q 0 1000000 <;> cases ho : rng o 1 5 <;> cases hkk : rng (key.size : Int) 1 8 <;> cases hvv : rng v 1 1000000000 <;>
      by_cases h20 : (val.size : Int) ≤ 20 <;> by_cases h2 : o = 2 <;> by_cases h3 : o = 3 <;> by_cases h4 : o = 4 <;> by_cases h5 : o = 5 <;>
      first
      | (exfalso; omega)
      | (exfalso; subst h2; revert ho; decide)
      | (exfalso; subst h3; revert ho; decide)
      | (exfalso; subst h4; revert ho; decide)
      | (exfalso; subst h5; revert ho; decide)
      | (exfalso; have := rng_iff.1 ho; omega)
      | (by_cases hl : val.toList = [] <;> by_cases hv0 : v = 0 <;> simp [h1, h2, h3, h4, h5, hv, h20, hl, hv0])

/-! ### bl -/
theorem bl_inj {s t : ByteArray} (h : bytesOf s = bytesOf t) : s = t := by
  unfold bytesOf at h
  have h2 : s.data.toList = t.data.toList := by
    apply List.ext_getElem?
    intro i
    have h3 := congrArg (fun l => l[i]?) h
    simp only [List.getElem?_map] at h3
    cases h4 : s.data.toList[i]? <;> cases h5 : t.data.toList[i]? <;> rw [h4, h5] at h3 <;> simp at h3 ⊢
    exact UInt8.toNat_inj.1 (by omega)
  exact ByteArray.ext (by rw [← Array.toArray_toList (xs := s.data), h2])
theorem bl_app (s t : ByteArray) : bytesOf (s ++ t) = bytesOf s ++ bytesOf t := by
  unfold bytesOf
  rw [ByteArray.toList_data_append, List.map_append]
theorem bl_ext (s : ByteArray) (a b : Nat) : bytesOf (s.extract a b) = ((bytesOf s).drop a).take (b - a) := by
  unfold bytesOf
  rw [ByteArray.data_extract, Array.toList_extract, ← List.map_drop, ← List.map_take] <;> simp [List.extract_eq_drop_take]
theorem bl_range {s : ByteArray} : ∀ x ∈ bytesOf s, 0 ≤ x ∧ x ≤ 255 := by
  intro x hx
  obtain ⟨b, _, rfl⟩ := List.mem_map.1 hx
  have := b.toNat_lt
  omega
theorem bl_str {l : List Int} (h : ∀ x ∈ l, 0 ≤ x ∧ x ≤ 255) : bytesOf (strOfNums l) = l := by
  unfold bytesOf
  rw [strOfNums_data, List.map_map]
  have : ∀ x ∈ l, ((fun b : UInt8 => (b.toNat : Int)) ∘ fun n : Int => UInt8.ofNat n.toNat) x = x := by
    intro x hx
    have := h x hx
    simp only [Function.comp, UInt8.toNat_ofNat']
    omega
  rw [List.map_congr_left this, List.map_id']
theorem str_bl (s : ByteArray) : strOfNums (bytesOf s) = s := bl_inj (bl_str bl_range)
theorem bl_empty : bytesOf (⟨#[]⟩ : ByteArray) = [] := rfl
theorem bt_bl (s : ByteArray) (i : Int) : bt s i = rd (bytesOf s) i := (rd_bytesOf s i).symm
theorem toList_iff {s t : ByteArray} : s.toList = t.toList ↔ s = t := by
  rw [ByteArray.toList_eq, ByteArray.toList_eq]
  constructor
  · intro h; exact ByteArray.ext (by rw [← Array.toArray_toList (xs := s.data), h])
  · intro h; rw [h]
theorem toList_nil {s : ByteArray} : s.toList = ([] : List UInt8) ↔ bytesOf s = [] := by
  rw [ByteArray.toList_eq]
  unfold bytesOf
  simp

/-! ### var -/
def varL : Nat → Int → List Int
  | 0, x => [x % 256]
  | d + 1, x => if x > 127 then (x % 128 + 128) % 256 :: varL d (x / 128) else [x % 256]
theorem varL_length : ∀ d x, (varL d x).length ≤ d + 1 := by
  intro d
  induction d with
  | zero => intro x; simp [varL]
  | succ d ih =>
    intro x
    unfold varL
    split
    · have := ih (x / 128); simp only [List.length_cons]; omega
    · simp
def varT (x : Int) : ByteArray := strOfNums (varL 8 x)
theorem varT_size (x : Int) : (varT x).size ≤ 9 := by
  unfold varT
  rw [strOfNums_size]
  exact varL_length 8 x
theorem spec_var_loop : ∀ (d : Nat) (x : Int) (acc : List Int), 0 ≤ x → x < 128 ^ (d + 1) → x ≤ 9223372036854775807 → acc.length + d ≤ 1000 → ∀ k, d < k → spec_l01Var.l0 k x acc = some (strOfNums (acc ++ varL d x)) := by
  intro d
  induction d with
  | zero =>
    intro x acc h0 h1 h2 h3 k hk
    obtain ⟨k, rfl⟩ : ∃ m, k = m + 1 := ⟨k - 1, by omega⟩
    simp only [spec_l01Var.l0, varL]
    rw [if_neg (by omega), if_pos (by omega)]
  | succ d ih =>
    intro x acc h0 h1 h2 h3 k hk
    obtain ⟨k, rfl⟩ : ∃ m, k = m + 1 := ⟨k - 1, by omega⟩
    simp only [spec_l01Var.l0, varL]
    by_cases hx : x > 127
    · have hp : (128 : Int) ^ (d + 1 + 1) = 128 ^ (d + 1) * 128 := Int.pow_succ 128 (d + 1)
      rw [if_pos hx, if_pos (by omega), if_pos hx, Int.tdiv_eq_ediv_of_nonneg h0, Int.tmod_eq_emod_of_nonneg h0, w64 (x := x / 128) (by omega) (by omega), w64 (x := x % 128 + 128) (by omega) (by omega)]
      rw [ih (x / 128) (acc ++ [(x % 128 + 128) % 256]) (by omega) (by omega) (by omega) (by rw [List.length_append, List.length_singleton]; omega) k (by omega), List.append_assoc]
      rfl
    · rw [if_neg hx, if_pos (by omega), if_neg hx]
theorem spec_var (x : Int) (h0 : 0 ≤ x) (h1 : x ≤ 1000000000) : Ev (fun k => spec_l01Var.f k x) (varT x) := ⟨9, fun k hk => by
  exact spec_var_loop 8 x [] h0 (by omega) (by omega) (by simp) k (by omega)⟩
theorem impl_var_loop : ∀ (d : Nat) (x : Int) (acc : List Int), 0 ≤ x → x < 128 ^ (d + 1) → x ≤ 9223372036854775807 → acc.length + d ≤ 1000 → ∀ k, d < k → impl_VarText.l0 k x acc = some (strOfNums (acc ++ varL d x), true) := by
  intro d
  induction d with
  | zero =>
    intro x acc h0 h1 h2 h3 k hk
    obtain ⟨k, rfl⟩ : ∃ m, k = m + 1 := ⟨k - 1, by omega⟩
    simp only [impl_VarText.l0, varL]
    rw [if_neg (by omega), if_pos (by omega)]
  | succ d ih =>
    intro x acc h0 h1 h2 h3 k hk
    obtain ⟨k, rfl⟩ : ∃ m, k = m + 1 := ⟨k - 1, by omega⟩
    simp only [impl_VarText.l0, varL]
    by_cases hx : x > 127
    · have hp : (128 : Int) ^ (d + 1 + 1) = 128 ^ (d + 1) * 128 := Int.pow_succ 128 (d + 1)
      rw [if_pos hx, if_pos (by omega), if_pos hx, Int.tdiv_eq_ediv_of_nonneg h0, Int.tmod_eq_emod_of_nonneg h0, w64 (x := x / 128) (by omega) (by omega), w64 (x := x % 128 + 128) (by omega) (by omega)]
      rw [ih (x / 128) (acc ++ [(x % 128 + 128) % 256]) (by omega) (by omega) (by omega) (by rw [List.length_append, List.length_singleton]; omega) k (by omega), List.append_assoc]
      rfl
    · rw [if_neg hx, if_pos (by omega), if_neg hx]
theorem impl_var (x : Int) (h0 : 0 ≤ x) (h1 : x ≤ 1000000000) : Ev (fun k => impl_VarText.f k x) (varT x, true) := ⟨9, fun k hk => by
  unfold impl_VarText.f
  have hr : rng x 0 1000000000 = true := rng_iff.2 ⟨h0, h1⟩
  simp only [within_eq, hr, Option.bind_some, if_true]
  exact impl_var_loop 8 x [] h0 (by omega) (by omega) (by simp) k (by omega)⟩
def shortT (s : ByteArray) : ByteArray := varT (s.size : Int) ++ s
theorem shortT_size (s : ByteArray) : (shortT s).size ≤ s.size + 9 := by
  have := varT_size (s.size : Int)
  unfold shortT
  rw [ByteArray.size_append]
  omega
theorem spec_short (s : ByteArray) (hs : s.size ≤ 1000000000) : Ev (fun k => spec_l16Short.f k s) (shortT s) := by
  unfold spec_l16Short.f
  refine Ev.bind (spec_var (s.size : Int) (by omega) (by omega)) ?_
  have := varT_size (s.size : Int)
  simp only [if_pos (show (varT (s.size : Int)).size + s.size ≤ 9223372036854775807 by omega)]
  exact Ev.now _
theorem impl_short (s : ByteArray) (hs : s.size ≤ 20000) : Ev (fun k => impl_ShortText.f k s) (shortT s, true) := by
  unfold impl_ShortText.f
  simp only [if_neg (show ¬ (s.size : Int) > 20000 by omega)]
  refine Ev.bind (impl_var (s.size : Int) (by omega) (by omega)) ?_
  have := varT_size (s.size : Int)
  simp only [if_pos (show (varT (s.size : Int)).size + s.size ≤ 9223372036854775807 by omega)]
  exact Ev.now _
def catB {α : Type} (f : α → ByteArray) : List α → ByteArray
  | [] => (⟨#[]⟩ : ByteArray)
  | x :: l => f x ++ catB f l
theorem app_empty (s : ByteArray) : s ++ (⟨#[]⟩ : ByteArray) = s := bl_inj (by rw [bl_app, bl_empty, List.append_nil])
theorem empty_app (s : ByteArray) : (⟨#[]⟩ : ByteArray) ++ s = s := bl_inj (by rw [bl_app, bl_empty, List.nil_append])
theorem varTexts_loop (l : List Int) (hl : l.length ≤ 1000000) (hr : ∀ x ∈ l, 0 ≤ x ∧ x ≤ 1000000000) : ∀ (d j : Nat) (acc : ByteArray), l.length - j = d → j ≤ l.length → acc.size ≤ 100 * j → Ev (fun k => impl_varTexts.l0 k acc l (l.length : Int) (j : Int)) (acc ++ catB varT (l.drop j)) := by
  intro d
  induction d with
  | zero =>
    intro j acc hd hj ha
    rw [List.drop_of_length_le (by omega)]
    simp only [catB, app_empty]
    exact Ev.step (f := fun _ => some acc) (fun k => by simp only [impl_varTexts.l0]; rw [if_neg (by omega)]) (Ev.now _)
  | succ d ih =>
    intro j acc hd hj ha
    have hjl : j < l.length := by omega
    have hget : rd l (j : Int) = l[j] := by unfold rd; rw [List.getD_eq_getElem?_getD, Int.toNat_natCast, List.getElem?_eq_getElem hjl]; rfl
    have hx := hr l[j] (List.getElem_mem _)
    refine Ev.step (f := fun k => (impl_VarText.f k l[j]).bind fun bt => if acc.size + bt.1.size ≤ 9223372036854775807 then impl_varTexts.l0 k (acc ++ bt.1) l (l.length : Int) ((j + 1 : Nat) : Int) else none) (fun k => ?_) ?_
    · simp only [impl_varTexts.l0]
      rw [if_pos (by omega), if_pos (by omega), if_pos (by omega), hget, w64 (x := (j : Int) + 1) (by omega) (by omega)]
      rfl
    · refine Ev.bind (impl_var _ hx.1 hx.2) ?_
      have h9 := varT_size l[j]
      simp only [if_pos (show acc.size + (varT l[j]).size ≤ 9223372036854775807 by omega)]
      have := ih (j + 1) (acc ++ varT l[j]) (by omega) (by omega) (by rw [ByteArray.size_append]; omega)
      rw [List.drop_eq_getElem_cons hjl, catB, ← ByteArray.append_assoc]
      exact this
theorem varTexts_ok (l : List Int) (hl : l.length ≤ 1000000) (hr : ∀ x ∈ l, 0 ≤ x ∧ x ≤ 1000000000) : Ev (fun k => impl_varTexts.f k l) (catB varT l) := by
  have := varTexts_loop l hl hr l.length 0 (⟨#[]⟩ : ByteArray) (by omega) (by omega) (by show 0 ≤ _; omega)
  rw [empty_app] at this
  exact this
theorem shortTexts_loop (l : List ByteArray) (hl : l.length ≤ 1000000) (hr : ∀ x ∈ l, x.size ≤ 20000) : ∀ (d j : Nat) (acc : ByteArray), l.length - j = d → j ≤ l.length → acc.size ≤ 30000 * j → Ev (fun k => impl_shortTexts.l0 k acc l (l.length : Int) (j : Int)) (acc ++ catB shortT (l.drop j)) := by
  intro d
  induction d with
  | zero =>
    intro j acc hd hj ha
    rw [List.drop_of_length_le (by omega)]
    simp only [catB, app_empty]
    exact Ev.step (f := fun _ => some acc) (fun k => by simp only [impl_shortTexts.l0]; rw [if_neg (by omega)]) (Ev.now _)
  | succ d ih =>
    intro j acc hd hj ha
    have hjl : j < l.length := by omega
    have hget : rdOf ByteArray.empty l (j : Int) = l[j] := by unfold rdOf; rw [List.getD_eq_getElem?_getD, Int.toNat_natCast, List.getElem?_eq_getElem hjl]; rfl
    have hx := hr l[j] (List.getElem_mem _)
    refine Ev.step (f := fun k => (impl_ShortText.f k l[j]).bind fun bt => if acc.size + bt.1.size ≤ 9223372036854775807 then impl_shortTexts.l0 k (acc ++ bt.1) l (l.length : Int) ((j + 1 : Nat) : Int) else none) (fun k => ?_) ?_
    · simp only [impl_shortTexts.l0]
      rw [if_pos (by omega), if_pos (by omega), if_pos (by omega), hget, w64 (x := (j : Int) + 1) (by omega) (by omega)]
      rfl
    · refine Ev.bind (impl_short _ hx) ?_
      have h9 := shortT_size l[j]
      simp only [if_pos (show acc.size + (shortT l[j]).size ≤ 9223372036854775807 by omega)]
      have := ih (j + 1) (acc ++ shortT l[j]) (by omega) (by omega) (by rw [ByteArray.size_append]; omega)
      rw [List.drop_eq_getElem_cons hjl, catB, ← ByteArray.append_assoc]
      exact this
theorem shortTexts_ok (l : List ByteArray) (hl : l.length ≤ 1000000) (hr : ∀ x ∈ l, x.size ≤ 20000) : Ev (fun k => impl_shortTexts.f k l) (catB shortT l) := by
  have := shortTexts_loop l hl hr l.length 0 (⟨#[]⟩ : ByteArray) (by omega) (by omega) (by show 0 ≤ _; omega)
  rw [empty_app] at this
  exact this

/-! ### bytes -/
theorem bytes_loop (l : List Int) (hl : l.length ≤ 2000000) : ∀ (d j : Nat) (acc : List Int), l.length - j = d → j ≤ l.length → acc.length = j → ∀ k, d < k → impl_byteTexts.l0 k acc l (l.length : Int) (j : Int) = some (strOfNums (acc ++ (l.drop j).map (· % 256))) := by
  intro d
  induction d with
  | zero =>
    intro j acc hd hj ha k hk
    obtain ⟨k, rfl⟩ : ∃ m, k = m + 1 := ⟨k - 1, by omega⟩
    simp only [impl_byteTexts.l0]
    rw [if_neg (by omega), List.drop_of_length_le (by omega)]
    simp
  | succ d ih =>
    intro j acc hd hj ha k hk
    obtain ⟨k, rfl⟩ : ∃ m, k = m + 1 := ⟨k - 1, by omega⟩
    have hjl : j < l.length := by omega
    have hget : rd l (j : Int) = l[j] := by unfold rd; simp [List.getD_eq_getElem?_getD, List.getElem?_eq_getElem hjl]
    have hdrop : l.drop j = l[j] :: l.drop (j + 1) := List.drop_eq_getElem_cons hjl
    simp only [impl_byteTexts.l0]
    rw [if_pos (by omega), if_pos (by omega), if_pos (by omega), if_pos (by omega), hget, w64 (x := (j : Int) + 1) (by omega) (by omega), hdrop]
    have := ih (j + 1) (acc ++ [l[j] % 256]) (by omega) (by omega) (by rw [List.length_append, List.length_singleton]; omega) k (by omega)
    rw [List.append_assoc] at this
    exact this
theorem bytes_ok (l : List Int) (hl : l.length ≤ 2000000) : ∀ k, l.length < k → impl_byteTexts.f k l = some (strOfNums (l.map (· % 256))) := fun k hk =>
  bytes_loop l hl l.length 0 [] (by omega) (by omega) rfl k hk

/-! ### commandtext -/
theorem toList_size {s : ByteArray} (h : s.toList = ([] : List UInt8)) : s.size = 0 := by
  have h1 := toList_nil.1 h
  have h2 := bytesOf_length s
  rw [h1] at h2
  simpa using h2.symm
theorem commandOk_rng (o t q : Int) (key val : ByteArray) (v : Int) (k : Nat) (h : spec_CommandOk.f (k + 2) o t q key val v = some true) : (0 ≤ t ∧ t ≤ 1000000) ∧ (0 ≤ q ∧ q ≤ 1000000) ∧ (0 ≤ v ∧ v ≤ 1000000000) ∧ (1 ≤ o ∧ o ≤ 5) ∧ key.size ≤ 8 ∧ val.size ≤ 20 := by
  unfold spec_CommandOk.f at h
  simp only [in_eq, Option.bind_some, spec_CommandOk.j0, spec_CommandOk.j1] at h
  cases ht : rng t 0 1000000 with
  | false => simp [ht] at h
  | true =>
    cases hq : rng q 0 1000000 with
    | false => simp [ht, hq] at h
    | true =>
      cases ho : rng o 1 5 with
      | false => simp [ht, hq, ho] at h
      | true =>
        refine ⟨rng_iff.1 ht, rng_iff.1 hq, ?_⟩
        simp only [ht, hq, ho, if_true, Bool.not_true, Bool.false_eq_true, if_false] at h
        by_cases h1 : o = 1
        · subst h1
          by_cases c : key.toList = []
          · by_cases d : val.toList = []
            · by_cases hv : v = 0
              · have := toList_size c
                have := toList_size d
                exact ⟨by omega, by omega, by omega, by omega⟩
              · exfalso
                revert h
                by_cases h7 : t = 0 <;> by_cases h8 : q = 0 <;> simp [h7, h8, hv, c, d]
            · simp [c, d] at h
          · simp [c] at h
        · simp only [if_neg h1] at h
          cases hk : rng (key.size : Int) 1 8 with
          | false => simp [hk] at h
          | true =>
            have hk' := rng_iff.1 hk
            simp only [hk, if_true, decide_eq_true_eq] at h
            by_cases hv20 : (val.size : Int) > 20
            · simp [hv20] at h
            · simp only [if_neg hv20] at h
              refine ⟨?_, rng_iff.1 ho, by omega, by omega⟩
              by_cases h2 : o = 2
              · simp only [if_pos h2, Option.some.injEq, beq_iff_eq] at h
                omega
              · by_cases h5 : o = 5
                · simp only [if_neg h2, if_pos h5, Option.some.injEq] at h
                  have := rng_iff.1 h
                  omega
                · by_cases d : val.toList = []
                  · simp only [if_neg h2, if_neg h5, if_pos d, Option.some.injEq, beq_iff_eq] at h
                    omega
                  · simp [h2, h5, d] at h
def cmdT (o t q : Int) (key val : ByteArray) (v : Int) : ByteArray := strOfNums [o % 256] ++ varT t ++ varT q ++ shortT key ++ shortT val ++ varT v
theorem spec_cmd_k (o t q : Int) (key val : ByteArray) (v : Int) (k : Nat) : spec_CommandOk.f (k + 3) o t q key val v = spec_CommandOk.f (0 + 3) o t q key val v := by
  unfold spec_CommandOk.f
  simp only [spec_CommandOk.j0, spec_CommandOk.j1]
theorem impl_cmd_k (o t q : Int) (key val : ByteArray) (v : Int) (k : Nat) : impl_CommandOk.f (k + 3) o t q key val v = impl_CommandOk.f (0 + 3) o t q key val v := by
  unfold impl_CommandOk.f
  simp only [impl_CommandOk.j0, impl_CommandOk.j1]
theorem commandText_same (o t q : Int) (key val : ByteArray) (v : Int) : ∃ r, Ev (fun k => spec_CommandText.f k o t q key val v) r ∧ Ev (fun k => impl_CommandText.f k o t q key val v) r := by
  obtain ⟨b, e1, e2⟩ := commandOk_same o t q key val v 3 (by omega)
  have f1 : Ev (fun k => spec_CommandOk.f k o t q key val v) b := ⟨3, fun k hk => by
    obtain ⟨m, rfl⟩ : ∃ m, k = m + 3 := ⟨k - 3, by omega⟩
    show spec_CommandOk.f (m + 3) o t q key val v = some b
    rw [spec_cmd_k]
    exact e1⟩
  have f2 : Ev (fun k => impl_CommandOk.f k o t q key val v) b := ⟨3, fun k hk => by
    obtain ⟨m, rfl⟩ : ∃ m, k = m + 3 := ⟨k - 3, by omega⟩
    show impl_CommandOk.f (m + 3) o t q key val v = some b
    rw [impl_cmd_k]
    exact e2⟩
  unfold spec_CommandText.f impl_CommandText.f
  cases b with
  | false =>
    refine ⟨((⟨#[]⟩ : ByteArray), false), Ev.bind f1 ?_, Ev.bind f2 ?_⟩
    · simp only [Bool.false_eq_true, if_false]
      exact Ev.now _
    · simp only [Bool.false_eq_true, if_false]
      exact Ev.now _
  | true =>
    obtain ⟨ht, hq, hv, ho, hk, hl⟩ := commandOk_rng o t q key val v 1 e1
    refine ⟨(cmdT o t q key val v, true), Ev.bind f1 ?_, Ev.bind f2 ?_⟩
    · have h1 : (strOfNums [o % 256]).size = 1 := by rw [strOfNums_size]; rfl
      have h2 := varT_size t
      have h3 := varT_size q
      have h4 := shortT_size key
      have h5 := shortT_size val
      have h6 := varT_size v
      simp only [if_true, Option.bind_some]
      refine Ev.bind (spec_var t ht.1 (by omega)) ?_
      simp only [if_pos (show (strOfNums [o % 256]).size + (varT t).size ≤ 9223372036854775807 by omega)]
      refine Ev.bind (spec_var q hq.1 (by omega)) ?_
      simp only [if_pos (show (strOfNums [o % 256] ++ varT t).size + (varT q).size ≤ 9223372036854775807 by rw [ByteArray.size_append]; omega)]
      refine Ev.bind (spec_short key (by omega)) ?_
      simp only [if_pos (show (strOfNums [o % 256] ++ varT t ++ varT q).size + (shortT key).size ≤ 9223372036854775807 by rw [ByteArray.size_append, ByteArray.size_append]; omega)]
      refine Ev.bind (spec_short val (by omega)) ?_
      simp only [if_pos (show (strOfNums [o % 256] ++ varT t ++ varT q ++ shortT key).size + (shortT val).size ≤ 9223372036854775807 by rw [ByteArray.size_append, ByteArray.size_append, ByteArray.size_append]; omega)]
      refine Ev.bind (spec_var v hv.1 hv.2) ?_
      simp only [if_pos (show (strOfNums [o % 256] ++ varT t ++ varT q ++ shortT key ++ shortT val).size + (varT v).size ≤ 9223372036854775807 by rw [ByteArray.size_append, ByteArray.size_append, ByteArray.size_append, ByteArray.size_append]; omega)]
      exact Ev.now _
    · have h1 : (strOfNums [o % 256]).size = 1 := by rw [strOfNums_size]; rfl
      have h2 := varT_size t
      have h3 := varT_size q
      have h4 := shortT_size key
      have h5 := shortT_size val
      have h6 := varT_size v
      simp only [if_true]
      refine Ev.bind ⟨2, fun k hk => bytes_ok [o] (by simp) k (by simp only [List.length_cons, List.length_nil]; omega)⟩ ?_
      refine Ev.bind (varTexts_ok [t, q] (by simp) (by simp only [List.mem_cons, List.not_mem_nil, or_false]; rintro x (rfl | rfl) <;> omega)) ?_
      simp only [catB, app_empty, List.map_cons, List.map_nil]
      simp only [if_pos (show (strOfNums [o % 256]).size + (varT t ++ varT q).size ≤ 9223372036854775807 by rw [ByteArray.size_append]; omega)]
      refine Ev.bind (shortTexts_ok [key, val] (by simp) (by simp only [List.mem_cons, List.not_mem_nil, or_false]; rintro x (rfl | rfl) <;> omega)) ?_
      simp only [catB, app_empty]
      simp only [if_pos (show (strOfNums [o % 256] ++ (varT t ++ varT q)).size + (shortT key ++ shortT val).size ≤ 9223372036854775807 by rw [ByteArray.size_append, ByteArray.size_append, ByteArray.size_append]; omega)]
      refine Ev.bind (varTexts_ok [v] (by simp) (by simp only [List.mem_cons, List.not_mem_nil, or_false]; rintro x rfl; omega)) ?_
      simp only [catB, app_empty]
      simp only [if_pos (show (strOfNums [o % 256] ++ (varT t ++ varT q) ++ (shortT key ++ shortT val)).size + (varT v).size ≤ 9223372036854775807 by rw [ByteArray.size_append, ByteArray.size_append, ByteArray.size_append, ByteArray.size_append]; omega)]
      have e : strOfNums [o % 256] ++ (varT t ++ varT q) ++ (shortT key ++ shortT val) ++ varT v = cmdT o t q key val v := by
        unfold cmdT
        simp only [ByteArray.append_assoc]
      rw [e]
      exact Ev.now _

/-! ### FnExactCommandText -/
theorem FnExactCommandText : StFnExactCommandText.Pure := by
  intro o t q key val v _ _ _ _ _ _
  obtain ⟨r, e1, e2⟩ := commandText_same o t q key val v
  obtain ⟨K, hK⟩ := Ev.both e1 e2
  refine ⟨K, ?_⟩
  obtain ⟨h1, h2⟩ := hK K (Nat.le_refl _)
  unfold laws_FnExactCommandText.f laws_toCommand.f
  obtain ⟨n, hn⟩ : ∃ n, laws_szCommand.f o t q key val v 1048576 = some n := by unfold laws_szCommand.f; split; exact ⟨_, rfl⟩; split <;> exact ⟨_, rfl⟩
  rw [hn]
  simp only [Option.bind_some, h1, h2]
  split <;> simp

end Go.Proofs.Ytakapoionaaimaa.Pure
