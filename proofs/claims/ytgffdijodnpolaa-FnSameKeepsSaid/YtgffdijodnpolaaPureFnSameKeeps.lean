/- The pure statement of the law 'FnSameKeeps', proved: over numbers, lists and texts alone. No condition. -/
import Derived.Test.YtgffdijodnpolaaStFnSameKeeps
import Derived.Laws.BitsLemmas
namespace Go.Proofs.Ytgffdijodnpolaa.Pure
open Go.RowKit Go.Proofs.Ytgffdijodnpolaa.QFnSameKeeps Go.Proofs.YtgffdijodnpolaaW.PrintWords Go.Proofs.YtgffdijodnpolaaW.PrintLast Go.Proofs.YtgffdijodnpolaaW.PrintMore Go.Proofs.Ytgffdijodnpolaa.StFnSameKeeps Go.Proofs.Ytgffdijodnpolaa.Opens
set_option linter.unusedVariables false
set_option linter.unusedSimpArgs false

/-! ### base -/
theorem w64 {x : Int} (h0 : -9223372036854775808 ≤ x) (h1 : x ≤ 9223372036854775807) : wrap64 x = x := by unfold wrap64; omega
theorem and_low (x : Int) (i : Nat) (hi : i ≤ 62) : Go.bits .and .i64 x (2 ^ i - 1) = x % 2 ^ i := by
  have hpos : 0 < 2 ^ i := Nat.two_pow_pos i
  have hc : ((2 : Int) ^ i - 1) = ((2 ^ i - 1 : Nat) : Int) := by rw [Int.natCast_sub hpos]; simp
  have h62 : 2 ^ i ≤ 2 ^ 62 := Nat.pow_le_pow_right (by decide) hi
  have hlt : 2 ^ i - 1 < 2 ^ 64 := by omega
  have hd : (2 ^ i : Nat) ∣ 2 ^ 64 := Nat.pow_dvd_pow 2 (by omega)
  rw [hc]
  simp only [Go.bits, BitVec.ofInt_natCast, BitVec.toNat_and, BitVec.toNat_ofNat, BitVec.toNat_ofInt]
  simp only [show IntKind.i64.bits = 64 from rfl]
  rw [Nat.mod_eq_of_lt hlt, Nat.and_two_pow_sub_one_eq_mod]
  have h1 : (((x % ((2 ^ 64 : Nat) : Int)).toNat % 2 ^ i : Nat) : Int) = x % 2 ^ i := by
    rw [Int.natCast_emod, Int.toNat_of_nonneg (Int.emod_nonneg _ (by decide))]
    rw [Int.natCast_pow]
    exact Int.emod_emod_of_dvd _ (by
      have : (((2 ^ i : Nat) : Int)) ∣ ((2 ^ 64 : Nat) : Int) := Int.natCast_dvd_natCast.2 hd
      simpa using this)
  rw [h1]
  have h2 : 0 ≤ x % 2 ^ i := Int.emod_nonneg _ (by
    have : (0 : Int) < 2 ^ i := by exact_mod_cast hpos
    omega)
  have h3 : x % 2 ^ i < 2 ^ i := Int.emod_lt_of_pos _ (by exact_mod_cast hpos)
  have h4 : (2 : Int) ^ i ≤ 2 ^ 62 := by exact_mod_cast h62
  rw [IntKind.wrap_i64]
  omega
theorem and255 (x : Int) : Go.bits .and .i64 x 255 = x % 256 := and_low x 8 (by omega)
theorem Ev.ex {α : Type} {g : Nat → Option α} {r : α} (h : Ev g r) : ∃ k, g k = some r := h.rounds
theorem getD_at {α : Type} {l : List α} {j : Nat} (z : α) (h : j < l.length) : l.getD (j : Int).toNat z = l[j] := by
  simp [List.getD_eq_getElem?_getD, List.getElem?_eq_getElem h]

/-! ### sz -/
def allF (p : Nat → Bool) (j : Nat) : Nat → Bool
  | 0 => true
  | d + 1 => p j && allF p (j + 1) d
theorem all_ev {F : Nat → Nat → Option Bool} {n : Nat} {p : Nat → Bool} {R : Bool}
    (hs : ∀ j, j < n → (p j = true → ∀ r, Ev (fun k => F k (j + 1)) r → Ev (fun k => F k j) r) ∧ (p j = false → Ev (fun k => F k j) false))
    (he : Ev (fun k => F k n) R) : ∀ d j, n - j = d → j ≤ n → Ev (fun k => F k j) (allF p j d && R) := by
  intro d
  induction d with
  | zero =>
    intro j hd hj
    obtain rfl : j = n := by omega
    simpa [allF] using he
  | succ d ih =>
    intro j hd hj
    have h := hs j (by omega)
    cases hp : p j with
    | true =>
      have := ih (j + 1) (by omega) (by omega)
      simp only [allF, hp, Bool.true_and]
      exact h.1 hp _ this
    | false =>
      simp only [allF, hp, Bool.false_and]
      exact h.2 hp
theorem Ev.here {α : Type} {F f : Nat → Option α} {r : α} (hs : ∀ k, F (k + 1) = f k) (h : ∀ k, f k = some r) : Ev F r := Ev.step hs ⟨0, fun k _ => h k⟩

/-! ### in -/
def rng (a b c : Int) : Bool := decide (b ≤ a) && decide (a ≤ c)
theorem rng_iff {a b c : Int} : rng a b c = true ↔ b ≤ a ∧ a ≤ c := by simp [rng]
theorem in_eq (a b c : Int) : spec_l01In.f a b c = some (rng a b c) := by
  unfold spec_l01In.f rng
  by_cases h : b ≤ a
  · rw [if_pos h]; simp [h]
  · rw [if_neg h]; simp [h]

/-! ### keepok -/
def pS (a : List S83) (j : Nat) : Bool :=
  rng (rd_T83 a j).f0 1 1000000 && (!(decide ((j : Int) > 0) && decide ((rd_T83 a ((j : Int) - 1)).f0 ≥ (rd_T83 a j).f0)) && (rng (rd_T83 a j).f1 0 1000000 && (decide (((rd_T83 a j).f2.size : Int) ≤ 40) && (!decide ((rd_T83 a j).f1 = 0) || decide ((rd_T83 a j).f2.toList = ([] : List UInt8))))))
def pI (a : List S81) (j : Nat) : Bool :=
  rng ((rd_T81 a j).f0.size : Int) 1 8 && ((!decide ((j : Int) > 0) || Op.bytesLess (rd_T81 a ((j : Int) - 1)).f0.toList (rd_T81 a j).f0.toList) && (decide (((rd_T81 a j).f1.size : Int) ≤ 20) && rng (rd_T81 a j).f2 1 1000000000))
def keepB (a : List S83) (b : List S81) : Bool :=
  (allF (pS a) 0 a.length && decide ((a.length : Int) ≤ 3)) && (allF (pI b) 0 b.length && decide ((b.length : Int) ≤ 8))
theorem gt_iff {x : Int} : (x > 40) = ¬ (x ≤ 40) := by simp
theorem gt_iff20 {x : Int} : (x > 20) = ¬ (x ≤ 20) := by simp
theorem spec_sess (a : List S83) (ha : a.length ≤ 1048576) : Ev (fun k => spec_l15Sessions.f k a) (allF (pS a) 0 a.length && decide ((a.length : Int) ≤ 3)) := by
  refine all_ev (F := fun k j => spec_l15Sessions.l0 k a (j : Int)) (n := a.length) (fun j hj => ?_) ?_ a.length 0 (by omega) (by omega)
  · have es : ∀ k, spec_l15Sessions.l0 (k + 1) a (j : Int) = if pS a j = true then spec_l15Sessions.l0 k a ((j + 1 : Nat) : Int) else some false := fun k => by
      simp only [spec_l15Sessions.l0]
      rw [if_pos (by omega), if_pos (by omega)]
      simp only [in_eq, Option.bind_some, gt_iff]
      rw [w64 (x := (j : Int) + 1) (by omega) (by omega), w64 (x := (j : Int) - 1) (by omega) (by omega)]
      unfold pS
      have e1 : ((j : Int) + 1) = ((j + 1 : Nat) : Int) := by omega
      rw [e1]
      by_cases h0 : (j : Int) > 0
      · simp only [h0, show (0 : Int) ≤ (j : Int) - 1 by omega, show (j : Int) - 1 < (a.length : Int) by omega, if_true]
        cases h1 : rng (rd_T83 a j).f0 1 1000000 <;> cases h2 : rng (rd_T83 a j).f1 0 1000000 <;>
          by_cases h3 : (rd_T83 a ((j : Int) - 1)).f0 ≥ (rd_T83 a j).f0 <;> by_cases h4 : ((rd_T83 a j).f2.size : Int) ≤ 40 <;>
          by_cases h5 : (rd_T83 a j).f1 = 0 <;> by_cases h6 : (rd_T83 a j).f2.toList = ([] : List UInt8) <;> simp [h1, h2, h3, h4, h5, h6]
      · simp only [h0, if_false]
        cases h1 : rng (rd_T83 a j).f0 1 1000000 <;> cases h2 : rng (rd_T83 a j).f1 0 1000000 <;>
          by_cases h4 : ((rd_T83 a j).f2.size : Int) ≤ 40 <;>
          by_cases h5 : (rd_T83 a j).f1 = 0 <;> by_cases h6 : (rd_T83 a j).f2.toList = ([] : List UInt8) <;> simp [h1, h2, h4, h5, h6]
    refine ⟨fun hp r hr => Ev.step (fun k => by rw [es, if_pos hp]) hr, fun hp => Ev.here (f := fun _ => some false) (fun k => by rw [es, if_neg (by simp [hp])]) (fun _ => rfl)⟩
  · exact Ev.here (f := fun _ => some (decide ((a.length : Int) ≤ 3))) (fun k => by simp only [spec_l15Sessions.l0]; rw [if_neg (by omega)]) (fun _ => rfl)
theorem spec_KeepOk_ok (a : List S83) (b : List S81) (ha : a.length ≤ 1048576) (hb : b.length ≤ 1048576) : Ev (fun k => spec_KeepOk.f k a b) (keepB a b) := by
  have hfin : Ev (fun k => spec_KeepOk.l0 k ((b.length : Nat) : Int) a b) (allF (pS a) 0 a.length && decide ((a.length : Int) ≤ 3) && decide ((b.length : Int) ≤ 8)) := by
    refine Ev.step (fun k => by simp only [spec_KeepOk.l0]; rw [if_neg (by omega)]) ?_
    refine Ev.bind (spec_sess a ha) ?_
    cases allF (pS a) 0 a.length && decide ((a.length : Int) ≤ 3)
    · simpa using Ev.now false
    · simpa using Ev.now (decide ((b.length : Int) ≤ 8))
  have h := all_ev (F := fun k j => spec_KeepOk.l0 k (j : Int) a b) (p := pI b) (n := b.length) (fun j hj => ?_) hfin b.length 0 (by omega) (by omega)
  · have e : keepB a b = (allF (pI b) 0 b.length && (allF (pS a) 0 a.length && decide ((a.length : Int) ≤ 3) && decide ((b.length : Int) ≤ 8))) := by
      unfold keepB
      cases allF (pI b) 0 b.length <;> cases allF (pS a) 0 a.length && decide ((a.length : Int) ≤ 3) <;> simp
    rw [e]
    exact h
  · have es : ∀ k, spec_KeepOk.l0 (k + 1) (j : Int) a b = if pI b j = true then spec_KeepOk.l0 k ((j + 1 : Nat) : Int) a b else some false := fun k => by
      simp only [spec_KeepOk.l0]
      rw [if_pos (by omega), if_pos (by omega)]
      simp only [in_eq, Option.bind_some, gt_iff20]
      rw [w64 (x := (j : Int) + 1) (by omega) (by omega), w64 (x := (j : Int) - 1) (by omega) (by omega)]
      unfold pI
      have e1 : ((j : Int) + 1) = ((j + 1 : Nat) : Int) := by omega
      rw [e1]
      by_cases h0 : (j : Int) > 0
      · simp only [h0, show (0 : Int) ≤ (j : Int) - 1 by omega, show (j : Int) - 1 < (b.length : Int) by omega, if_true]
        cases h1 : rng ((rd_T81 b j).f0.size : Int) 1 8 <;> cases h2 : rng (rd_T81 b j).f2 1 1000000000 <;>
          cases h3 : Op.bytesLess (rd_T81 b ((j : Int) - 1)).f0.toList (rd_T81 b j).f0.toList <;> by_cases h4 : ((rd_T81 b j).f1.size : Int) ≤ 20 <;> simp [h1, h2, h3, h4]
      · simp only [h0, if_false]
        cases h1 : rng ((rd_T81 b j).f0.size : Int) 1 8 <;> cases h2 : rng (rd_T81 b j).f2 1 1000000000 <;>
          by_cases h4 : ((rd_T81 b j).f1.size : Int) ≤ 20 <;> simp [h1, h2, h4]
    refine ⟨fun hp r hr => Ev.step (fun k => by rw [es, if_pos hp]) hr, fun hp => Ev.here (f := fun _ => some false) (fun k => by rw [es, if_neg (by simp [hp])]) (fun _ => rfl)⟩

/-! ### bl -/
theorem bl_inj {s t : ByteArray} (h : bytesOf s = bytesOf t) : s = t := by
  unfold bytesOf at h
  have h2 : s.data.toList = t.data.toList := by
    apply List.ext_getElem?
    intro i
    have h3 := congrArg (fun l => l[i]?) h
    simp only [List.getElem?_map] at h3
    cases h4 : s.data.toList[i]? <;> cases h5 : t.data.toList[i]? <;> rw [h4, h5] at h3 <;> simp at h3 ⊢
    exact UInt8.toNat_inj.1 (by omega)
  exact ByteArray.ext (by rw [← Array.toArray_toList (xs := s.data), h2])
theorem bl_app (s t : ByteArray) : bytesOf (s ++ t) = bytesOf s ++ bytesOf t := by
  unfold bytesOf
  rw [ByteArray.toList_data_append, List.map_append]
theorem bl_str {l : List Int} (h : ∀ x ∈ l, 0 ≤ x ∧ x ≤ 255) : bytesOf (strOfNums l) = l := by
  unfold bytesOf
  rw [strOfNums_data, List.map_map]
  have : ∀ x ∈ l, ((fun b : UInt8 => (b.toNat : Int)) ∘ fun n : Int => UInt8.ofNat n.toNat) x = x := by
    intro x hx
    have := h x hx
    simp only [Function.comp, UInt8.toNat_ofNat']
    omega
  rw [List.map_congr_left this, List.map_id']
theorem bl_empty : bytesOf (⟨#[]⟩ : ByteArray) = [] := rfl
theorem toList_iff {s t : ByteArray} : s.toList = t.toList ↔ s = t := by
  rw [ByteArray.toList_eq, ByteArray.toList_eq]
  constructor
  · intro h; exact ByteArray.ext (by rw [← Array.toArray_toList (xs := s.data), h])
  · intro h; rw [h]
theorem toList_nil {s : ByteArray} : s.toList = ([] : List UInt8) ↔ bytesOf s = [] := by
  rw [ByteArray.toList_eq]
  unfold bytesOf
  simp

/-! ### var -/
def varL : Nat → Int → List Int
  | 0, x => [x % 256]
  | d + 1, x => if x > 127 then (x % 128 + 128) % 256 :: varL d (x / 128) else [x % 256]
theorem varL_length : ∀ d x, (varL d x).length ≤ d + 1 := by
  intro d
  induction d with
  | zero => intro x; simp [varL]
  | succ d ih =>
    intro x
    unfold varL
    split
    · have := ih (x / 128); simp only [List.length_cons]; omega
    · simp
def varT (x : Int) : ByteArray := strOfNums (varL 8 x)
theorem varT_size (x : Int) : (varT x).size ≤ 9 := by
  unfold varT
  rw [strOfNums_size]
  exact varL_length 8 x
theorem spec_var_loop : ∀ (d : Nat) (x : Int) (acc : List Int), 0 ≤ x → x < 128 ^ (d + 1) → x ≤ 9223372036854775807 → acc.length + d ≤ 1000 → ∀ k, d < k → spec_l01Var.l0 k x acc = some (strOfNums (acc ++ varL d x)) := by
  intro d
  induction d with
  | zero =>
    intro x acc h0 h1 h2 h3 k hk
    obtain ⟨k, rfl⟩ : ∃ m, k = m + 1 := ⟨k - 1, by omega⟩
    simp only [spec_l01Var.l0, varL]
    rw [if_neg (by omega), if_pos (by omega)]
  | succ d ih =>
    intro x acc h0 h1 h2 h3 k hk
    obtain ⟨k, rfl⟩ : ∃ m, k = m + 1 := ⟨k - 1, by omega⟩
    simp only [spec_l01Var.l0, varL]
    by_cases hx : x > 127
    · have hp : (128 : Int) ^ (d + 1 + 1) = 128 ^ (d + 1) * 128 := Int.pow_succ 128 (d + 1)
      rw [if_pos hx, if_pos (by omega), if_pos hx, Int.tdiv_eq_ediv_of_nonneg h0, Int.tmod_eq_emod_of_nonneg h0, w64 (x := x / 128) (by omega) (by omega), w64 (x := x % 128 + 128) (by omega) (by omega)]
      rw [ih (x / 128) (acc ++ [(x % 128 + 128) % 256]) (by omega) (by omega) (by omega) (by rw [List.length_append, List.length_singleton]; omega) k (by omega), List.append_assoc]
      rfl
    · rw [if_neg hx, if_pos (by omega), if_neg hx]
theorem spec_var (x : Int) (h0 : 0 ≤ x) (h1 : x ≤ 1000000000) : Ev (fun k => spec_l01Var.f k x) (varT x) := ⟨9, fun k hk => by
  exact spec_var_loop 8 x [] h0 (by omega) (by omega) (by simp) k (by omega)⟩
def shortT (s : ByteArray) : ByteArray := varT (s.size : Int) ++ s
theorem shortT_size (s : ByteArray) : (shortT s).size ≤ s.size + 9 := by
  have := varT_size (s.size : Int)
  unfold shortT
  rw [ByteArray.size_append]
  omega
theorem spec_short (s : ByteArray) (hs : s.size ≤ 1000000000) : Ev (fun k => spec_l16Short.f k s) (shortT s) := by
  unfold spec_l16Short.f
  refine Ev.bind (spec_var (s.size : Int) (by omega) (by omega)) ?_
  have := varT_size (s.size : Int)
  simp only [if_pos (show (varT (s.size : Int)).size + s.size ≤ 9223372036854775807 by omega)]
  exact Ev.now _
def catB {α : Type} (f : α → ByteArray) : List α → ByteArray
  | [] => (⟨#[]⟩ : ByteArray)
  | x :: l => f x ++ catB f l
theorem app_empty (s : ByteArray) : s ++ (⟨#[]⟩ : ByteArray) = s := bl_inj (by rw [bl_app, bl_empty, List.append_nil])
theorem allF_all {p : Nat → Bool} : ∀ d j, allF p j d = true → ∀ i, j ≤ i → i < j + d → p i = true := by
  intro d
  induction d with
  | zero => intro j _ i h1 h2; omega
  | succ d ih =>
    intro j h i h1 h2
    unfold allF at h
    rw [Bool.and_eq_true] at h
    by_cases hij : i = j
    · subst hij; exact h.1
    · exact ih (j + 1) h.2 i (by omega) (by omega)
def encS (x : S83) : ByteArray := varT x.f0 ++ varT x.f1 ++ shortT x.f2
def encI (x : S81) : ByteArray := shortT x.f0 ++ shortT x.f1 ++ varT x.f2
def keepT (a : List S83) (b : List S81) : ByteArray := varT (a.length : Int) ++ catB encS a ++ (varT (b.length : Int) ++ catB encI b)
theorem keepB_iff {a : List S83} {b : List S81} (h : keepB a b = true) : (a.length ≤ 3 ∧ b.length ≤ 8) ∧
    (∀ j (hj : j < a.length), (1 ≤ a[j].f0 ∧ a[j].f0 ≤ 1000000) ∧ (0 ≤ a[j].f1 ∧ a[j].f1 ≤ 1000000) ∧ a[j].f2.size ≤ 40) ∧ (∀ j (hj : j < b.length), b[j].f0.size ≤ 8 ∧ b[j].f1.size ≤ 20 ∧ (1 ≤ b[j].f2 ∧ b[j].f2 ≤ 1000000000)) := by
  unfold keepB at h
  simp only [Bool.and_eq_true, decide_eq_true_eq] at h
  obtain ⟨⟨hs, ha⟩, hi, hb⟩ := h
  refine ⟨⟨by omega, by omega⟩, fun j hj => ?_, fun j hj => ?_⟩
  · have := allF_all _ _ hs j (by omega) (by omega)
    unfold pS at this
    have hget : rd_T83 a (j : Int) = a[j] := by unfold rd_T83; exact getD_at _ hj
    simp only [Bool.and_eq_true, rng_iff, decide_eq_true_eq, hget] at this
    omega
  · have := allF_all _ _ hi j (by omega) (by omega)
    unfold pI at this
    have hget : rd_T81 b (j : Int) = b[j] := by unfold rd_T81; exact getD_at _ hj
    simp only [Bool.and_eq_true, rng_iff, decide_eq_true_eq, hget] at this
    omega
theorem spec_kt_items (a : List S83) (b : List S81) (h : keepB a b = true) : ∀ (d j : Nat) (acc : ByteArray), b.length - j = d → j ≤ b.length → acc.size ≤ 10000 + 100 * j → Ev (fun k => spec_KeepText.l1 k acc (j : Int) a b) (acc ++ catB encI (b.drop j), true) := by
  obtain ⟨⟨_, hl⟩, _, hI⟩ := keepB_iff h
  intro d
  induction d with
  | zero =>
    intro j acc hd hj ha
    rw [List.drop_of_length_le (by omega)]
    simp only [catB, app_empty]
    exact Ev.step (f := fun _ => some (acc, true)) (fun k => by simp only [spec_KeepText.l1]; rw [if_neg (by omega)]) (Ev.now _)
  | succ d ih =>
    intro j acc hd hj ha
    have hjl : j < b.length := by omega
    obtain ⟨h1, h2, h3⟩ := hI j hjl
    have hget : rd_T81 b (j : Int) = b[j] := by unfold rd_T81; exact getD_at _ hjl
    refine Ev.step (fun k => rfl) ?_
    simp only [spec_KeepText.l1, if_pos (show (j : Int) < (b.length : Int) by omega), if_pos (show (0 : Int) ≤ (j : Int) by omega), hget, w64 (x := (j : Int) + 1) (by omega) (by omega)]
    have s1 := shortT_size b[j].f0
    have s2 := shortT_size b[j].f1
    have s3 := varT_size b[j].f2
    refine Ev.bind (spec_short b[j].f0 (by omega)) ?_
    simp only [if_pos (show acc.size + (shortT b[j].f0).size ≤ 9223372036854775807 by omega)]
    refine Ev.bind (spec_short b[j].f1 (by omega)) ?_
    simp only [if_pos (show (acc ++ shortT b[j].f0).size + (shortT b[j].f1).size ≤ 9223372036854775807 by rw [ByteArray.size_append]; omega)]
    refine Ev.bind (spec_var b[j].f2 (by omega) (by omega)) ?_
    simp only [if_pos (show (acc ++ shortT b[j].f0 ++ shortT b[j].f1).size + (varT b[j].f2).size ≤ 9223372036854775807 by rw [ByteArray.size_append, ByteArray.size_append]; omega)]
    have := ih (j + 1) (acc ++ shortT b[j].f0 ++ shortT b[j].f1 ++ varT b[j].f2) (by omega) (by omega) (by rw [ByteArray.size_append, ByteArray.size_append, ByteArray.size_append]; omega)
    rw [List.drop_eq_getElem_cons hjl, catB, encI]
    simp only [ByteArray.append_assoc] at this ⊢
    exact this
theorem spec_kt_sess (a : List S83) (b : List S81) (h : keepB a b = true) : ∀ (d j : Nat) (acc : ByteArray), a.length - j = d → j ≤ a.length → acc.size ≤ 1000 + 100 * j → Ev (fun k => spec_KeepText.l0 k acc (j : Int) a b) (acc ++ catB encS (a.drop j) ++ (varT (b.length : Int) ++ catB encI b), true) := by
  obtain ⟨⟨hl, hl2⟩, hS, _⟩ := keepB_iff h
  intro d
  induction d with
  | zero =>
    intro j acc hd hj ha
    rw [List.drop_of_length_le (by omega)]
    simp only [catB, app_empty]
    have s0 := varT_size (b.length : Int)
    refine Ev.step (fun k => rfl) ?_
    simp only [spec_KeepText.l0, if_neg (show ¬ (j : Int) < (a.length : Int) by omega)]
    refine Ev.bind (spec_var (b.length : Int) (by omega) (by omega)) ?_
    simp only [if_pos (show acc.size + (varT (b.length : Int)).size ≤ 9223372036854775807 by omega)]
    have := spec_kt_items a b h b.length 0 (acc ++ varT (b.length : Int)) (by omega) (by omega) (by rw [ByteArray.size_append]; omega)
    simp only [List.drop_zero, ByteArray.append_assoc] at this
    exact this
  | succ d ih =>
    intro j acc hd hj ha
    have hjl : j < a.length := by omega
    obtain ⟨h1, h2, h3⟩ := hS j hjl
    have hget : rd_T83 a (j : Int) = a[j] := by unfold rd_T83; exact getD_at _ hjl
    refine Ev.step (fun k => rfl) ?_
    simp only [spec_KeepText.l0, if_pos (show (j : Int) < (a.length : Int) by omega), if_pos (show (0 : Int) ≤ (j : Int) by omega), hget, w64 (x := (j : Int) + 1) (by omega) (by omega)]
    have s1 := varT_size a[j].f0
    have s2 := varT_size a[j].f1
    have s3 := shortT_size a[j].f2
    refine Ev.bind (spec_var a[j].f0 (by omega) (by omega)) ?_
    simp only [if_pos (show acc.size + (varT a[j].f0).size ≤ 9223372036854775807 by omega)]
    refine Ev.bind (spec_var a[j].f1 (by omega) (by omega)) ?_
    simp only [if_pos (show (acc ++ varT a[j].f0).size + (varT a[j].f1).size ≤ 9223372036854775807 by rw [ByteArray.size_append]; omega)]
    refine Ev.bind (spec_short a[j].f2 (by omega)) ?_
    simp only [if_pos (show (acc ++ varT a[j].f0 ++ varT a[j].f1).size + (shortT a[j].f2).size ≤ 9223372036854775807 by rw [ByteArray.size_append, ByteArray.size_append]; omega)]
    have := ih (j + 1) (acc ++ varT a[j].f0 ++ varT a[j].f1 ++ shortT a[j].f2) (by omega) (by omega) (by rw [ByteArray.size_append, ByteArray.size_append, ByteArray.size_append]; omega)
    rw [List.drop_eq_getElem_cons hjl, catB, encS]
    simp only [ByteArray.append_assoc] at this ⊢
    exact this
theorem spec_KeepText_ok (a : List S83) (b : List S81) (ha : a.length ≤ 1048576) (hb : b.length ≤ 1048576) : Ev (fun k => spec_KeepText.f k a b) (if keepB a b = true then (keepT a b, true) else ((⟨#[]⟩ : ByteArray), false)) := by
  unfold spec_KeepText.f
  refine Ev.bind (spec_KeepOk_ok a b ha hb) ?_
  by_cases h : keepB a b = true
  · have s0 := varT_size (a.length : Int)
    simp only [if_pos h]
    refine Ev.bind (spec_var (a.length : Int) (by omega) (by omega)) ?_
    have := spec_kt_sess a b h a.length 0 (varT (a.length : Int)) (by omega) (by omega) (by omega)
    simp only [List.drop_zero] at this
    exact this
  · simp only [if_neg h]
    exact Ev.now _

/-! ### samekeep -/
def sameS (x y : S83) : Bool := !(!(x.f0 == y.f0) || (!(x.f1 == y.f1) || (!(x.f2.toList == y.f2.toList))))
def sameI (x y : S81) : Bool := !(!(x.f0.toList == y.f0.toList) || (!(x.f1.toList == y.f1.toList) || (!(x.f2 == y.f2))))
def sameKeepB (a : List S83) (b : List S81) (c : List S83) (d : List S81) : Bool :=
  decide (a.length = c.length) && (decide (b.length = d.length) && (allF (fun j => sameS (rd_T83 a j) (rd_T83 c j)) 0 a.length && allF (fun j => sameI (rd_T81 b j) (rd_T81 d j)) 0 b.length))
theorem spec_ok (a : List S83) (b : List S81) (c : List S83) (d : List S81) (ha : a.length ≤ 1048576) (hb : b.length ≤ 1048576) (hc : c.length ≤ 1048576) (hd : d.length ≤ 1048576) :
    Ev (fun k => spec_SameKeep.f k a b c d) (sameKeepB a b c d) := by
  unfold sameKeepB
  by_cases h1 : a.length = c.length
  · have h1' : (a.length : Int) = (c.length : Int) := by omega
    have e1 : ∀ k, spec_SameKeep.f k a b c d = spec_SameKeep.j0 k ((b.length : Int) != (d.length : Int)) a b c d := fun k => by unfold spec_SameKeep.f; rw [if_pos h1']
    by_cases h2 : b.length = d.length
    · have h2' : ((b.length : Int) != (d.length : Int)) = false := by simp [h2]
      simp only [h1, h2, decide_true, Bool.true_and]
      rw [← h1, ← h2]
      simp only [e1, h2']
      refine Ev.step (f := fun k => spec_SameKeep.l0 k 0 a b c d) (fun k => by simp only [spec_SameKeep.j0]; rw [if_neg (by simp)]) ?_
      refine all_ev (F := fun k j => spec_SameKeep.l0 k (j : Int) a b c d) (n := a.length) (fun j hj => ?_) ?_ a.length 0 (by omega) (by omega)
      · have es : ∀ k, spec_SameKeep.l0 (k + 1) (j : Int) a b c d = if sameS (rd_T83 a j) (rd_T83 c j) = false then some false else spec_SameKeep.l0 k ((j + 1 : Nat) : Int) a b c d := fun k => by
          simp only [spec_SameKeep.l0]
          rw [if_pos (by omega), if_pos (by omega), if_pos (by omega), w64 (by omega) (by omega)]
          unfold sameS
          simp only [Bool.not_eq_false']
          rfl
        refine ⟨fun hp r hr => Ev.step (fun k => by rw [es, if_neg (by simp [hp])]) hr, fun hp => Ev.here (fun k => by rw [es, if_pos hp]) (fun _ => rfl)⟩
      · refine Ev.step (f := fun k => spec_SameKeep.l1 k 0 a b c d) (fun k => by simp only [spec_SameKeep.l0]; rw [if_neg (by omega)]) ?_
        have := all_ev (F := fun k j => spec_SameKeep.l1 k (j : Int) a b c d) (n := b.length) (p := fun j => sameI (rd_T81 b j) (rd_T81 d j)) (R := true) (fun j hj => ?_) ?_ b.length 0 (by omega) (by omega)
        · simpa using this
        · have es : ∀ k, spec_SameKeep.l1 (k + 1) (j : Int) a b c d = if sameI (rd_T81 b j) (rd_T81 d j) = false then some false else spec_SameKeep.l1 k ((j + 1 : Nat) : Int) a b c d := fun k => by
            simp only [spec_SameKeep.l1]
            rw [if_pos (by omega), if_pos (by omega), if_pos (by omega), w64 (by omega) (by omega)]
            unfold sameI
            simp only [Bool.not_eq_false']
            rfl
          refine ⟨fun hp r hr => Ev.step (fun k => by rw [es, if_neg (by simp [hp])]) hr, fun hp => Ev.here (fun k => by rw [es, if_pos hp]) (fun _ => rfl)⟩
        · exact Ev.here (f := fun _ => some true) (fun k => by simp only [spec_SameKeep.l1]; rw [if_neg (by omega)]) (fun _ => rfl)
    · have h2' : ((b.length : Int) != (d.length : Int)) = true := by simp; omega
      simp only [h2, decide_false, Bool.false_and, Bool.and_false, e1, h2']
      exact Ev.here (f := fun _ => some false) (fun k => by simp [spec_SameKeep.j0]) (fun _ => rfl)
  · have h1' : ¬ (a.length : Int) = (c.length : Int) := by omega
    have e1 : ∀ k, spec_SameKeep.f k a b c d = spec_SameKeep.j0 k true a b c d := fun k => by unfold spec_SameKeep.f; rw [if_neg h1']
    simp only [h1, decide_false, Bool.false_and, e1]
    exact Ev.here (f := fun _ => some false) (fun k => by simp [spec_SameKeep.j0]) (fun _ => rfl)
theorem impl_S (a c : List S83) (ha : a.length ≤ 1048576) (hc : c.length ≤ 1048576) : Ev (fun k => impl_Session.f k a c) (decide (a.length = c.length) && allF (fun j => sameS (rd_T83 a j) (rd_T83 c j)) 0 a.length) := by
  unfold impl_Session.f
  by_cases h1 : a.length = c.length
  · have h1' : (a.length : Int) = (c.length : Int) := by omega
    simp only [if_pos h1', h1, decide_true, Bool.true_and]
    rw [← h1]
    have := all_ev (F := fun k j => impl_Session.l0 k a c (a.length : Int) (j : Int)) (n := a.length) (p := fun j => sameS (rd_T83 a j) (rd_T83 c j)) (R := true) (fun j hj => ?_) ?_ a.length 0 (by omega) (by omega)
    · simpa using this
    · have es : ∀ k, impl_Session.l0 (k + 1) a c (a.length : Int) (j : Int) = if sameS (rd_T83 a j) (rd_T83 c j) = false then some false else impl_Session.l0 k a c (a.length : Int) ((j + 1 : Nat) : Int) := fun k => by
        simp only [impl_Session.l0]
        rw [if_pos (by omega), if_pos (by omega), if_pos (by omega), if_pos (by omega), w64 (by omega) (by omega)]
        unfold sameS
        simp only [Bool.not_eq_false']
        rfl
      refine ⟨fun hp r hr => Ev.step (fun k => by rw [es, if_neg (by simp [hp])]) hr, fun hp => Ev.here (fun k => by rw [es, if_pos hp]) (fun _ => rfl)⟩
    · exact Ev.here (f := fun _ => some true) (fun k => by simp only [impl_Session.l0]; rw [if_neg (by omega)]) (fun _ => rfl)
  · have h1' : ¬ (a.length : Int) = (c.length : Int) := by omega
    simp only [if_neg h1', h1, decide_false, Bool.false_and]
    exact Ev.now _
theorem impl_I (a c : List S81) (ha : a.length ≤ 1048576) (hc : c.length ≤ 1048576) : Ev (fun k => impl_Item.f k a c) (decide (a.length = c.length) && allF (fun j => sameI (rd_T81 a j) (rd_T81 c j)) 0 a.length) := by
  unfold impl_Item.f
  by_cases h1 : a.length = c.length
  · have h1' : (a.length : Int) = (c.length : Int) := by omega
    simp only [if_pos h1', h1, decide_true, Bool.true_and]
    rw [← h1]
    have := all_ev (F := fun k j => impl_Item.l0 k a c (a.length : Int) (j : Int)) (n := a.length) (p := fun j => sameI (rd_T81 a j) (rd_T81 c j)) (R := true) (fun j hj => ?_) ?_ a.length 0 (by omega) (by omega)
    · simpa using this
    · have es : ∀ k, impl_Item.l0 (k + 1) a c (a.length : Int) (j : Int) = if sameI (rd_T81 a j) (rd_T81 c j) = false then some false else impl_Item.l0 k a c (a.length : Int) ((j + 1 : Nat) : Int) := fun k => by
        simp only [impl_Item.l0]
        rw [if_pos (by omega), if_pos (by omega), if_pos (by omega), if_pos (by omega), w64 (by omega) (by omega)]
        unfold sameI
        simp only [Bool.not_eq_false']
        rfl
      refine ⟨fun hp r hr => Ev.step (fun k => by rw [es, if_neg (by simp [hp])]) hr, fun hp => Ev.here (fun k => by rw [es, if_pos hp]) (fun _ => rfl)⟩
    · exact Ev.here (f := fun _ => some true) (fun k => by simp only [impl_Item.l0]; rw [if_neg (by omega)]) (fun _ => rfl)
  · have h1' : ¬ (a.length : Int) = (c.length : Int) := by omega
    simp only [if_neg h1', h1, decide_false, Bool.false_and]
    exact Ev.now _
theorem impl_ok (a : List S83) (b : List S81) (c : List S83) (d : List S81) (ha : a.length ≤ 1048576) (hb : b.length ≤ 1048576) (hc : c.length ≤ 1048576) (hd : d.length ≤ 1048576) :
    Ev (fun k => impl_SameKeep.f k a b c d) (sameKeepB a b c d) := by
  unfold impl_SameKeep.f
  refine Ev.bind (impl_S a c ha hc) ?_
  by_cases h : (decide (a.length = c.length) && allF (fun j => sameS (rd_T83 a j) (rd_T83 c j)) 0 a.length) = true
  · simp only [h, if_true]
    refine Ev.bind (impl_I b d hb hd) ?_
    have : sameKeepB a b c d = (decide (b.length = d.length) && allF (fun j => sameI (rd_T81 b j) (rd_T81 d j)) 0 b.length) := by
      rw [Bool.and_eq_true] at h
      unfold sameKeepB
      rw [h.1, h.2]
      simp
    rw [this]
    exact Ev.now _
  · rw [Bool.not_eq_true] at h
    simp only [h]
    have : sameKeepB a b c d = false := by
      unfold sameKeepB
      rcases Bool.and_eq_false_iff.1 h with h | h <;> rw [h] <;> simp
    rw [this]
    exact Ev.now _

/-! ### keepinj -/
theorem varL_rng : ∀ d x, ∀ y ∈ varL d x, 0 ≤ y ∧ y ≤ 255 := by
  intro d
  induction d with
  | zero =>
    intro x y hy
    simp only [varL, List.mem_singleton] at hy
    omega
  | succ d ih =>
    intro x y hy
    unfold varL at hy
    split at hy
    · rcases List.mem_cons.1 hy with h | h
      · omega
      · exact ih _ y h
    · rw [List.mem_singleton] at hy
      omega
theorem blV (x : Int) : bytesOf (varT x) = varL 8 x := bl_str (varL_rng 8 x)
theorem varL_inj : ∀ (d : Nat) (x y : Int) (r q : List Int), 0 ≤ x → x < 128 ^ (d + 1) → 0 ≤ y → y < 128 ^ (d + 1) → varL d x ++ r = varL d y ++ q → x = y ∧ r = q := by
  intro d
  induction d with
  | zero =>
    intro x y r q hx hx2 hy hy2 h
    simp only [varL, List.cons_append, List.nil_append] at h
    injection h with h1 h2
    exact ⟨by omega, h2⟩
  | succ d ih =>
    intro x y r q hx hx2 hy hy2 h
    have hp : (128 : Int) ^ (d + 1 + 1) = 128 ^ (d + 1) * 128 := Int.pow_succ 128 (d + 1)
    rw [hp] at hx2 hy2
    unfold varL at h
    by_cases h1 : x > 127
    · by_cases h2 : y > 127
      · simp only [if_pos h1, if_pos h2, List.cons_append] at h
        injection h with h3 h4
        have h5 := ih (x / 128) (y / 128) r q (by omega) (by generalize (128 : Int) ^ (d + 1) = P at *; omega) (by omega) (by generalize (128 : Int) ^ (d + 1) = P at *; omega) h4
        exact ⟨by omega, h5.2⟩
      · simp only [if_pos h1, if_neg h2, List.cons_append, List.nil_append] at h
        injection h with h3 h4
        omega
    · by_cases h2 : y > 127
      · simp only [if_neg h1, if_pos h2, List.cons_append, List.nil_append] at h
        injection h with h3 h4
        omega
      · simp only [if_neg h1, if_neg h2, List.cons_append, List.nil_append] at h
        injection h with h3 h4
        exact ⟨by omega, h4⟩
theorem var_inj {x y : Int} {r q : List Int} (hx : 0 ≤ x ∧ x ≤ 1000000000) (hy : 0 ≤ y ∧ y ≤ 1000000000) (h : bytesOf (varT x) ++ r = bytesOf (varT y) ++ q) : x = y ∧ r = q := by
  rw [blV, blV] at h
  have hp : (128 : Int) ^ (8 + 1) = 9223372036854775808 := by decide
  exact varL_inj 8 x y r q hx.1 (by rw [hp]; omega) hy.1 (by rw [hp]; omega) h
theorem short_inj {s t : ByteArray} {r q : List Int} (hs : s.size ≤ 1000) (ht : t.size ≤ 1000) (h : bytesOf (shortT s) ++ r = bytesOf (shortT t) ++ q) : s = t ∧ r = q := by
  unfold shortT at h
  rw [bl_app, bl_app, List.append_assoc, List.append_assoc] at h
  obtain ⟨h1, h2⟩ := var_inj ⟨by omega, by omega⟩ ⟨by omega, by omega⟩ h
  obtain ⟨h3, h4⟩ := List.append_inj h2 (by rw [bytesOf_length, bytesOf_length]; omega)
  exact ⟨bl_inj h3, h4⟩
def goodS (x : S83) : Prop := (0 ≤ x.f0 ∧ x.f0 ≤ 1000000000) ∧ (0 ≤ x.f1 ∧ x.f1 ≤ 1000000000) ∧ x.f2.size ≤ 1000
def goodI (x : S81) : Prop := x.f0.size ≤ 1000 ∧ x.f1.size ≤ 1000 ∧ (0 ≤ x.f2 ∧ x.f2 ≤ 1000000000)
theorem encS_inj (x y : S83) (r q : List Int) (hx : goodS x) (hy : goodS y) (h : bytesOf (encS x) ++ r = bytesOf (encS y) ++ q) : x = y ∧ r = q := by
  unfold encS at h
  rw [bl_app, bl_app, bl_app, bl_app, List.append_assoc, List.append_assoc, List.append_assoc, List.append_assoc] at h
  obtain ⟨h1, h2⟩ := var_inj hx.1 hy.1 h
  obtain ⟨h3, h4⟩ := var_inj hx.2.1 hy.2.1 h2
  obtain ⟨h5, h6⟩ := short_inj hx.2.2 hy.2.2 h4
  refine ⟨?_, h6⟩
  cases x
  cases y
  simp only at h1 h3 h5
  rw [h1, h3, h5]
theorem encI_inj (x y : S81) (r q : List Int) (hx : goodI x) (hy : goodI y) (h : bytesOf (encI x) ++ r = bytesOf (encI y) ++ q) : x = y ∧ r = q := by
  unfold encI at h
  rw [bl_app, bl_app, bl_app, bl_app, List.append_assoc, List.append_assoc, List.append_assoc, List.append_assoc] at h
  obtain ⟨h1, h2⟩ := short_inj hx.1 hy.1 h
  obtain ⟨h3, h4⟩ := short_inj hx.2.1 hy.2.1 h2
  obtain ⟨h5, h6⟩ := var_inj hx.2.2 hy.2.2 h4
  refine ⟨?_, h6⟩
  cases x
  cases y
  simp only at h1 h3 h5
  rw [h1, h3, h5]
theorem cat_inj {α : Type} {f : α → ByteArray} {P : α → Prop} (hf : ∀ x y r q, P x → P y → bytesOf (f x) ++ r = bytesOf (f y) ++ q → x = y ∧ r = q) : ∀ (a c : List α) (r q : List Int), a.length = c.length → (∀ x ∈ a, P x) → (∀ x ∈ c, P x) → bytesOf (catB f a) ++ r = bytesOf (catB f c) ++ q → a = c ∧ r = q := by
  intro a
  induction a with
  | nil =>
    intro c r q hl _ _ h
    cases c with
    | nil => exact ⟨rfl, by simpa [catB, bl_empty] using h⟩
    | cons y c => simp at hl
  | cons x a ih =>
    intro c r q hl ha hc h
    cases c with
    | nil => simp at hl
    | cons y c =>
      simp only [catB] at h
      rw [bl_app, bl_app, List.append_assoc, List.append_assoc] at h
      obtain ⟨h1, h2⟩ := hf x y _ _ (ha x (by simp)) (hc y (by simp)) h
      obtain ⟨h3, h4⟩ := ih c r q (by simpa using hl) (fun z hz => ha z (by simp [hz])) (fun z hz => hc z (by simp [hz])) h2
      exact ⟨by rw [h1, h3], h4⟩
theorem keep_good {a : List S83} {b : List S81} (h : keepB a b = true) : (a.length ≤ 3 ∧ b.length ≤ 8) ∧ (∀ x ∈ a, goodS x) ∧ (∀ x ∈ b, goodI x) := by
  obtain ⟨hl, h1, h2⟩ := keepB_iff h
  refine ⟨hl, fun x hx => ?_, fun x hx => ?_⟩
  · obtain ⟨j, hj, rfl⟩ := List.getElem_of_mem hx
    have := h1 j hj
    exact ⟨⟨by omega, by omega⟩, ⟨by omega, by omega⟩, by omega⟩
  · obtain ⟨j, hj, rfl⟩ := List.getElem_of_mem hx
    have := h2 j hj
    exact ⟨by omega, by omega, by omega, by omega⟩
theorem keepT_inj {a c : List S83} {b d : List S81} (h1 : keepB a b = true) (h2 : keepB c d = true) (h : keepT a b = keepT c d) : a = c ∧ b = d := by
  obtain ⟨l1, s1, i1⟩ := keep_good h1
  obtain ⟨l2, s2, i2⟩ := keep_good h2
  have h := congrArg bytesOf h
  unfold keepT at h
  rw [bl_app, bl_app, bl_app, bl_app, bl_app, bl_app, List.append_assoc, List.append_assoc] at h
  obtain ⟨e1, h⟩ := var_inj ⟨by omega, by omega⟩ ⟨by omega, by omega⟩ h
  obtain ⟨e2, h⟩ := cat_inj encS_inj a c _ _ (by omega) s1 s2 h
  obtain ⟨e3, h⟩ := var_inj ⟨by omega, by omega⟩ ⟨by omega, by omega⟩ h
  have h' : bytesOf (catB encI b) ++ [] = bytesOf (catB encI d) ++ [] := by rw [h]
  obtain ⟨e4, _⟩ := cat_inj encI_inj b d _ _ (by omega) i1 i2 h'
  exact ⟨e2, e4⟩
theorem allF_of {p : Nat → Bool} : ∀ d j, (∀ i, j ≤ i → i < j + d → p i = true) → allF p j d = true := by
  intro d
  induction d with
  | zero => intro j _; rfl
  | succ d ih =>
    intro j h
    unfold allF
    rw [h j (by omega) (by omega), ih (j + 1) (fun i h1 h2 => h i (by omega) (by omega))]
    rfl
theorem sameS_iff (x y : S83) : sameS x y = true ↔ x = y := by
  unfold sameS
  cases x
  cases y
  simp only [Bool.not_eq_true', Bool.or_eq_false_iff, Bool.not_eq_false', beq_iff_eq, toList_iff]
  constructor
  · rintro ⟨rfl, rfl, rfl⟩; rfl
  · intro h; injection h with h1 h2 h3; exact ⟨h1, h2, h3⟩
theorem sameI_iff (x y : S81) : sameI x y = true ↔ x = y := by
  unfold sameI
  cases x
  cases y
  simp only [Bool.not_eq_true', Bool.or_eq_false_iff, Bool.not_eq_false', beq_iff_eq, toList_iff]
  constructor
  · rintro ⟨rfl, rfl, rfl⟩; rfl
  · intro h; injection h with h1 h2 h3; exact ⟨h1, h2, h3⟩
theorem rdS_at {l : List S83} {j : Nat} (h : j < l.length) : rd_T83 l (j : Int) = l[j] := by unfold rd_T83; exact getD_at _ h
theorem rdI_at {l : List S81} {j : Nat} (h : j < l.length) : rd_T81 l (j : Int) = l[j] := by unfold rd_T81; exact getD_at _ h
theorem same_iff (a : List S83) (b : List S81) (c : List S83) (d : List S81) : sameKeepB a b c d = true ↔ a = c ∧ b = d := by
  unfold sameKeepB
  simp only [Bool.and_eq_true, decide_eq_true_eq]
  constructor
  · rintro ⟨h1, h2, h3, h4⟩
    refine ⟨List.ext_getElem h1 fun j q1 q2 => ?_, List.ext_getElem h2 fun j q1 q2 => ?_⟩
    · have := allF_all _ _ h3 j (by omega) (by omega)
      rwa [rdS_at q1, rdS_at q2, sameS_iff] at this
    · have := allF_all _ _ h4 j (by omega) (by omega)
      rwa [rdI_at q1, rdI_at q2, sameI_iff] at this
  · rintro ⟨rfl, rfl⟩
    exact ⟨rfl, rfl, allF_of _ _ fun i _ _ => (sameS_iff _ _).2 rfl, allF_of _ _ fun i _ _ => (sameI_iff _ _).2 rfl⟩
theorem same_refl (a : List S83) (b : List S81) : sameKeepB a b a b = true := (same_iff a b a b).2 ⟨rfl, rfl⟩
theorem same_symm (a : List S83) (b : List S81) (c : List S83) (d : List S81) : sameKeepB a b c d = sameKeepB c d a b := by
  rw [Bool.eq_iff_iff, same_iff, same_iff]
  constructor <;> rintro ⟨rfl, rfl⟩ <;> exact ⟨rfl, rfl⟩
theorem same_text (a : List S83) (b : List S81) (c : List S83) (d : List S81) (h1 : keepB a b = true) (h2 : keepB c d = true) : (sameKeepB a b c d == ((keepT a b).toList == (keepT c d).toList)) = true := by
  rw [beq_iff_eq, Bool.eq_iff_iff, same_iff, beq_iff_eq, toList_iff]
  constructor
  · rintro ⟨rfl, rfl⟩; rfl
  · exact keepT_inj h1 h2

/-! ### draw -/
def Cur (b : List Int) (i : Int) : Prop := 0 ≤ i ∧ i ≤ (b.length : Int)
theorem new_loop (b : List Int) : ∀ (d : Nat) (i x : Int), 0 ≤ i → i ≤ 4000 → 4000 - i ≤ d → ∃ h, ∀ k, d < k → spec_l01New.l0 k b x i = some (b, 0, h) := by
  intro d
  induction d with
  | zero =>
    intro i x h0 h1 hd
    refine ⟨x, fun k hk => ?_⟩
    obtain ⟨k, rfl⟩ : ∃ m, k = m + 1 := ⟨k - 1, by omega⟩
    simp only [spec_l01New.l0]
    by_cases hl : i < (b.length : Int)
    · rw [if_pos hl, if_neg (by omega)]
    · rw [if_neg hl]
  | succ d ih =>
    intro i x h0 h1 hd
    by_cases hl : i < (b.length : Int) ∧ i < 4000
    · obtain ⟨h, ih⟩ := ih (i + 1) (Go.bits .and .i64 (wrap64 ((wrap64 ((wrap64 (x * 131)) + (wrap64 (rd b i)))) + 7)) 1073741823) (by omega) (by omega) (by omega)
      refine ⟨h, fun k hk => ?_⟩
      obtain ⟨k, rfl⟩ : ∃ m, k = m + 1 := ⟨k - 1, by omega⟩
      simp only [spec_l01New.l0]
      rw [if_pos hl.1, if_pos hl.2, if_pos h0, w64 (x := i + 1) (by omega) (by omega)]
      exact ih k (by omega)
    · refine ⟨x, fun k hk => ?_⟩
      obtain ⟨k, rfl⟩ : ∃ m, k = m + 1 := ⟨k - 1, by omega⟩
      simp only [spec_l01New.l0]
      by_cases hl2 : i < (b.length : Int)
      · rw [if_pos hl2, if_neg (by omega)]
      · rw [if_neg hl2]
theorem new_ok (b : List Int) : ∃ h, Ev (fun k => spec_l01New.f k b) (b, 0, h) := by
  obtain ⟨h, hk⟩ := new_loop b 4000 0 (wrap64 (37401 + (b.length : Int))) (by omega) (by omega) (by omega)
  exact ⟨h, 4001, fun k h1 => hk k (by omega)⟩
theorem cur_zero (b : List Int) : Cur b 0 := ⟨by omega, by omega⟩
theorem byte_ok {b : List Int} {i : Int} (h : Int) (hb : b.length ≤ 1048576) (hi : Cur b i) : ∃ v i' h', spec_l01Byte.f b i h = some (v, i', h') ∧ (0 ≤ v ∧ v ≤ 255) ∧ Cur b i' := by
  obtain ⟨h0, h1⟩ := hi
  unfold spec_l01Byte.f
  by_cases hl : i < (b.length : Int)
  · rw [if_pos hl, if_pos h0]
    refine ⟨_, _, _, rfl, ?_, ?_⟩
    · rw [and255]; omega
    · rw [w64 (by omega) (by omega)]; exact ⟨by omega, by omega⟩
  · rw [if_neg hl]
    refine ⟨_, _, _, rfl, ?_, h0, h1⟩
    rw [and255]; omega
theorem tmod_below {x n : Int} (hx : 0 ≤ x) (hn : 0 < n) : 0 ≤ Int.tmod x n ∧ Int.tmod x n < n := by
  rw [Int.tmod_eq_emod_of_nonneg hx]
  exact ⟨Int.emod_nonneg _ (by omega), Int.emod_lt_of_pos _ hn⟩
theorem below_ok {b : List Int} {i : Int} (h n : Int) (hb : b.length ≤ 1048576) (hi : Cur b i) : ∃ v i' h', spec_l01Below.f b i h n = some (v, i', h') ∧ (0 ≤ v ∧ (0 < n → v < n) ∧ (n ≤ 0 → v = 0)) ∧ Cur b i' := by
  unfold spec_l01Below.f
  by_cases hn : n ≤ 0
  · rw [if_pos hn]
    exact ⟨0, i, h, rfl, ⟨by omega, fun h => by omega, fun _ => rfl⟩, hi⟩
  · rw [if_neg hn]
    by_cases hs : n ≤ 256
    · rw [if_pos hs]
      obtain ⟨v, i', h', e, hv, hi'⟩ := byte_ok h hb hi
      rw [e]
      simp only [Option.bind_some]
      rw [if_neg (by omega)]
      have := tmod_below hv.1 (show 0 < n by omega)
      exact ⟨_, _, _, rfl, ⟨this.1, fun _ => this.2, fun h => absurd h hn⟩, hi'⟩
    · rw [if_neg hs]
      obtain ⟨v1, i1, h1, e1, hv1, hi1⟩ := byte_ok h hb hi
      rw [e1]
      simp only [Option.bind_some]
      obtain ⟨v2, i2, h2, e2, hv2, hi2⟩ := byte_ok h1 hb hi1
      rw [e2]
      simp only [Option.bind_some]
      obtain ⟨v3, i3, h3, e3, hv3, hi3⟩ := byte_ok h2 hb hi2
      rw [e3]
      simp only [Option.bind_some]
      obtain ⟨v4, i4, h4, e4, hv4, hi4⟩ := byte_ok h3 hb hi3
      rw [e4]
      simp only [Option.bind_some]
      rw [if_neg (by omega)]
      rw [w64 (x := v1 * 16777216) (by omega) (by omega), w64 (x := v2 * 65536) (by omega) (by omega), w64 (x := v3 * 256) (by omega) (by omega), w64 (x := v1 * 16777216 + v2 * 65536) (by omega) (by omega),
        w64 (x := v1 * 16777216 + v2 * 65536 + v3 * 256) (by omega) (by omega), w64 (x := v1 * 16777216 + v2 * 65536 + v3 * 256 + v4) (by omega) (by omega)]
      have := tmod_below (show 0 ≤ v1 * 16777216 + v2 * 65536 + v3 * 256 + v4 by omega) (show 0 < n by omega)
      exact ⟨_, _, _, rfl, ⟨this.1, fun _ => this.2, fun h => absurd h hn⟩, hi4⟩
theorem big_eq (b : List Int) : laws_big.f b = some (decide ((b.length : Int) > 1048576)) := rfl

/-! ### tot -/
def Tot {α : Type} (g : Nat → Option α) (P : α → Prop) : Prop := ∃ r, Ev g r ∧ P r
theorem Tot.bind {α β : Type} {g : Nat → Option α} {f : Nat → α → Option β} {P : α → Prop} {Q : β → Prop} (h : Tot g P) (h2 : ∀ r, P r → Tot (fun k => f k r) Q) : Tot (fun k => (g k).bind (f k)) Q := by
  obtain ⟨r, e, hr⟩ := h
  obtain ⟨q, e2, hq⟩ := h2 r hr
  exact ⟨q, Ev.bind e e2, hq⟩
theorem Tot.ret {α : Type} {P : α → Prop} (r : α) (h : P r) : Tot (fun _ => some r) P := ⟨r, Ev.now _, h⟩
theorem Tot.step {α : Type} {F f : Nat → Option α} {P : α → Prop} (hs : ∀ k, F (k + 1) = f k) (h : Tot f P) : Tot F P := by
  obtain ⟨r, e, hr⟩ := h
  exact ⟨r, Ev.step hs e, hr⟩
theorem Tot.mono {α : Type} {g : Nat → Option α} {P Q : α → Prop} (h : Tot g P) (hpq : ∀ r, P r → Q r) : Tot g Q := by
  obtain ⟨r, e, hr⟩ := h
  exact ⟨r, e, hpq r hr⟩
theorem Tot.of_some {α : Type} {o : Option α} {P : α → Prop} (r : α) (e : o = some r) (h : P r) : Tot (fun _ => o) P := ⟨r, ⟨0, fun _ _ => e⟩, h⟩
theorem tBelow {b : List Int} {i : Int} (h n : Int) (hb : b.length ≤ 1048576) (hi : Cur b i) : Tot (fun _ => spec_l01Below.f b i h n) (fun r => (0 ≤ r.1 ∧ (0 < n → r.1 < n) ∧ (n ≤ 0 → r.1 = 0)) ∧ Cur b r.2.1) := by
  obtain ⟨v, i', h', e, hv, hi'⟩ := below_ok h n hb hi
  exact Tot.of_some _ e ⟨hv, hi'⟩
theorem rd_mem {l : List Int} {i : Int} (h0 : 0 ≤ i) (h1 : i < (l.length : Int)) : rd l i ∈ l := by
  unfold rd
  rw [List.getD_eq_getElem?_getD, List.getElem?_eq_getElem (by omega), Option.getD_some]
  exact List.getElem_mem _
theorem tPick {b : List Int} {i : Int} (h : Int) (l : List Int) (hb : b.length ≤ 1048576) (hi : Cur b i) (hl : 0 < l.length) : Tot (fun _ => spec_l01PickInt.f b i h l) (fun r => r.1 ∈ l ∧ Cur b r.2.1) := by
  obtain ⟨v, i', h', e, hv, hi'⟩ := below_ok h (l.length : Int) hb hi
  have h1 := hv.2.1 (by omega)
  refine Tot.of_some (rd l v, i', h') ?_ ⟨rd_mem hv.1 h1, hi'⟩
  unfold spec_l01PickInt.f
  rw [e]
  simp only [Option.bind_some]
  rw [if_pos hv.1, if_pos h1]
theorem tOnce {b : List Int} {i : Int} (h n : Int) (hb : b.length ≤ 1048576) (hi : Cur b i) : Tot (fun _ => spec_l01Once.f b i h n) (fun r => Cur b r.2.1) := by
  obtain ⟨v, i', h', e, _, hi'⟩ := below_ok h n hb hi
  refine Tot.of_some (v == 0, i', h') ?_ hi'
  unfold spec_l01Once.f
  rw [e]
  rfl
theorem tPickT {b : List Int} {i : Int} (h : Int) (l : List ByteArray) (hb : b.length ≤ 1048576) (hi : Cur b i) (hl : 0 < l.length) : Tot (fun _ => spec_l01Pick.f b i h l) (fun r => r.1 ∈ l ∧ Cur b r.2.1) := by
  obtain ⟨v, i', h', e, hv, hi'⟩ := below_ok h (l.length : Int) hb hi
  have h1 := hv.2.1 (by omega)
  have hm : rdOf ByteArray.empty l v ∈ l := by
    unfold rdOf
    rw [List.getD_eq_getElem?_getD, List.getElem?_eq_getElem (by have := hv.1; omega), Option.getD_some]
    exact List.getElem_mem _
  refine Tot.of_some (rdOf ByteArray.empty l v, i', h') ?_ ⟨hm, hi'⟩
  unfold spec_l01Pick.f
  rw [e]
  simp only [Option.bind_some]
  rw [if_pos hv.1, if_pos h1]

/-! ### bytes -/

/-! ### cmdspec -/
theorem toList_size {s : ByteArray} (h : s.toList = ([] : List UInt8)) : s.size = 0 := by
  have h1 := toList_nil.1 h
  have h2 := bytesOf_length s
  rw [h1] at h2
  simpa using h2.symm
theorem commandOk_rng (o t q : Int) (key val : ByteArray) (v : Int) (k : Nat) (h : spec_CommandOk.f (k + 2) o t q key val v = some true) : (0 ≤ t ∧ t ≤ 1000000) ∧ (0 ≤ q ∧ q ≤ 1000000) ∧ (0 ≤ v ∧ v ≤ 1000000000) ∧ (1 ≤ o ∧ o ≤ 5) ∧ key.size ≤ 8 ∧ val.size ≤ 20 := by
  unfold spec_CommandOk.f at h
  simp only [in_eq, Option.bind_some, spec_CommandOk.j0, spec_CommandOk.j1] at h
  cases ht : rng t 0 1000000 with
  | false => simp [ht] at h
  | true =>
    cases hq : rng q 0 1000000 with
    | false => simp [ht, hq] at h
    | true =>
      cases ho : rng o 1 5 with
      | false => simp [ht, hq, ho] at h
      | true =>
        refine ⟨rng_iff.1 ht, rng_iff.1 hq, ?_⟩
        simp only [ht, hq, ho, if_true, Bool.not_true, Bool.false_eq_true, if_false] at h
        by_cases h1 : o = 1
        · subst h1
          by_cases c : key.toList = []
          · by_cases d : val.toList = []
            · by_cases hv : v = 0
              · have := toList_size c
                have := toList_size d
                exact ⟨by omega, by omega, by omega, by omega⟩
              · exfalso
                revert h
                by_cases h7 : t = 0 <;> by_cases h8 : q = 0 <;> simp [h7, h8, hv, c, d]
            · simp [c, d] at h
          · simp [c] at h
        · simp only [if_neg h1] at h
          cases hk : rng (key.size : Int) 1 8 with
          | false => simp [hk] at h
          | true =>
            have hk' := rng_iff.1 hk
            simp only [hk, if_true, decide_eq_true_eq] at h
            by_cases hv20 : (val.size : Int) > 20
            · simp [hv20] at h
            · simp only [if_neg hv20] at h
              refine ⟨?_, rng_iff.1 ho, by omega, by omega⟩
              by_cases h2 : o = 2
              · simp only [if_pos h2, Option.some.injEq, beq_iff_eq] at h
                omega
              · by_cases h5 : o = 5
                · simp only [if_neg h2, if_pos h5, Option.some.injEq] at h
                  have := rng_iff.1 h
                  omega
                · by_cases d : val.toList = []
                  · simp only [if_neg h2, if_neg h5, if_pos d, Option.some.injEq, beq_iff_eq] at h
                    omega
                  · simp [h2, h5, d] at h
theorem spec_cmd_k (o t q : Int) (key val : ByteArray) (v : Int) (k : Nat) : spec_CommandOk.f (k + 3) o t q key val v = spec_CommandOk.f (0 + 3) o t q key val v := by
  unfold spec_CommandOk.f
  simp only [spec_CommandOk.j0, spec_CommandOk.j1]
theorem spec_cmd_ev (o t q : Int) (key val : ByteArray) (v : Int) : ∃ b, Ev (fun k => spec_CommandOk.f k o t q key val v) b ∧ (b = true → (0 ≤ t ∧ t ≤ 1000000) ∧ (0 ≤ q ∧ q ≤ 1000000) ∧ (0 ≤ v ∧ v ≤ 1000000000) ∧ (1 ≤ o ∧ o ≤ 5) ∧ key.size ≤ 8 ∧ val.size ≤ 20) := by
  have ht : (spec_CommandOk.f (0 + 3) o t q key val v).isSome = true := by
    unfold spec_CommandOk.f
    simp only [in_eq, Option.bind_some, spec_CommandOk.j0, spec_CommandOk.j1]
    repeat' split
    all_goals rfl
  obtain ⟨b, hb⟩ := Option.isSome_iff_exists.1 ht
  refine ⟨b, ⟨3, fun k hk => ?_⟩, fun h => ?_⟩
  · obtain ⟨m, rfl⟩ : ∃ m, k = m + 3 := ⟨k - 3, by omega⟩
    show spec_CommandOk.f (m + 3) o t q key val v = some b
    rw [spec_cmd_k]
    exact hb
  · subst h
    exact commandOk_rng o t q key val v 1 hb

/-! ### cmddraw -/
theorem item_tot (a : List S83) (l : List S81) (s : ByteArray) (hl : l.length ≤ 1048576) : ∀ (d j : Nat), l.length - j = d → j ≤ l.length → Tot (fun k => spec_ItemOf.l0 k s (j : Int) a l) (fun _ => True) := by
  intro d
  induction d with
  | zero =>
    intro j hd hj
    refine Tot.step (fun k => rfl) ?_
    simp only [spec_ItemOf.l0, if_neg (show ¬ (j : Int) < (l.length : Int) by omega)]
    exact Tot.ret _ trivial
  | succ d ih =>
    intro j hd hj
    refine Tot.step (fun k => rfl) ?_
    simp only [spec_ItemOf.l0, if_pos (show (j : Int) < (l.length : Int) by omega), if_pos (show (0 : Int) ≤ (j : Int) by omega), w64 (x := (j : Int) + 1) (by omega) (by omega)]
    by_cases h : (rd_T81 l (j : Int)).f0.toList = s.toList
    · simp only [if_pos h]
      exact Tot.ret _ trivial
    · simp only [if_neg h]
      exact ih (j + 1) (by omega) (by omega)
theorem tOf1 {b : List Int} {i : Int} (h : Int) (hb : b.length ≤ 1048576) (hi : Cur b i) (q : Bool) (o t s : Int) (k1 k2 : ByteArray) (v : Int) (y1 y2 : ByteArray) (y3 : Int) : Tot (fun k => spec_l15Of.j1 k q b i h o t s k1 k2 v y1 y2 y3) (fun r => Cur b r.2.2.2.2.2.2.1) := by
  refine Tot.step (fun k => rfl) ?_
  simp only [spec_l15Of.j1]
  by_cases h5 : o = 5
  · simp only [if_pos h5]
    refine Tot.bind (tBelow h 20 hb hi) fun r hr => ?_
    by_cases hq : q = true
    · simp only [if_pos hq]
      refine Tot.bind (tOnce _ 3 hb hr.2) fun u hu => ?_
      by_cases hu1 : u.1 = true
      · simp only [if_pos hu1]; exact Tot.ret _ hu
      · simp only [if_neg hu1]; exact Tot.ret _ hu
    · simp only [if_neg hq]
      exact Tot.ret _ hr.2
  · simp only [if_neg h5]
    exact Tot.ret _ hi
theorem tOf0 {b : List Int} {i : Int} (h : Int) (hb : b.length ≤ 1048576) (hi : Cur b i) (q w : Bool) (o t s : Int) (k1 k2 : ByteArray) (v : Int) (y1 y2 : ByteArray) (y3 : Int) : Tot (fun k => spec_l15Of.j0 k q w b i h o t s k1 k2 v y1 y2 y3) (fun r => Cur b r.2.2.2.2.2.2.1) := by
  refine Tot.step (fun k => rfl) ?_
  simp only [spec_l15Of.j0]
  by_cases hw : w = true
  · simp only [if_pos hw]
    refine Tot.bind (tPickT _ _ hb hi (by simp)) fun u hu => ?_
    exact tOf1 _ hb hu.2 _ _ _ _ _ _ _ _ _ _
  · simp only [if_neg hw]
    exact tOf1 _ hb hi _ _ _ _ _ _ _ _ _ _
theorem tOf {b : List Int} {i : Int} (h : Int) (hb : b.length ≤ 1048576) (hi : Cur b i) (x : List S83) (y : List S81) (hy : y.length ≤ 1048576) : Tot (fun k => spec_l15Of.f k b i h x y) (fun r => Cur b r.2.2.2.2.2.2.1) := by
  unfold spec_l15Of.f
  refine Tot.bind (tPick h _ hb hi (by simp)) fun r hr => ?_
  refine Tot.bind (tPickT _ _ hb hr.2 (by simp)) fun u hu => ?_
  refine Tot.bind (P := fun _ => True) (show Tot (fun k => spec_ItemOf.f k x y u.1) _ from item_tot x y u.1 hy y.length 0 (by omega) (by omega)) fun v _ => ?_
  by_cases h2 : r.1 = 2
  · simp only [if_pos h2]
    exact tOf0 _ hb hu.2 _ _ _ _ _ _ _ _ _ _ _
  · simp only [if_neg h2]
    exact tOf0 _ hb hu.2 _ _ _ _ _ _ _ _ _ _ _
theorem tCmd1 {b : List Int} {i : Int} (h : Int) (hb : b.length ≤ 1048576) (hi : Cur b i) (o t s : Int) (k1 k2 : ByteArray) (v y1 y2 : Int) (y3 : ByteArray) : Tot (fun k => spec_l15Command.j1 k b i h o t s k1 k2 v y1 y2 y3) (fun r => Cur b r.2.2.2.2.2.2.1) := by
  refine Tot.step (fun k => rfl) ?_
  simp only [spec_l15Command.j1]
  refine Tot.bind (tBelow h 16 hb hi) fun r hr => ?_
  by_cases h0 : r.1 = 0
  · simp only [if_pos h0]; exact Tot.ret _ hr.2
  · by_cases h1 : r.1 = 1
    · simp only [if_neg h0, if_pos h1]
      refine Tot.bind (tBelow _ 4 hb hr.2) fun u hu => ?_
      exact Tot.ret _ hu.2
    · by_cases h2 : r.1 = 2
      · simp only [if_neg h0, if_neg h1, if_pos h2]
        refine Tot.bind (tBelow _ 9 hb hr.2) fun u hu => ?_
        exact Tot.ret _ hu.2
      · simp only [if_neg h0, if_neg h1, if_neg h2]; exact Tot.ret _ hr.2
theorem tCmd {b : List Int} {i : Int} (h : Int) (hb : b.length ≤ 1048576) (hi : Cur b i) (x : List S83) (y : List S81) (hx : 0 < x.length ∧ x.length ≤ 1048576) (hy : y.length ≤ 1048576) : Tot (fun k => spec_l15Command.f k b i h x y) (fun r => Cur b r.2.2.2.2.2.2.1) := by
  unfold spec_l15Command.f
  simp only [if_neg (show ¬ (x.length : Int) = 0 by omega)]
  refine Tot.bind (tOnce h 16 hb hi) fun r hr => ?_
  refine Tot.step (fun k => rfl) ?_
  simp only [spec_l15Command.j0]
  by_cases hr1 : r.1 = true
  · simp only [if_pos hr1]
    exact Tot.ret _ hr
  · simp only [if_neg hr1]
    refine Tot.bind (tOf _ hb hr x y hy) fun u hu => ?_
    simp only [w64 (x := (x.length : Int) - 1) (by omega) (by omega), if_pos (show (0 : Int) ≤ (x.length : Int) - 1 by omega), if_pos (show (x.length : Int) - 1 < (x.length : Int) by omega)]
    refine Tot.bind (tOnce _ 4 hb hu) fun v hv => ?_
    by_cases hv1 : v.1 = true
    · simp only [if_pos hv1]
      refine Tot.bind (tBelow _ (x.length : Int) hb hv) fun w hw => ?_
      have hw1 := hw.1.2.1 (by omega)
      simp only [if_pos hw.1.1, if_pos hw1]
      exact tCmd1 _ hb hw.2 _ _ _ _ _ _ _ _ _
    · simp only [if_neg hv1]
      exact tCmd1 _ hb hv _ _ _ _ _ _ _ _ _

/-! ### decimal -/
theorem dec_loop (s : Bool) : ∀ (d : Nat) (x : Int) (acc : ByteArray), 0 ≤ x → x < 10 ^ d → x ≤ 1000000000000 → acc.size ≤ 100 → d + acc.size ≤ 100 → Tot (fun k => spec_Decimal.l0 k x s acc) (fun r => r.size ≤ acc.size + d + 1) := by
  intro d
  induction d with
  | zero =>
    intro x acc h0 h1 _ ha hd
    have hx : x = 0 := by rw [show (10 : Int) ^ 0 = 1 from rfl] at h1; omega
    refine Tot.step (fun k => rfl) ?_
    simp only [spec_Decimal.l0, if_pos hx]
    by_cases hs : s = true
    · simp only [if_pos hs, if_pos (show 1 + acc.size ≤ 9223372036854775807 by omega)]
      exact Tot.ret _ (by rw [ByteArray.size_append]; show 1 + acc.size ≤ _; omega)
    · simp only [if_neg hs]
      exact Tot.ret _ (by omega)
  | succ d ih =>
    intro x acc h0 h1 h2 ha hd
    refine Tot.step (fun k => rfl) ?_
    by_cases hx : x = 0
    · simp only [spec_Decimal.l0, if_pos hx]
      by_cases hs : s = true
      · simp only [if_pos hs, if_pos (show 1 + acc.size ≤ 9223372036854775807 by omega)]
        exact Tot.ret _ (by rw [ByteArray.size_append]; show 1 + acc.size ≤ _; omega)
      · simp only [if_neg hs]
        exact Tot.ret _ (by omega)
    · have hm : Int.tmod x 10 = x % 10 := Int.tmod_eq_emod_of_nonneg h0
      have hq : Int.tdiv x 10 = x / 10 := Int.tdiv_eq_ediv_of_nonneg h0
      have hp : (10 : Int) ^ (d + 1) = 10 ^ d * 10 := Int.pow_succ 10 d
      rw [hp] at h1
      obtain ⟨v, hv⟩ : ∃ v, spec_l01Figure.f (Int.tmod x 10) = some v := by
        unfold spec_l01Figure.f
        split <;> exact ⟨_, rfl⟩
      simp only [spec_Decimal.l0, if_neg hx, if_neg (show ¬ Int.tmod x 10 < 0 by omega), hv, Option.bind_some]
      have hz : (strOfNums [v]).size = 1 := by rw [strOfNums_size]; rfl
      simp only [if_pos (show (strOfNums [v]).size + acc.size ≤ 9223372036854775807 by omega), hq, w64 (x := x / 10) (by omega) (by omega)]
      have hlt : x / 10 < 10 ^ d := by generalize (10 : Int) ^ d = P at *; omega
      refine Tot.mono (ih (x / 10) (strOfNums [v] ++ acc) (by omega) hlt (by omega) (by rw [ByteArray.size_append]; omega) (by rw [ByteArray.size_append]; omega)) fun r hr => ?_
      rw [ByteArray.size_append] at hr
      omega
theorem tDec (x : Int) (h0 : 0 ≤ x) (h1 : x ≤ 1000000000) : Tot (fun k => spec_Decimal.f k x) (fun r => r.size ≤ 20) := by
  unfold spec_Decimal.f
  by_cases hx : x = 0
  · simp only [if_pos hx]
    exact Tot.ret _ (by show 1 ≤ 20; omega)
  · simp only [if_neg hx]
    refine Tot.mono (dec_loop _ 12 x _ h0 (by rw [show (10 : Int) ^ 12 = 1000000000000 from by decide]; omega) (by omega) (by show 0 ≤ 100; omega) (by show 12 + 0 ≤ 100; omega)) fun r hr => ?_
    have : (⟨#[]⟩ : ByteArray).size = 0 := rfl
    omega

/-! ### text -/
theorem long_loop (n c : Int) (hn : n ≤ 1000000) : ∀ (d : Nat) (j : Int) (l : List Int), (l.length : Int) = n → 0 ≤ j → n - j ≤ d → j ≤ n → Tot (fun k => spec_l01Long.l0 k n c l j) (fun r => (r.size : Int) = n) := by
  intro d
  induction d with
  | zero =>
    intro j l hl h0 hd hj
    refine Tot.step (f := fun _ => some (strOfNums l)) (fun k => by simp only [spec_l01Long.l0]; rw [if_neg (by omega)]) (Tot.ret _ (by rw [strOfNums_size]; exact hl))
  | succ d ih =>
    intro j l hl h0 hd hj
    by_cases hjn : j < n
    · refine Tot.step (fun k => by simp only [spec_l01Long.l0]; rw [if_pos hjn, if_pos h0, if_pos (by omega), w64 (by omega) (by omega)]) ?_
      exact ih (j + 1) (l.set j.toNat c) (by rw [List.length_set]; exact hl) (by omega) (by omega) (by omega)
    · refine Tot.step (f := fun _ => some (strOfNums l)) (fun k => by simp only [spec_l01Long.l0]; rw [if_neg hjn]) (Tot.ret _ (by rw [strOfNums_size]; exact hl))
theorem tLong (n c : Int) (h0 : 0 ≤ n) (hn : n ≤ 1000000) : Tot (fun k => spec_l01Long.f k n c) (fun r => (r.size : Int) = n) := by
  unfold spec_l01Long.f
  simp only [if_pos h0, if_pos (show n.toNat ≤ 281474976710656 by omega)]
  exact long_loop n c hn n.toNat 0 _ (by rw [List.length_replicate]; omega) (by omega) (by omega) (by omega)

/-! ### keepdraw -/
theorem copy_eq (x : List S83) (y : List S81) (hx : x.length ≤ 1000) (hy : y.length ≤ 1000) : spec_l15Copy.f x y = some (x, y) := by
  unfold spec_l15Copy.f
  simp only [Option.bind_some, List.nil_append, List.length_nil]
  rw [if_pos (by omega), if_pos (by omega)]
theorem tCopy (x : List S83) (y : List S81) (hx : x.length ≤ 1000) (hy : y.length ≤ 1000) : Tot (fun _ => spec_l15Copy.f x y) (fun r => r = (x, y)) := Tot.of_some _ (copy_eq x y hx hy) rfl
theorem open_l1 (i : Int) (h0 : 0 ≤ i) (h1 : i ≤ 1000000) (a : List S83) (b : List S81) (c : List S83) (e : List S81) (ha : a.length ≤ 3) : ∀ (d j : Nat) (x : List S83), a.length - j = d → j ≤ a.length → x.length ≤ j + 4 → Tot (fun k => spec_l15Open.l1 k i x (j : Int) a b c e) (fun r => r.1.length ≤ 20 ∧ r.2.1 = e) := by
  intro d
  induction d with
  | zero =>
    intro j x hd hj hx
    refine Tot.step (fun k => rfl) ?_
    simp only [spec_l15Open.l1, if_neg (show ¬ (j : Int) < (a.length : Int) by omega)]
    by_cases h3 : (x.length : Int) > 3
    · simp only [if_pos h3, Option.bind_some, if_pos (show 1 ≤ (x.length : Int) by omega), List.length_nil, List.nil_append, if_pos (show 0 + (x.drop 1).length < 4398046511104 by rw [List.length_drop]; omega)]
      refine Tot.bind (tDec i h0 (by omega)) fun t ht => ?_
      simp only [if_pos (show 5 + t.size ≤ 9223372036854775807 by omega)]
      exact Tot.ret _ ⟨by show (x.drop 1).length ≤ 20; rw [List.length_drop]; omega, rfl⟩
    · simp only [if_neg h3]
      refine Tot.bind (tDec i h0 (by omega)) fun t ht => ?_
      simp only [if_pos (show 5 + t.size ≤ 9223372036854775807 by omega)]
      exact Tot.ret _ ⟨by show x.length ≤ 20; omega, rfl⟩
  | succ d ih =>
    intro j x hd hj hx
    refine Tot.step (fun k => rfl) ?_
    simp only [spec_l15Open.l1, if_pos (show (j : Int) < (a.length : Int) by omega), if_pos (show (0 : Int) ≤ (j : Int) by omega), w64 (x := (j : Int) + 1) (by omega) (by omega)]
    by_cases h : (rd_T83 a (j : Int)).f0 > i
    · simp only [if_pos h, if_pos (show x.length < 4398046511104 by omega)]
      exact ih (j + 1) _ (by omega) (by omega) (by rw [List.length_append, List.length_singleton]; omega)
    · simp only [if_neg h]
      exact ih (j + 1) _ (by omega) (by omega) (by omega)
theorem open_l0 (i : Int) (h0 : 0 ≤ i) (h1 : i ≤ 1000000) (a : List S83) (b : List S81) (c : List S83) (e : List S81) (ha : a.length ≤ 3) : ∀ (d j : Nat) (x : List S83), a.length - j = d → j ≤ a.length → x.length ≤ j → Tot (fun k => spec_l15Open.l0 k i x (j : Int) a b c e) (fun r => r.1.length ≤ 20 ∧ r.2.1 = e) := by
  intro d
  induction d with
  | zero =>
    intro j x hd hj hx
    refine Tot.step (fun k => rfl) ?_
    simp only [spec_l15Open.l0, if_neg (show ¬ (j : Int) < (a.length : Int) by omega), if_pos (show x.length < 4398046511104 by omega)]
    exact open_l1 i h0 h1 a b c e ha a.length 0 _ (by omega) (by omega) (by rw [List.length_append, List.length_singleton]; omega)
  | succ d ih =>
    intro j x hd hj hx
    refine Tot.step (fun k => rfl) ?_
    simp only [spec_l15Open.l0, if_pos (show (j : Int) < (a.length : Int) by omega), if_pos (show (0 : Int) ≤ (j : Int) by omega), w64 (x := (j : Int) + 1) (by omega) (by omega)]
    by_cases h : (rd_T83 a (j : Int)).f0 < i
    · simp only [if_pos h, if_pos (show x.length < 4398046511104 by omega)]
      exact ih (j + 1) _ (by omega) (by omega) (by rw [List.length_append, List.length_singleton]; omega)
    · simp only [if_neg h]
      exact ih (j + 1) _ (by omega) (by omega) (by omega)
theorem tOpen (i : Int) (h0 : 0 ≤ i) (h1 : i ≤ 1000000) (a : List S83) (b : List S81) (ha : a.length ≤ 3) (hb : b.length ≤ 20) : Tot (fun k => spec_l15Open.f k a b i) (fun r => r.1.length ≤ 20 ∧ r.2.1.length ≤ 20) := by
  unfold spec_l15Open.f
  refine Tot.bind (tCopy a b (by omega) (by omega)) fun r hr => ?_
  subst hr
  refine Tot.mono (open_l0 i h0 h1 a b a b ha a.length 0 [] (by omega) (by omega) (by simp)) fun q hq => ?_
  exact ⟨hq.1, by rw [hq.2]; exact hb⟩
theorem put_l1 (a : List S83) (b : List S81) (p q : ByteArray) (v : Int) (hb : b.length ≤ 8) : ∀ (d j : Nat) (x : List S81), b.length - j = d → j ≤ b.length → x.length ≤ j + 10 → Tot (fun k => spec_l15Put.l1 k x (j : Int) a b p q v) (fun r => r.2.length ≤ 8) := by
  intro d
  induction d with
  | zero =>
    intro j x hd hj hx
    refine Tot.step (fun k => rfl) ?_
    simp only [spec_l15Put.l1, if_neg (show ¬ (j : Int) < (b.length : Int) by omega)]
    by_cases h3 : (x.length : Int) > 8
    · simp only [if_pos h3]
      exact Tot.ret _ hb
    · simp only [if_neg h3]
      exact Tot.ret _ (by show x.length ≤ 8; omega)
  | succ d ih =>
    intro j x hd hj hx
    refine Tot.step (fun k => rfl) ?_
    simp only [spec_l15Put.l1, if_pos (show (j : Int) < (b.length : Int) by omega), if_pos (show (0 : Int) ≤ (j : Int) by omega), w64 (x := (j : Int) + 1) (by omega) (by omega)]
    by_cases h : (Op.bytesLess p.toList (rd_T81 b (j : Int)).f0.toList) = true
    · simp only [if_pos h, if_pos (show x.length < 3518437208883 by omega)]
      exact ih (j + 1) _ (by omega) (by omega) (by rw [List.length_append, List.length_singleton]; omega)
    · simp only [if_neg h]
      exact ih (j + 1) _ (by omega) (by omega) (by omega)
theorem put_l0 (a : List S83) (b : List S81) (p q : ByteArray) (v : Int) (hb : b.length ≤ 8) : ∀ (d j : Nat) (x : List S81), b.length - j = d → j ≤ b.length → x.length ≤ j → Tot (fun k => spec_l15Put.l0 k x (j : Int) a b p q v) (fun r => r.2.length ≤ 8) := by
  intro d
  induction d with
  | zero =>
    intro j x hd hj hx
    refine Tot.step (fun k => rfl) ?_
    simp only [spec_l15Put.l0, if_neg (show ¬ (j : Int) < (b.length : Int) by omega), if_pos (show x.length < 3518437208883 by omega)]
    exact put_l1 a b p q v hb b.length 0 _ (by omega) (by omega) (by rw [List.length_append, List.length_singleton]; omega)
  | succ d ih =>
    intro j x hd hj hx
    refine Tot.step (fun k => rfl) ?_
    simp only [spec_l15Put.l0, if_pos (show (j : Int) < (b.length : Int) by omega), if_pos (show (0 : Int) ≤ (j : Int) by omega), w64 (x := (j : Int) + 1) (by omega) (by omega)]
    by_cases h : (Op.bytesLess (rd_T81 b (j : Int)).f0.toList p.toList) = true
    · simp only [if_pos h, if_pos (show x.length < 3518437208883 by omega)]
      exact ih (j + 1) _ (by omega) (by omega) (by rw [List.length_append, List.length_singleton]; omega)
    · simp only [if_neg h]
      exact ih (j + 1) _ (by omega) (by omega) (by omega)
theorem item_good (a : List S83) (l : List S81) (s : ByteArray) (hl : l.length ≤ 1048576) (hg : ∀ j (hj : j < l.length), l[j].f0.size ≤ 8 ∧ l[j].f1.size ≤ 20 ∧ (1 ≤ l[j].f2 ∧ l[j].f2 ≤ 1000000000)) : ∀ (d j : Nat), l.length - j = d → j ≤ l.length → Tot (fun k => spec_ItemOf.l0 k s (j : Int) a l) (fun r => r.2.1.size ≤ 20 ∧ 0 ≤ r.2.2.1 ∧ r.2.2.1 ≤ 1000000000) := by
  intro d
  induction d with
  | zero =>
    intro j hd hj
    refine Tot.step (fun k => rfl) ?_
    simp only [spec_ItemOf.l0, if_neg (show ¬ (j : Int) < (l.length : Int) by omega)]
    exact Tot.ret _ ⟨by show 0 ≤ 20; omega, by show (0 : Int) ≤ 0; omega, by show (0 : Int) ≤ 1000000000; omega⟩
  | succ d ih =>
    intro j hd hj
    have hjl : j < l.length := by omega
    have hget : rd_T81 l (j : Int) = l[j] := by unfold rd_T81; exact getD_at _ hjl
    have hh := hg j hjl
    refine Tot.step (fun k => rfl) ?_
    simp only [spec_ItemOf.l0, if_pos (show (j : Int) < (l.length : Int) by omega), if_pos (show (0 : Int) ≤ (j : Int) by omega), w64 (x := (j : Int) + 1) (by omega) (by omega), hget]
    by_cases h : l[j].f0.toList = s.toList
    · simp only [if_pos h]
      exact Tot.ret _ ⟨hh.2.1, by show 0 ≤ l[j].f2; omega, hh.2.2.2⟩
    · simp only [if_neg h]
      exact ih (j + 1) (by omega) (by omega)
theorem drop_l0 (a : List S83) (b : List S81) (o t s : Int) (p q : ByteArray) (v : Int) (hb : b.length ≤ 8) : ∀ (d j : Nat) (x : List S81), b.length - j = d → j ≤ b.length → x.length ≤ j → Tot (fun k => spec_l15Do.l0 k x (j : Int) a b o t s p q v) (fun r => r.2.length ≤ 8) := by
  intro d
  induction d with
  | zero =>
    intro j x hd hj hx
    refine Tot.step (fun k => rfl) ?_
    simp only [spec_l15Do.l0, if_neg (show ¬ (j : Int) < (b.length : Int) by omega)]
    exact Tot.ret _ (by show x.length ≤ 8; omega)
  | succ d ih =>
    intro j x hd hj hx
    refine Tot.step (fun k => rfl) ?_
    simp only [spec_l15Do.l0, if_pos (show (j : Int) < (b.length : Int) by omega), if_pos (show (0 : Int) ≤ (j : Int) by omega), w64 (x := (j : Int) + 1) (by omega) (by omega)]
    by_cases h : (rd_T81 b (j : Int)).f0.toList = p.toList
    · simp only [if_pos h]
      exact ih (j + 1) _ (by omega) (by omega) (by omega)
    · simp only [if_neg h, if_pos (show x.length < 3518437208883 by omega)]
      exact ih (j + 1) _ (by omega) (by omega) (by rw [List.length_append, List.length_singleton]; omega)
theorem tDo1 (i : Int) (h0 : 0 ≤ i) (h1 : i ≤ 1000000) (a : List S83) (b : List S81) (o t s : Int) (p q : ByteArray) (v : Int) (hb : b.length ≤ 8) : Tot (fun k => spec_l15Do.j1 k i a b o t s p q v) (fun r => r.2.length ≤ 8) := by
  refine Tot.step (fun k => rfl) ?_
  simp only [spec_l15Do.j1]
  refine Tot.bind (show Tot (fun k => spec_l15Put.f k a b p q i) _ from put_l0 a b p q i hb b.length 0 [] (by omega) (by omega) (by simp)) fun r hr => ?_
  by_cases h : r.1 = true
  · simp only [if_pos h]
    refine Tot.bind (tDec i h0 (by omega)) fun u hu => ?_
    simp only [if_pos (show 4 + u.size ≤ 9223372036854775807 by omega)]
    exact Tot.ret _ hr
  · simp only [if_neg h]
    exact Tot.ret _ hr
theorem tDo (i : Int) (h0 : 0 ≤ i) (h1 : i ≤ 1000000) (a : List S83) (b : List S81) (o t s : Int) (p q : ByteArray) (v : Int) (hb : b.length ≤ 8) (hg : ∀ j (hj : j < b.length), b[j].f0.size ≤ 8 ∧ b[j].f1.size ≤ 20 ∧ (1 ≤ b[j].f2 ∧ b[j].f2 ≤ 1000000000)) : Tot (fun k => spec_l15Do.f k a b i o t s p q v) (fun r => r.2.length ≤ 8) := by
  unfold spec_l15Do.f
  refine Tot.bind (show Tot (fun k => spec_ItemOf.f k a b p) _ from item_good a b p (by omega) hg b.length 0 (by omega) (by omega)) fun r hr => ?_
  obtain ⟨hr1, hr2, hr3⟩ := hr
  by_cases o3 : o = 3
  · simp only [if_pos o3]
    by_cases hh : r.2.2.2 = true
    · simp only [if_pos hh]
      refine Tot.bind (tDec r.2.2.1 hr2 hr3) fun u hu => ?_
      have s1 : (⟨#[105, 115, 32]⟩ : ByteArray).size = 3 := rfl
      have s2 : (⟨#[32]⟩ : ByteArray).size = 1 := rfl
      simp only [if_pos (show 3 + u.size ≤ 9223372036854775807 by omega), if_pos (show ((⟨#[105, 115, 32]⟩ : ByteArray) ++ u).size + 1 ≤ 9223372036854775807 by rw [ByteArray.size_append]; omega), if_pos (show (((⟨#[105, 115, 32]⟩ : ByteArray) ++ u) ++ (⟨#[32]⟩ : ByteArray)).size + r.2.1.size ≤ 9223372036854775807 by rw [ByteArray.size_append, ByteArray.size_append]; omega)]
      exact Tot.ret _ hb
    · simp only [if_neg hh]
      exact Tot.ret _ hb
  · simp only [if_neg o3]
    by_cases o4 : o = 4
    · simp only [if_pos o4]
      by_cases hh : r.2.2.2 = true
      · simp only [if_pos hh]
        exact drop_l0 a b o t s p q v hb b.length 0 [] (by omega) (by omega) (by simp)
      · simp only [if_neg hh]
        exact Tot.ret _ hb
    · simp only [if_neg o4]
      by_cases o5 : o = 5
      · simp only [if_pos o5]
        by_cases hh : r.2.2.2 = true
        · simp only [if_pos hh]
          by_cases hv : r.2.2.1 = v
          · simp only [if_pos hv]
            exact tDo1 i h0 h1 a b o t s p q v hb
          · simp only [if_neg hv]
            refine Tot.bind (tDec r.2.2.1 hr2 hr3) fun u hu => ?_
            simp only [if_pos (show 4 + u.size ≤ 9223372036854775807 by omega)]
            exact Tot.ret _ hb
        · simp only [if_neg hh]
          exact Tot.ret _ hb
      · simp only [if_neg o5]
        exact tDo1 i h0 h1 a b o t s p q v hb
theorem tPerf2 (i : Int) (h0 : 0 ≤ i) (h1 : i ≤ 1000000) (m : Nat) (w : Bool) (a : List S83) (b : List S81) (o t s : Int) (p q : ByteArray) (v y1 y2 : Int) (y3 : ByteArray) (hk : keepB a b = true) (hm : m < a.length) : Tot (fun k => spec_Perform.j2 k i (m : Int) w a b o t s p q v y1 y2 y3) (fun r => r.1.length ≤ 20 ∧ r.2.1.length ≤ 20) := by
  obtain ⟨⟨ha, hb⟩, _, hg⟩ := keepB_iff hk
  refine Tot.step (fun k => rfl) ?_
  simp only [spec_Perform.j2]
  by_cases hw : w = true
  · simp only [if_pos hw]
    refine Tot.bind (tCopy a b (by omega) (by omega)) fun r hr => ?_
    subst hr
    exact Tot.ret _ ⟨by show a.length ≤ 20; omega, by show b.length ≤ 20; omega⟩
  · simp only [if_neg hw]
    by_cases c1 : s = y2
    · simp only [if_pos c1]
      refine Tot.bind (tCopy a b (by omega) (by omega)) fun r hr => ?_
      subst hr
      exact Tot.ret _ ⟨by show a.length ≤ 20; omega, by show b.length ≤ 20; omega⟩
    · simp only [if_neg c1]
      by_cases c2 : s > wrap64 (y2 + 1)
      · simp only [if_pos c2]
        refine Tot.bind (tCopy a b (by omega) (by omega)) fun r hr => ?_
        subst hr
        exact Tot.ret _ ⟨by show a.length ≤ 20; omega, by show b.length ≤ 20; omega⟩
      · simp only [if_neg c2]
        refine Tot.bind (tCopy a b (by omega) (by omega)) fun r hr => ?_
        subst hr
        refine Tot.bind (tDo i h0 h1 a b o t s p q v hb hg) fun u hu => ?_
        simp only [if_pos (show (0 : Int) ≤ (m : Int) by omega), if_pos (show (m : Int) < (a.length : Int) by omega), Option.bind_some]
        exact Tot.ret _ ⟨by show (List.set _ _ _).length ≤ 20; rw [List.length_set, List.length_set]; omega, by show u.2.length ≤ 20; omega⟩
theorem perf_l0 (i : Int) (h0 : 0 ≤ i) (h1 : i ≤ 1000000) (a : List S83) (b : List S81) (o t s : Int) (p q : ByteArray) (v : Int) (hk : keepB a b = true) : ∀ (d j : Nat) (x : Int), a.length - j = d → j ≤ a.length → (x = -1 ∨ (0 ≤ x ∧ x < (a.length : Int))) → Tot (fun k => spec_Perform.l0 k i x (j : Int) a b o t s p q v) (fun r => r.1.length ≤ 20 ∧ r.2.1.length ≤ 20) := by
  obtain ⟨⟨ha, hb⟩, _, hg⟩ := keepB_iff hk
  intro d
  induction d with
  | zero =>
    intro j x hd hj hx
    refine Tot.step (fun k => rfl) ?_
    simp only [spec_Perform.l0, if_neg (show ¬ (j : Int) < (a.length : Int) by omega)]
    by_cases hx0 : x < 0
    · simp only [if_pos hx0]
      refine Tot.bind (tCopy a b (by omega) (by omega)) fun r hr => ?_
      subst hr
      exact Tot.ret _ ⟨by show a.length ≤ 20; omega, by show b.length ≤ 20; omega⟩
    · obtain ⟨m, rfl⟩ : ∃ m : Nat, x = (m : Int) := ⟨x.toNat, by omega⟩
      simp only [if_neg hx0, if_pos (show (0 : Int) ≤ (m : Int) by omega), if_pos (show (m : Int) < (a.length : Int) by omega)]
      by_cases hs : s = 0
      · simp only [if_pos hs]
        exact tPerf2 i h0 h1 m true a b o t s p q v _ _ _ hk (by omega)
      · simp only [if_neg hs]
        exact tPerf2 i h0 h1 m _ a b o t s p q v _ _ _ hk (by omega)
  | succ d ih =>
    intro j x hd hj hx
    refine Tot.step (fun k => rfl) ?_
    simp only [spec_Perform.l0, if_pos (show (j : Int) < (a.length : Int) by omega), if_pos (show (0 : Int) ≤ (j : Int) by omega), w64 (x := (j : Int) + 1) (by omega) (by omega)]
    by_cases h : (rd_T83 a (j : Int)).f0 = t
    · simp only [if_pos h]
      exact ih (j + 1) _ (by omega) (by omega) (.inr ⟨by omega, by omega⟩)
    · simp only [if_neg h]
      exact ih (j + 1) _ (by omega) (by omega) hx
theorem perf_no (i : Int) (a : List S83) (b : List S81) (o t s : Int) (p q : ByteArray) (v : Int) : Tot (fun k => spec_Perform.j0 k i true a b o t s p q v) (fun r => r.1.length ≤ 20 ∧ r.2.1.length ≤ 20) := by
  refine Tot.step (fun k => rfl) ?_
  simp only [spec_Perform.j0, if_true]
  exact Tot.ret _ ⟨by simp, by simp⟩
theorem tPerf (i : Int) (a : List S83) (b : List S81) (o t s : Int) (p q : ByteArray) (v : Int) (ha : a.length ≤ 1000) (hb : b.length ≤ 1000) : Tot (fun k => spec_Perform.f k a b i o t s p q v) (fun r => r.1.length ≤ 20 ∧ r.2.1.length ≤ 20) := by
  unfold spec_Perform.f
  refine Tot.bind (P := fun r => r = keepB a b) ⟨_, spec_KeepOk_ok a b (by omega) (by omega), rfl⟩ fun r hr => ?_
  subst hr
  by_cases hk : keepB a b = true
  · simp only [if_pos hk, in_eq, Option.bind_some]
    by_cases hi : rng i 1 1000000 = true
    · simp only [if_pos hi]
      have hi' := rng_iff.1 hi
      by_cases h4 : i > 400000
      · simp only [if_pos h4]
        exact perf_no i a b o t s p q v
      · simp only [if_neg h4]
        obtain ⟨c, hc, _⟩ := spec_cmd_ev o t s p q v
        refine Tot.bind (P := fun _ => True) ⟨c, hc, trivial⟩ fun u _ => ?_
        cases u with
        | false => exact perf_no i a b o t s p q v
        | true =>
          obtain ⟨⟨la, lb⟩, _⟩ := keepB_iff hk
          refine Tot.step (fun k => rfl) ?_
          simp only [spec_Perform.j0, Bool.not_true, Bool.false_eq_true, if_false]
          by_cases ho : o = 1
          · simp only [if_pos ho]
            refine Tot.bind (tOpen i (by omega) (by omega) a b la (by omega)) fun w hw => ?_
            exact Tot.ret _ hw
          · simp only [if_neg ho]
            exact perf_l0 i (by omega) (by omega) a b o t s p q v hk a.length 0 (-1) (by omega) (by omega) (.inl rfl)
    · simp only [if_neg hi]
      exact perf_no i a b o t s p q v
  · simp only [if_neg hk]
    exact perf_no i a b o t s p q v
theorem tCmdA {b : List Int} {i : Int} (h : Int) (hb : b.length ≤ 1048576) (hi : Cur b i) (x : List S83) (y : List S81) (hx : x.length ≤ 1048576) (hy : y.length ≤ 1048576) : Tot (fun k => spec_l15Command.f k b i h x y) (fun r => Cur b r.2.2.2.2.2.2.1) := by
  rcases Nat.eq_zero_or_pos x.length with h0 | h0
  · unfold spec_l15Command.f
    simp only [if_pos (show (x.length : Int) = 0 by omega)]
    refine Tot.step (fun k => rfl) ?_
    simp only [spec_l15Command.j0, if_true]
    exact Tot.ret _ hi
  · exact tCmd h hb hi x y ⟨h0, hx⟩ hy
theorem keep_l0 {b : List Int} (hb : b.length ≤ 1048576) (n : Int) (hn : n ≤ 20) : ∀ (d : Nat) (x i h : Int) (a : List S83) (c : List S81), n - x ≤ d → 0 ≤ x → x ≤ 20 → a.length ≤ 20 → c.length ≤ 20 → Cur b i → Tot (fun k => spec_l15Keep.l0 k n x b i h a c) (fun r => (r.1.length ≤ 20 ∧ r.2.1.length ≤ 20) ∧ Cur b r.2.2.1) := by
  intro d
  induction d with
  | zero =>
    intro x i h a c hd h0 h2 ha hc hi
    refine Tot.step (fun k => rfl) ?_
    simp only [spec_l15Keep.l0]
    refine Tot.bind (tBelow h n hb hi) fun r hr => ?_
    have h3 : r.1 ≤ x := by
      by_cases hn0 : 0 < n
      · have := hr.1.2.1 hn0; omega
      · have := hr.1.2.2 (by omega); omega
    simp only [if_neg (show ¬ x < r.1 by omega)]
    exact Tot.ret _ ⟨⟨ha, hc⟩, hr.2⟩
  | succ d ih =>
    intro x i h a c hd h0 h2 ha hc hi
    refine Tot.step (fun k => rfl) ?_
    simp only [spec_l15Keep.l0]
    refine Tot.bind (tBelow h n hb hi) fun r hr => ?_
    by_cases hx : x < r.1
    · have h3 : x < n := by
        by_cases hn0 : 0 < n
        · have := hr.1.2.1 hn0; omega
        · have := hr.1.2.2 (by omega); omega
      simp only [if_pos hx]
      refine Tot.bind (tCmdA _ hb hr.2 a c (by omega) (by omega)) fun u hu => ?_
      refine Tot.bind (tPerf _ a c u.1 u.2.1 u.2.2.1 u.2.2.2.1 u.2.2.2.2.1 u.2.2.2.2.2.1 (by omega) (by omega)) fun w hw => ?_
      by_cases hw1 : w.2.2.2 = true
      · simp only [if_pos hw1, w64 (x := x + 1) (by omega) (by omega)]
        exact ih (x + 1) _ _ _ _ (by omega) (by omega) (by omega) hw.1 hw.2 hu
      · simp only [if_neg hw1, w64 (x := x + 1) (by omega) (by omega)]
        exact ih (x + 1) _ _ _ _ (by omega) (by omega) (by omega) ha hc hu
    · simp only [if_neg hx]
      exact Tot.ret _ ⟨⟨ha, hc⟩, hr.2⟩
theorem tKeep {b : List Int} {i : Int} (h n : Int) (hn : n ≤ 20) (hb : b.length ≤ 1048576) (hi : Cur b i) : Tot (fun k => spec_l15Keep.f k b i h n) (fun r => (r.1.length ≤ 20 ∧ r.2.1.length ≤ 20) ∧ Cur b r.2.2.1) := by
  unfold spec_l15Keep.f spec_KeepNew.f
  simp only [Option.bind_some]
  refine Tot.bind (tPerf 1 _ _ 1 0 0 _ _ 0 (by simp) (by simp)) fun r hr => ?_
  exact keep_l0 hb n hn 20 0 i h r.1 r.2.1 (by omega) (by omega) (by omega) hr.1 hr.2 hi
theorem any_l0 {b : List Int} (hb : b.length ≤ 1048576) (a : List S83) : ∀ (d : Nat) (i h : Int) (c : List S81), 10 - c.length ≤ d → c.length ≤ 40 → Cur b i → Tot (fun k => spec_l15Any.l0 k b i h a c) (fun r => (r.1 = a ∧ r.2.1.length ≤ 40) ∧ Cur b r.2.2.1) := by
  intro d
  induction d with
  | zero =>
    intro i h c hd hc hi
    refine Tot.step (fun k => rfl) ?_
    simp only [spec_l15Any.l0]
    refine Tot.bind (tBelow h 2 hb hi) fun r hr => ?_
    have h1 := hr.1.2.1 (by omega)
    have h0 := hr.1.1
    simp only [w64 (x := 8 + r.1) (by omega) (by omega), if_neg (show ¬ (c.length : Int) < 8 + r.1 by omega)]
    exact Tot.ret _ ⟨⟨rfl, hc⟩, hr.2⟩
  | succ d ih =>
    intro i h c hd hc hi
    refine Tot.step (fun k => rfl) ?_
    simp only [spec_l15Any.l0]
    refine Tot.bind (tBelow h 2 hb hi) fun r hr => ?_
    have h1 := hr.1.2.1 (by omega)
    have h0 := hr.1.1
    simp only [w64 (x := 8 + r.1) (by omega) (by omega)]
    by_cases hx : (c.length : Int) < 8 + r.1
    · simp only [if_pos hx]
      refine Tot.bind (tDec (c.length : Int) (by omega) (by omega)) fun t ht => ?_
      simp only [if_pos (show 1 + t.size ≤ 9223372036854775807 by omega), if_pos (show c.length < 3518437208883 by omega)]
      exact ih _ _ _ (by rw [List.length_append, List.length_singleton]; omega) (by rw [List.length_append, List.length_singleton]; omega) hr.2
    · simp only [if_neg hx]
      exact Tot.ret _ ⟨⟨rfl, hc⟩, hr.2⟩
theorem tAny15 {b : List Int} {i : Int} (h : Int) (hb : b.length ≤ 1048576) (hi : Cur b i) : Tot (fun k => spec_l15Any.f k b i h) (fun r => (r.1.length ≤ 40 ∧ r.2.1.length ≤ 40) ∧ Cur b r.2.2.1) := by
  unfold spec_l15Any.f
  refine Tot.bind (tKeep h 14 (by omega) hb hi) fun u hu => ?_
  obtain ⟨⟨hu1, hu2⟩, hu3⟩ := hu
  refine Tot.bind (tCopy u.1 u.2.1 (by omega) (by omega)) fun r hr => ?_
  subst hr
  refine Tot.bind (tBelow _ 16 hb hu3) fun q hq => ?_
  by_cases h0 : q.1 = 0
  · simp only [if_pos h0]
    refine Tot.bind (tPickT _ _ hb hq.2 (by simp)) fun w hw => ?_
    simp only [if_pos (show u.2.1.length < 3518437208883 by omega)]
    exact Tot.ret _ ⟨⟨by show u.1.length ≤ 40; omega, by show (List.append _ _).length ≤ 40; rw [List.append_eq, List.length_append, List.length_singleton]; omega⟩, hw.2⟩
  · simp only [if_neg h0]
    by_cases h1 : q.1 = 1
    · simp only [if_pos h1]
      refine Tot.bind (tBelow _ 40 hb hq.2) fun w hw => ?_
      refine Tot.bind (tBelow _ 2 hb hw.2) fun z hz => ?_
      simp only [if_pos (show u.1.length < 4398046511104 by omega)]
      exact Tot.ret _ ⟨⟨by show (List.append _ _).length ≤ 40; rw [List.append_eq, List.length_append, List.length_singleton]; omega, by show u.2.1.length ≤ 40; omega⟩, hz.2⟩
    · simp only [if_neg h1]
      by_cases h2 : q.1 = 2
      · simp only [if_pos h2]
        by_cases hl : (u.2.1.length : Int) > 0
        · simp only [if_pos hl]
          refine Tot.bind (tPick _ _ hb hq.2 (by simp)) fun w hw => ?_
          try simp only [if_pos (show 0 < (u.2.1.length : Int) by omega)]
          exact Tot.ret _ ⟨⟨by show u.1.length ≤ 40; omega, by show (List.set _ _ _).length ≤ 40; rw [List.length_set]; omega⟩, hw.2⟩
        · simp only [if_neg hl]
          exact Tot.ret _ ⟨⟨by show u.1.length ≤ 40; omega, by show u.2.1.length ≤ 40; omega⟩, hq.2⟩
      · simp only [if_neg h2]
        by_cases h3 : q.1 = 3
        · simp only [if_pos h3]
          by_cases hl : (u.2.1.length : Int) > 0
          · simp only [if_pos hl]
            refine Tot.bind (tBelow _ 2 hb hq.2) fun w hw => ?_
            have w1 := hw.1.2.1 (by omega)
            have w0 := hw.1.1
            rw [w64 (x := 20 + w.1) (by omega) (by omega)]
            refine Tot.bind (tLong (20 + w.1) 65 (by omega) (by omega)) fun z _ => ?_
            try simp only [if_pos (show 0 < (u.2.1.length : Int) by omega)]
            exact Tot.ret _ ⟨⟨by show u.1.length ≤ 40; omega, by show (List.set _ _ _).length ≤ 40; rw [List.length_set]; omega⟩, hw.2⟩
          · simp only [if_neg hl]
            exact Tot.ret _ ⟨⟨by show u.1.length ≤ 40; omega, by show u.2.1.length ≤ 40; omega⟩, hq.2⟩
        · simp only [if_neg h3]
          by_cases h4 : q.1 = 4
          · simp only [if_pos h4]
            refine Tot.mono (any_l0 hb u.1 10 _ _ u.2.1 (by omega) (by omega) hq.2) fun w hw => ?_
            exact ⟨⟨by rw [hw.1.1]; omega, hw.1.2⟩, hw.2⟩
          · simp only [if_neg h4]
            exact Tot.ret _ ⟨⟨by show u.1.length ≤ 40; omega, by show u.2.1.length ≤ 40; omega⟩, hq.2⟩

/-! ### FnSameKeeps -/
theorem tSame {b : List Int} (hb : b.length ≤ 1048576) : Tot (fun k => spec_DrawSameKeep.f k b) (fun r => (r.1.length ≤ 40 ∧ r.2.1.length ≤ 40) ∧ (r.2.2.1.length ≤ 40 ∧ r.2.2.2.length ≤ 40)) := by
  obtain ⟨h, hn⟩ := new_ok b
  unfold spec_DrawSameKeep.f
  refine Tot.bind (P := fun r => r = (b, 0, h)) ⟨_, hn, rfl⟩ fun r hr => ?_
  subst hr
  refine Tot.bind (tAny15 h hb (cur_zero b)) fun u hu => ?_
  obtain ⟨⟨hu1, hu2⟩, hu3⟩ := hu
  refine Tot.bind (tCopy u.1 u.2.1 (by omega) (by omega)) fun r hr => ?_
  subst hr
  refine Tot.bind (tBelow _ 4 hb hu3) fun q hq => ?_
  by_cases h0 : q.1 = 0
  · simp only [if_pos h0]
    refine Tot.bind (tAny15 _ hb hq.2) fun w hw => ?_
    exact Tot.ret _ ⟨⟨hu1, hu2⟩, hw.1⟩
  · simp only [if_neg h0]
    by_cases h1 : q.1 = 1
    · simp only [if_pos h1]
      by_cases hl : (u.2.1.length : Int) > 0
      · simp only [if_pos hl, if_pos (show 0 < (u.2.1.length : Int) by omega)]
        exact Tot.ret _ ⟨⟨hu1, hu2⟩, hu1, by show (List.set _ _ _).length ≤ 40; rw [List.length_set]; exact hu2⟩
      · simp only [if_neg hl]
        exact Tot.ret _ ⟨⟨hu1, hu2⟩, hu1, hu2⟩
    · simp only [if_neg h1]
      by_cases h2 : q.1 = 2
      · simp only [if_pos h2]
        by_cases hl : (u.1.length : Int) > 0
        · simp only [if_pos hl, if_pos (show 0 < (u.1.length : Int) by omega)]
          exact Tot.ret _ ⟨⟨hu1, hu2⟩, by show (List.set _ _ _).length ≤ 40; rw [List.length_set]; exact hu1, hu2⟩
        · simp only [if_neg hl]
          exact Tot.ret _ ⟨⟨hu1, hu2⟩, hu1, hu2⟩
      · simp only [if_neg h2]
        exact Tot.ret _ ⟨⟨hu1, hu2⟩, hu1, hu2⟩
theorem FnSameKeeps : StFnSameKeeps.Pure := by
  intro b
  intros
  by_cases hbig : (b.length : Int) > 1048576
  · exact ⟨0, by unfold laws_FnSameKeeps.f; rw [big_eq]; simp [hbig]⟩
  · have hbl : b.length ≤ 1048576 := by omega
    obtain ⟨⟨a, c, e, d⟩, he, ⟨h1, h2⟩, h3, h4⟩ := tSame hbl
    simp only at h1 h2 h3 h4
    refine Ev.ex ?_ (r := true)
    unfold laws_FnSameKeeps.f
    rw [big_eq]
    simp only [Option.bind_some, hbig, decide_false, Bool.false_eq_true, if_false]
    refine Ev.bind he ?_
    refine Ev.bind (spec_KeepText_ok a c (by omega) (by omega)) ?_
    refine Ev.bind (spec_KeepText_ok e d (by omega) (by omega)) ?_
    refine Ev.bind (impl_ok a c e d (by omega) (by omega) (by omega) (by omega)) ?_
    refine Ev.bind (spec_ok a c e d (by omega) (by omega) (by omega) (by omega)) ?_
    simp only [bne_self_eq_false, Bool.false_eq_true, if_false]
    refine Ev.bind (impl_ok a c a c (by omega) (by omega) (by omega) (by omega)) ?_
    simp only [same_refl, if_true]
    refine Ev.bind (impl_ok e d a c (by omega) (by omega) (by omega) (by omega)) ?_
    rw [same_symm e d a c]
    simp only [bne_self_eq_false, Bool.false_eq_true, if_false]
    by_cases k1 : keepB a c = true
    · by_cases k2 : keepB e d = true
      · simp only [if_pos k1, if_pos k2, if_true]
        rw [same_text a c e d k1 k2]
        exact Ev.now _
      · simp only [if_pos k1, if_neg k2, if_true, Bool.false_eq_true, if_false]
        exact Ev.now _
    · simp only [if_neg k1, Bool.false_eq_true, if_false]
      exact Ev.now _

end Go.Proofs.Ytgffdijodnpolaa.Pure
