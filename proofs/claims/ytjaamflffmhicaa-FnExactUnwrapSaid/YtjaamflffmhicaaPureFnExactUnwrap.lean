/- The pure statement of the law 'FnExactUnwrap', proved: over numbers, lists and texts alone. No condition. -/
import Derived.Test.YtjaamflffmhicaaStFnExactUnwrap
import Derived.Laws.BitsLemmas
namespace Go.Proofs.Ytjaamflffmhicaa.Pure
open Go.RowKit Go.Proofs.Ytjaamflffmhicaa.QFnExactUnwrap Go.Proofs.YtjaamflffmhicaaW.PrintWords Go.Proofs.YtjaamflffmhicaaW.PrintLast Go.Proofs.YtjaamflffmhicaaW.PrintMore Go.Proofs.Ytjaamflffmhicaa.StFnExactUnwrap Go.Proofs.Ytjaamflffmhicaa.Opens
set_option linter.unusedVariables false
set_option linter.unusedSimpArgs false

/-! ### base -/
theorem w64 {x : Int} (h0 : -9223372036854775808 ≤ x) (h1 : x ≤ 9223372036854775807) : wrap64 x = x := by unfold wrap64; omega
theorem ip {α : Type} {c : Prop} [Decidable c] {a b : α} (h : c) : (if c then a else b) = a := if_pos h
theorem bP_ {α : Type} {c : Prop} [Decidable c] {a b : α} (h : ¬ c) : (if c then a else b) = b := if_neg h
theorem bT_ (x : Int) (i : Nat) (hi : i ≤ 62) : Go.bits .and .i64 x (2 ^ i - 1) = x % 2 ^ i := by
  have hpos : 0 < 2 ^ i := Nat.two_pow_pos i
  have hc : ((2 : Int) ^ i - 1) = ((2 ^ i - 1 : Nat) : Int) := by rw [Int.natCast_sub hpos]; simp
  have h62 : 2 ^ i ≤ 2 ^ 62 := Nat.pow_le_pow_right (by decide) hi
  have hlt : 2 ^ i - 1 < 2 ^ 64 := by omega
  have hd : (2 ^ i : Nat) ∣ 2 ^ 64 := Nat.pow_dvd_pow 2 (by omega)
  rw [hc]
  simp only [Go.bits, BitVec.ofInt_natCast, BitVec.toNat_and, BitVec.toNat_ofNat, BitVec.toNat_ofInt]
  simp only [show IntKind.i64.bits = 64 from rfl]
  rw [Nat.mod_eq_of_lt hlt, Nat.and_two_pow_sub_one_eq_mod]
  have h1 : (((x % ((2 ^ 64 : Nat) : Int)).toNat % 2 ^ i : Nat) : Int) = x % 2 ^ i := by
    rw [Int.natCast_emod, Int.toNat_of_nonneg (Int.emod_nonneg _ (by decide))]
    rw [Int.natCast_pow]
    exact Int.emod_emod_of_dvd _ (by
      have : (((2 ^ i : Nat) : Int)) ∣ ((2 ^ 64 : Nat) : Int) := Int.natCast_dvd_natCast.2 hd
      simpa using this)
  rw [h1]
  have h2 : 0 ≤ x % 2 ^ i := Int.emod_nonneg _ (by
    have : (0 : Int) < 2 ^ i := by exact_mod_cast hpos
    omega)
  have h3 : x % 2 ^ i < 2 ^ i := Int.emod_lt_of_pos _ (by exact_mod_cast hpos)
  have h4 : (2 : Int) ^ i ≤ 2 ^ 62 := by exact_mod_cast h62
  rw [IntKind.wrap_i64]
  omega
theorem cv_ (x : Int) : Go.bits .and .i64 x 255 = x % 256 := bT_ x 8 (by omega)
theorem dc_ (x : Int) : Go.bits .and .i64 x 1 = x % 2 := bT_ x 1 (by omega)
theorem Ev.ex {α : Type} {g : Nat → Option α} {r : α} (h : Ev g r) : ∃ k, g k = some r := h.rounds
theorem Ev.from_ {α : Type} {g : Nat → Option α} {r : α} (K : Nat) (h : ∀ k, K ≤ k → g k = some r) : Ev g r := ⟨K, h⟩
theorem bY_ {β : Type} {F : Nat → Int → Option β} {n : Nat} {r : β} (hs : ∀ k (j : Nat), j < n → F (k + 1) (j : Int) = F k ((j + 1 : Nat) : Int)) (he : ∀ k, F (k + 1) (n : Int) = some r) :
    ∀ (d j : Nat), n - j = d → j ≤ n → ∀ k, d < k → F k (j : Int) = some r := by
  intro d
  induction d with
  | zero =>
    intro j hd hj k hk
    obtain ⟨k, rfl⟩ : ∃ m, k = m + 1 := ⟨k - 1, by omega⟩
    obtain rfl : j = n := by omega
    exact he k
  | succ d ih =>
    intro j hd hj k hk
    obtain ⟨k, rfl⟩ : ∃ m, k = m + 1 := ⟨k - 1, by omega⟩
    rw [hs k j (by omega)]
    exact ih (j + 1) (by omega) (by omega) k (by omega)
theorem bs_ {α β : Type} {F : Nat → List β → Int → Option (List β)} {g : α → β} {l : List α}
    (hs : ∀ k (acc : List β) (j : Nat) (hj : j < l.length), acc.length = l.length → F (k + 1) acc (j : Int) = F k (acc.set j (g l[j])) ((j + 1 : Nat) : Int))
    (he : ∀ k (acc : List β), F (k + 1) acc (l.length : Int) = some acc) :
    ∀ (d j : Nat) (acc : List β), l.length - j = d → j ≤ l.length → acc.length = l.length → (∀ i, i < j → acc[i]? = (l[i]?).map g) → ∀ k, d < k → F k acc (j : Int) = some (l.map g) := by
  intro d
  induction d with
  | zero =>
    intro j acc hd hj hl ha k hk
    obtain ⟨k, rfl⟩ : ∃ m, k = m + 1 := ⟨k - 1, by omega⟩
    obtain rfl : j = l.length := by omega
    rw [he]
    congr 1
    apply List.ext_getElem?
    intro i
    rw [List.getElem?_map]
    by_cases hi : i < l.length
    · exact ha i hi
    · rw [List.getElem?_eq_none (by omega), List.getElem?_eq_none (by omega)]; rfl
  | succ d ih =>
    intro j acc hd hj hl ha k hk
    obtain ⟨k, rfl⟩ : ∃ m, k = m + 1 := ⟨k - 1, by omega⟩
    have hjl : j < l.length := by omega
    rw [hs k acc j hjl hl]
    refine ih (j + 1) _ (by omega) (by omega) (by rw [List.length_set]; exact hl) (fun i hi => ?_) k (by omega)
    by_cases hij : i = j
    · subst hij
      rw [List.getElem?_set_self (by omega), List.getElem?_eq_getElem hjl]
      rfl
    · rw [List.getElem?_set_ne (fun h => hij h.symm)]
      exact ha i (by omega)
theorem aA_ {α : Type} {l : List α} {j : Nat} (z : α) (h : j < l.length) : l.getD (j : Int).toNat z = l[j] := by
  simp [List.getD_eq_getElem?_getD, List.getElem?_eq_getElem h]

/-! ### sz -/
theorem cF_ {α : Type} {F : Nat → Int → Int → Option Int} {g : α → Int → Option Int} {l : List α} {P : α → Prop}
    (hs : ∀ k (left : Int) (j : Nat) (hj : j < l.length), l.length ≤ 2000000 → F (k + 1) left (j : Int) = (g l[j] left).bind fun t => if t < 0 then some (-1) else F k t ((j + 1 : Nat) : Int))
    (he : ∀ k (left : Int), F (k + 1) left (l.length : Int) = some left)
    (hg : ∀ x ∈ l, ∀ left : Int, 0 ≤ left → left ≤ 1048576 → ∃ t, g x left = some t ∧ (t < 0 ∨ (0 ≤ t ∧ t ≤ left ∧ P x))) (hl : l.length ≤ 2000000) :
    ∀ (d j : Nat) (left : Int), l.length - j = d → j ≤ l.length → 0 ≤ left → left ≤ 1048576 → ∃ t, (∀ k, d < k → F k left (j : Int) = some t) ∧ (t < 0 ∨ (0 ≤ t ∧ t ≤ left ∧ ∀ i (hi : i < l.length), j ≤ i → P l[i])) := by
  intro d
  induction d with
  | zero =>
    intro j left hd hj h0 h1
    obtain rfl : j = l.length := by omega
    refine ⟨left, fun k hk => ?_, .inr ⟨h0, Int.le_refl _, fun i hi h => absurd hi (by omega)⟩⟩
    obtain ⟨k, rfl⟩ : ∃ m, k = m + 1 := ⟨k - 1, by omega⟩
    exact he k left
  | succ d ih =>
    intro j left hd hj h0 h1
    have hjl : j < l.length := by omega
    obtain ⟨t, ht, hc⟩ := hg l[j] (List.getElem_mem _) left h0 h1
    rcases hc with hc | ⟨h2, h3, hP⟩
    · refine ⟨-1, fun k hk => ?_, .inl (by omega)⟩
      obtain ⟨k, rfl⟩ : ∃ m, k = m + 1 := ⟨k - 1, by omega⟩
      rw [hs k left j hjl hl, ht]
      simp only [Option.bind_some]
      rw [if_pos hc]
    · obtain ⟨t2, ih1, ih2⟩ := ih (j + 1) t (by omega) (by omega) h2 (by omega)
      refine ⟨t2, fun k hk => ?_, ?_⟩
      · obtain ⟨k, rfl⟩ : ∃ m, k = m + 1 := ⟨k - 1, by omega⟩
        rw [hs k left j hjl hl, ht]
        simp only [Option.bind_some]
        rw [if_neg (by omega)]
        exact ih1 k (by omega)
      · rcases ih2 with h4 | ⟨h4, h5, h6⟩
        · exact .inl h4
        · refine .inr ⟨h4, by omega, fun i hi hji => ?_⟩
          by_cases hij : i = j
          · subst hij; exact hP
          · exact h6 i hi (by omega)

/-! ### mark -/
theorem cC_ : ∀ (d : Nat) (x : Int) (s : ByteArray), 0 ≤ x → x < 10 ^ d → x ≤ 9223372036854775807 → s.size + d ≤ 1000 → ∃ t, ∀ k, d < k → laws_markText.l0 k x s = some t := by
  intro d
  induction d with
  | zero =>
    intro x s h0 h1 h2 hs
    refine ⟨(⟨#[109]⟩ : ByteArray) ++ s, fun k hk => ?_⟩
    obtain ⟨k, rfl⟩ : ∃ m, k = m + 1 := ⟨k - 1, by omega⟩
    simp only [laws_markText.l0]
    rw [if_neg (by omega), if_pos (by omega)]
  | succ d ih =>
    intro x s h0 h1 h2 hs
    by_cases hx : x > 0
    · have h10 : x / 10 < 10 ^ d := by
        have : (10 : Int) ^ (d + 1) = 10 ^ d * 10 := Int.pow_succ 10 d
        omega
      obtain ⟨t, ih⟩ := ih (x / 10) (strOfNums [(48 + x % 10) % 256] ++ s) (by omega) h10 (by omega) (by rw [ByteArray.size_append, strOfNums_size]; simp only [List.length_cons, List.length_nil]; omega)
      refine ⟨t, fun k hk => ?_⟩
      obtain ⟨k, rfl⟩ : ∃ m, k = m + 1 := ⟨k - 1, by omega⟩
      simp only [laws_markText.l0]
      rw [if_pos hx, Int.tmod_eq_emod_of_nonneg h0, Int.tdiv_eq_ediv_of_nonneg h0, w64 (x := 48 + x % 10) (by omega) (by omega)]
      simp only [Option.bind_some]
      rw [if_pos (by rw [strOfNums_size]; simp only [List.length_cons, List.length_nil]; omega)]
      rw [w64 (by omega) (by omega)]
      exact ih k (by omega)
    · refine ⟨(⟨#[109]⟩ : ByteArray) ++ s, fun k hk => ?_⟩
      obtain ⟨k, rfl⟩ : ∃ m, k = m + 1 := ⟨k - 1, by omega⟩
      simp only [laws_markText.l0]
      rw [if_neg hx, if_pos (by omega)]
theorem bo_ (n : Int) (h0 : 0 ≤ n) (h1 : n < 1000000000000000) : ∃ t, ∀ k, 20 ≤ k → laws_markText.f k n = some t := by
  by_cases hn : n ≤ 0
  · exact ⟨_, fun k _ => by unfold laws_markText.f; rw [if_pos hn]⟩
  · obtain ⟨t, ht⟩ := cC_ 15 n ⟨#[]⟩ h0 (by omega) (by omega) (by decide)
    exact ⟨t, fun k hk => by unfold laws_markText.f; rw [if_neg hn]; exact ht k (by omega)⟩
def mt (n : Int) : ByteArray := (laws_markText.f 20 n).getD ⟨#[]⟩
theorem aF_ {k : Nat} {n : Int} (hk : 20 ≤ k) (h0 : 0 ≤ n) (h1 : n < 1000000000000000) : laws_markText.f k n = some (mt n) := by
  obtain ⟨t, ht⟩ := bo_ n h0 h1
  unfold mt
  rw [ht k hk, ht 20 (by omega)]
  rfl
theorem bd_ {α : Type} {F : Nat → List α → Int → Int → Option (Int × List α)} {G : Int → α} {w : Nat}
    (hs : ∀ k (l : List α) (c : Int) (j : Nat), j < l.length → l.length ≤ 2000000 → 20 ≤ k → 0 ≤ c → c ≤ 100000000000000 → F (k + 1) l c (j : Int) = F k (l.set j (G c)) (c + w) ((j + 1 : Nat) : Int))
    (he : ∀ k (l : List α) (c : Int), F (k + 1) l c (l.length : Int) = some (c, l)) :
    ∀ (d j : Nat) (l : List α) (c : Int), l.length - j = d → j ≤ l.length → l.length ≤ 2000000 → 0 ≤ c → c + w * d ≤ 100000000000000 →
    ∃ l' : List α, l'.length = l.length ∧ (∀ i, i < j → l'[i]? = l[i]?) ∧ (∀ i, j ≤ i → i < l.length → l'[i]? = some (G (c + w * ((i - j : Nat) : Int)))) ∧ ∀ k, d + 20 < k → F k l c (j : Int) = some (c + w * d, l') := by
  intro d
  induction d with
  | zero =>
    intro j l c hd hj hl h0 h1
    obtain rfl : j = l.length := by omega
    refine ⟨l, rfl, fun _ _ => rfl, fun i h2 h3 => by omega, fun k hk => ?_⟩
    obtain ⟨k, rfl⟩ : ∃ m, k = m + 1 := ⟨k - 1, by omega⟩
    rw [he]
    simp
  | succ d ih =>
    intro j l c hd hj hl h0 h1
    have hmul : (w : Int) * ((d + 1 : Nat) : Int) = w + w * d := by rw [Int.natCast_succ, Int.mul_add, Int.mul_one, Int.add_comm]
    have hwd : 0 ≤ (w : Int) * (d : Int) := Int.mul_nonneg (by omega) (by omega)
    obtain ⟨l', hl', h2, h3, h4⟩ := ih (j + 1) (l.set j (G c)) (c + w) (by rw [List.length_set]; omega) (by rw [List.length_set]; omega) (by rw [List.length_set]; exact hl) (by omega) (by omega)
    rw [List.length_set] at hl' h3
    refine ⟨l', hl', fun i hi => ?_, fun i hi1 hi2 => ?_, fun k hk => ?_⟩
    · rw [h2 i (by omega), List.getElem?_set_ne (by omega)]
    · by_cases hij : i = j
      · subst hij
        rw [h2 i (by omega), List.getElem?_set_self (by omega)]
        simp
      · rw [h3 i (by omega) hi2]
        congr 2
        have : ((i - j : Nat) : Int) = ((i - (j + 1) : Nat) : Int) + 1 := by omega
        rw [this, Int.mul_add, Int.mul_one]
        omega
    · obtain ⟨k, rfl⟩ : ∃ m, k = m + 1 := ⟨k - 1, by omega⟩
      rw [hs k l c j (by omega) hl (by omega) h0 (by omega), h4 k (by omega), hmul]
      congr 2
      omega
theorem bi_ {α : Type} {F : Nat → List α → Int → Int → Option Int} {G : Int → α} {w : Nat} {l : List α}
    (hs : ∀ k (c : Int) (j : Nat) (hj : j < l.length), l.length ≤ 2000000 → 20 ≤ k → 0 ≤ c → c ≤ 100000000000000 → l[j] = G c → F (k + 1) l c (j : Int) = F k l (c + w) ((j + 1 : Nat) : Int))
    (he : ∀ k (c : Int), F (k + 1) l c (l.length : Int) = some c) (hl : l.length ≤ 2000000) :
    ∀ (d j : Nat) (c : Int), l.length - j = d → j ≤ l.length → 0 ≤ c → c + w * d ≤ 100000000000000 → (∀ i, j ≤ i → i < l.length → l[i]? = some (G (c + w * ((i - j : Nat) : Int)))) → ∀ k, d + 20 < k → F k l c (j : Int) = some (c + w * d) := by
  intro d
  induction d with
  | zero =>
    intro j c hd hj h0 h1 hG k hk
    obtain rfl : j = l.length := by omega
    obtain ⟨k, rfl⟩ : ∃ m, k = m + 1 := ⟨k - 1, by omega⟩
    rw [he]
    simp
  | succ d ih =>
    intro j c hd hj h0 h1 hG k hk
    obtain ⟨k, rfl⟩ : ∃ m, k = m + 1 := ⟨k - 1, by omega⟩
    have hjl : j < l.length := by omega
    have hmul : (w : Int) * ((d + 1 : Nat) : Int) = w + w * d := by rw [Int.natCast_succ, Int.mul_add, Int.mul_one, Int.add_comm]
    have hwd : 0 ≤ (w : Int) * (d : Int) := Int.mul_nonneg (by omega) (by omega)
    have hj0 : l[j] = G c := by
      have := hG j (Nat.le_refl _) hjl
      rw [List.getElem?_eq_getElem hjl] at this
      simpa using this
    rw [hs k c j hjl hl (by omega) h0 (by omega) hj0, ih (j + 1) (c + w) (by omega) (by omega) (by omega) (by omega) (fun i h2 h3 => ?_) k (by omega), hmul]
    · congr 1; omega
    · rw [hG i (by omega) h3]
      congr 2
      have : ((i - j : Nat) : Int) = ((i - (j + 1) : Nat) : Int) + 1 := by omega
      rw [this, Int.mul_add, Int.mul_one]
      omega

/-! ### m_String -/
theorem be_ {l : List ByteArray} {j : Nat} (h : j < l.length) : rdOf ByteArray.empty l (j : Int) = l[j] := by
  unfold rdOf
  rw [List.getD_eq_getElem?_getD, Int.toNat_natCast, List.getElem?_eq_getElem h]
  rfl
theorem aK_ (l : List ByteArray) (c : Int) (hl : l.length ≤ 2000000) (h0 : 0 ≤ c) (h1 : c + 1 * l.length ≤ 100000000000000) :
    ∃ l' : List ByteArray, l'.length = l.length ∧ (∀ i, i < l.length → l'[i]? = some (mt (c + 1 * (i : Int)))) ∧ ∀ k, l.length + 20 < k → laws_markStringS.f k l c = some (c + 1 * l.length, l') := by
  obtain ⟨l', hl', _, h3, h4⟩ := bd_ (F := fun k l c j => laws_markStringS.l0 k l c j) (G := mt) (w := 1) (fun k l c j hj hl hk h0 h1 => by
      simp (disch := omega) only [laws_markStringS.l0, ip, Option.bind_some, w64, aF_, List.set_set, Int.toNat_natCast]
      congr 1 <;> omega) (fun k l c => by simp only [laws_markStringS.l0]; rw [if_neg (by omega)]) l.length 0 l c (by omega) (by omega) hl h0 h1
  exact ⟨l', hl', fun i hi => by simpa using h3 i (by omega) hi, h4⟩
theorem aG_ (l : List ByteArray) (c : Int) (hl : l.length ≤ 2000000) (h0 : 0 ≤ c) (h1 : c + 1 * l.length ≤ 100000000000000) (hG : ∀ i, i < l.length → l[i]? = some (mt (c + 1 * (i : Int)))) :
    ∀ k, l.length + 20 < k → laws_heldStringS.f k l c = some (c + 1 * l.length) := by
  exact bi_ (F := fun k l c j => laws_heldStringS.l0 k l c j) (G := mt) (w := 1) (fun k c j hj hl hk h0 h1 hP => by
      have hr : rdOf ByteArray.empty l (j : Int) = mt c := by rw [be_ hj]; exact hP
      simp (disch := omega) only [laws_heldStringS.l0, hr, ip, Option.bind_some, w64, aF_, if_true, bne_self_eq_false, Bool.false_eq_true, if_false]
      congr 1 <;> omega) (fun k c => by simp only [laws_heldStringS.l0]; rw [if_neg (by omega)]) hl l.length 0 c (by omega) (by omega) h0 h1 (fun i _ hi => by simpa using hG i hi)
theorem aL_ (l : List ByteArray) (hl : l.length ≤ 2000000) (c : Int) (h0 : 0 ≤ c) (h1 : c ≤ 10000000000000) : ∃ (m : Int) (l' : List ByteArray), 0 ≤ m ∧ m ≤ c + 1 * l.length ∧ Ev (fun k => laws_markStringS.f k l c) (m, l') ∧ Ev (fun k => laws_heldStringS.f k l' c) m := by
  obtain ⟨l', hl', h2, h3⟩ := aK_ l c hl h0 (by omega)
  refine ⟨c + 1 * l.length, l', by omega, by omega, ⟨l.length + 21, fun k hk => h3 k (by omega)⟩, ⟨l.length + 21, fun k hk => ?_⟩⟩
  have := aG_ l' c (by omega) h0 (by omega) (fun i hi => h2 i (by omega)) k (by omega)
  rw [hl'] at this
  exact this
theorem bh_ (l : List ByteArray) (hl : l.length ≤ 2000000) : ∀ k, l.length < k → laws_eqStringS.f k l l = some true := by
  intro k hk
  unfold laws_eqStringS.f
  rw [if_pos rfl]
  refine bY_ (F := fun k j => laws_eqStringS.l0 k l l j) (n := l.length) ?_ ?_ l.length 0 (by omega) (by omega) k hk
  · intro k j hj
    simp (disch := omega) only [laws_eqStringS.l0, ip, w64, Option.bind_some, if_true, bne_self_eq_false, Bool.false_eq_true, if_false]
    rfl
  · intro k
    simp only [laws_eqStringS.l0]
    rw [if_neg (by omega)]

/-! ### bits -/
theorem da_ {β : Type} {F : Nat → Int → Option β} {n : Nat} {r : β} (hs : ∀ (j : Nat), j < n → Ev (fun k => F k ((j + 1 : Nat) : Int)) r → Ev (fun k => F k (j : Int)) r) (he : Ev (fun k => F k (n : Int)) r) :
    ∀ (d j : Nat), n - j = d → j ≤ n → Ev (fun k => F k (j : Int)) r := by
  intro d
  induction d with
  | zero =>
    intro j hd hj
    obtain rfl : j = n := by omega
    exact he
  | succ d ih =>
    intro j hd hj
    exact hs j (by omega) (ih (j + 1) (by omega) (by omega))
theorem cR_ {α β : Type} {F : Nat → List β → Int → Option (List β)} {g : α → β} {l : List α}
    (hs : ∀ (acc : List β) (j : Nat) (hj : j < l.length) (r : List β), acc.length = l.length → Ev (fun k => F k (acc.set j (g l[j])) ((j + 1 : Nat) : Int)) r → Ev (fun k => F k acc (j : Int)) r)
    (he : ∀ (acc : List β), Ev (fun k => F k acc (l.length : Int)) acc) :
    ∀ (d j : Nat) (acc : List β), l.length - j = d → j ≤ l.length → acc.length = l.length → (∀ i, i < j → acc[i]? = (l[i]?).map g) → Ev (fun k => F k acc (j : Int)) (l.map g) := by
  intro d
  induction d with
  | zero =>
    intro j acc hd hj hl ha
    obtain rfl : j = l.length := by omega
    have h := he acc
    have e : acc = l.map g := by
      apply List.ext_getElem?
      intro i
      rw [List.getElem?_map]
      by_cases hi : i < l.length
      · exact ha i hi
      · rw [List.getElem?_eq_none (by omega), List.getElem?_eq_none (by omega)]; rfl
    rw [← e]
    exact h
  | succ d ih =>
    intro j acc hd hj hl ha
    have hjl : j < l.length := by omega
    refine hs acc j hjl _ hl (ih (j + 1) _ (by omega) (by omega) (by rw [List.length_set]; exact hl) (fun i hi => ?_))
    by_cases hij : i = j
    · subst hij
      rw [List.getElem?_set_self (by omega), List.getElem?_eq_getElem hjl]
      rfl
    · rw [List.getElem?_set_ne (fun h => hij h.symm)]
      exact ha i (by omega)
def bOk (x : S52) : Prop := x.f2.length ≤ 1050000 ∧ x.f3.length ≤ 1050000 ∧ ∀ s ∈ x.f2, s.size ≤ 1050000
def bS (x : S52) : Prop := x.f2.length ≤ 1049000 ∧ x.f3.length ≤ 1049000 ∧ ∀ s ∈ x.f2, s.size ≤ 1050000
theorem bS.ok {x : S52} (h : bS x) : bOk x := ⟨Nat.le_trans h.1 (by omega), Nat.le_trans h.2.1 (by omega), h.2.2⟩
theorem rdB {l : List S52} {j : Nat} (h : j < l.length) : rd_T52 l (j : Int) = l[j] := by unfold rd_T52; exact aA_ _ h
def bR_ (x : S38) : S52 := ⟨x.f0, x.f1, x.f2, x.f3, x.f4, x.f5⟩
theorem rdL {l : List S38} {j : Nat} (h : j < l.length) : rd_T38 l (j : Int) = l[j] := by unfold rd_T38; exact aA_ _ h
theorem cY_ (l : List ByteArray) (hl : l.length ≤ 140737488351232) (hw : ∀ s ∈ l, s.size ≤ 140737488351232) (left : Int) (h0 : 0 ≤ left) (h1 : left ≤ 1048576) :
    ∃ t, Ev (fun k => laws_szStringS.f k l left) t ∧ (t < 0 ∨ (0 ≤ t ∧ t ≤ left ∧ l.length ≤ 1048576 ∧ ∀ s ∈ l, s.size ≤ 1048576)) := by
  have hwl : wrap64 (left - (l.length : Int)) = left - l.length := w64 (by omega) (by omega)
  by_cases hn : left - (l.length : Int) < 0
  · exact ⟨-1, Ev.from_ 0 (fun k _ => by unfold laws_szStringS.f; rw [hwl, if_pos hn]), .inl (by omega)⟩
  · obtain ⟨t, ht, hc⟩ := cF_ (F := fun k left j => laws_szStringS.l0 k l left j) (g := fun x left => some (wrap64 (left - (x.size : Int)))) (l := l) (P := fun s => s.size ≤ 1048576) (fun k left j hj _ => by
        have hr : rdOf ByteArray.empty l (j : Int) = l[j] := be_ hj
        simp only [laws_szStringS.l0, Option.bind_some]
        rw [if_pos (by omega), if_pos (by omega), hr, w64 (x := (j : Int) + 1) (by omega) (by omega)]
        rfl) (fun k left => by simp only [laws_szStringS.l0]; rw [if_neg (by omega)]) (fun x hx left h0 h1 => by
        have := hw x hx
        refine ⟨_, rfl, ?_⟩
        rw [w64 (by omega) (by omega)]
        by_cases h : left - (x.size : Int) < 0
        · exact .inl h
        · exact .inr ⟨by omega, by omega, by omega⟩) (by omega) l.length 0 (left - l.length) (by omega) (by omega) (by omega) (by omega)
    refine ⟨t, Ev.from_ (l.length + 1) (fun k hk => by unfold laws_szStringS.f; rw [hwl, if_neg hn]; exact ht k (by omega)), ?_⟩
    rcases hc with hc | ⟨h2, h3, h4⟩
    · exact .inl hc
    · refine .inr ⟨h2, by omega, by omega, fun s hs => ?_⟩
      obtain ⟨i, hi, rfl⟩ := List.mem_iff_getElem.1 hs
      exact h4 i hi (by omega)
theorem cW_ (l : List Int) (hl : l.length ≤ 140737488351232) (left : Int) (h0 : 0 ≤ left) (h1 : left ≤ 1048576) :
    ∃ t, laws_szIntS.f l left = some t ∧ (t < 0 ∨ (0 ≤ t ∧ t ≤ left ∧ l.length ≤ 1048576)) := by
  have hwl : wrap64 (left - (l.length : Int)) = left - l.length := w64 (by omega) (by omega)
  unfold laws_szIntS.f
  rw [hwl]
  by_cases hn : left - (l.length : Int) < 0
  · exact ⟨-1, if_pos hn, .inl (by omega)⟩
  · exact ⟨_, if_neg hn, .inr ⟨by omega, by omega, by omega⟩⟩
def wB (x : S38) : Prop := x.f2.length ≤ 140737488351232 ∧ x.f3.length ≤ 140737488351232 ∧ ∀ s ∈ x.f2, s.size ≤ 140737488351232
theorem cX_ (x : S38) (hw : wB x) (left : Int) (h0 : 0 ≤ left) (h1 : left ≤ 1048576) :
    ∃ t, Ev (fun k => laws_szBits.f k x.f0 x.f1 x.f2 x.f3 x.f4 x.f5 left) t ∧ (t < 0 ∨ (0 ≤ t ∧ t ≤ left ∧ bS (bR_ x))) := by
  obtain ⟨t, ht, hc⟩ := cY_ x.f2 hw.1 hw.2.2 left h0 h1
  rcases hc with hc | ⟨h2, h3, h4, h5⟩
  · refine ⟨-1, ?_, .inl (by omega)⟩
    unfold laws_szBits.f
    refine Ev.bind ht ?_
    rw [if_pos hc]
    exact Ev.now _
  · obtain ⟨q, hq, hd⟩ := cW_ x.f3 hw.2.1 t h2 (by omega)
    by_cases hn : q < 0
    · refine ⟨-1, ?_, .inl (by omega)⟩
      unfold laws_szBits.f
      refine Ev.bind ht ?_
      rw [if_neg (by omega), hq]
      simp only [Option.bind_some]
      rw [if_pos hn]
      exact Ev.now _
    · obtain ⟨h6, h7, h8⟩ := hd.resolve_left hn
      refine ⟨q, ?_, .inr ⟨h6, by omega, Nat.le_trans h4 (by omega), Nat.le_trans h8 (by omega), fun s hs => Nat.le_trans (h5 s hs) (by omega)⟩⟩
      unfold laws_szBits.f
      refine Ev.bind ht ?_
      rw [if_neg (by omega), hq]
      simp only [Option.bind_some]
      rw [if_neg hn]
      exact Ev.now _
theorem ce_ (l : List S38) (hl : l.length ≤ 2000000) (hw : ∀ x ∈ l, wB x) : ∀ (d j : Nat) (left : Int), l.length - j = d → j ≤ l.length → 0 ≤ left → left ≤ 1048576 →
    ∃ t, Ev (fun k => laws_szBitsS.l0 k l left (j : Int)) t ∧ (t < 0 ∨ ∀ (i : Nat) (hi : i < l.length), j ≤ i → bS (bR_ l[i])) := by
  intro d
  induction d with
  | zero =>
    intro j left hd hj h0 h1
    exact ⟨left, Ev.step (f := fun _ => some left) (fun k => by simp only [laws_szBitsS.l0]; rw [if_neg (by omega)]) (Ev.now _), .inr (fun i hi hji => absurd hi (by omega))⟩
  | succ d ih =>
    intro j left hd hj h0 h1
    have hjl : j < l.length := by omega
    obtain ⟨t, ht, hc⟩ := cX_ l[j] (hw _ (List.getElem_mem hjl)) left h0 h1
    have hstep : ∀ (q : Int), Ev (fun k => if t < 0 then some (-1) else laws_szBitsS.l0 k l t ((j + 1 : Nat) : Int)) q → Ev (fun k => laws_szBitsS.l0 k l left (j : Int)) q := by
      intro q hq
      refine Ev.step (fun k => rfl) ?_
      simp only [laws_szBitsS.l0, if_pos (show (j : Int) < (l.length : Int) by omega), if_pos (show (0 : Int) ≤ (j : Int) by omega), rdL hjl, w64 (x := (j : Int) + 1) (by omega) (by omega)]
      exact Ev.bind ht hq
    rcases hc with hc | ⟨h2, h3, h4⟩
    · exact ⟨-1, hstep _ (by simp only [if_pos hc]; exact Ev.now _), .inl (by omega)⟩
    · obtain ⟨q, hq, hd2⟩ := ih (j + 1) t (by omega) (by omega) h2 (by omega)
      refine ⟨q, hstep _ (by simp only [if_neg (show ¬ t < 0 by omega)]; exact hq), ?_⟩
      rcases hd2 with h | h
      · exact .inl h
      · refine .inr (fun i hi hji => ?_)
        by_cases hij : i = j
        · subst hij; exact h4
        · exact h i hi (by omega)
theorem bF_ (l : List S38) (hl : l.length ≤ 140737488351232) (hw : ∀ x ∈ l, wB x) : ∃ t, Ev (fun k => laws_szBitsS.f k l 1048576) t ∧ (t < 0 ∨ (l.length ≤ 1048576 ∧ ∀ x ∈ l.map bR_, bS x)) := by
  have hwl : wrap64 (1048576 - (l.length : Int)) = 1048576 - l.length := w64 (by omega) (by omega)
  by_cases hn : 1048576 - (l.length : Int) < 0
  · exact ⟨-1, Ev.from_ 0 (fun k _ => by unfold laws_szBitsS.f; rw [hwl, if_pos hn]), .inl (by omega)⟩
  · obtain ⟨t, ht, hc⟩ := ce_ l (by omega) hw l.length 0 (1048576 - l.length) (by omega) (by omega) (by omega) (by omega)
    refine ⟨t, ?_, ?_⟩
    · unfold laws_szBitsS.f
      rw [hwl]
      simp only [if_neg hn]
      exact ht
    · rcases hc with h | h
      · exact .inl h
      · refine .inr ⟨by omega, fun x hx => ?_⟩
        obtain ⟨y, hy, rfl⟩ := List.mem_map.1 hx
        obtain ⟨i, hi, rfl⟩ := List.mem_iff_getElem.1 hy
        exact h i hi (by omega)
theorem cP_ (l : List ByteArray) (hl : l.length ≤ 2000000) : Ev (fun k => laws_toStringS.f k l) l := by
  refine ⟨l.length + 1, fun k hk => ?_⟩
  show laws_toStringS.f k l = some l
  unfold laws_toStringS.f
  rw [if_pos (by omega), if_pos (by omega)]
  have := bs_ (F := fun k acc j => laws_toStringS.l0 k l acc j) (g := fun x : ByteArray => x) (l := l) ?_ ?_ l.length 0 (List.replicate ((l.length : Int) : Int).toNat ⟨#[]⟩) (by omega) (by omega) (by simp) (fun i hi => absurd hi (by omega)) k (by omega)
  · simpa using this
  · intro k acc j hj ha
    simp only [laws_toStringS.l0]
    rw [if_pos (by omega), if_pos (by omega), if_pos (by omega), w64 (by omega) (by omega), be_ hj]
    rfl
  · intro k acc
    simp only [laws_toStringS.l0]
    rw [if_neg (by omega)]
theorem cM_ (l : List Int) (hl : l.length ≤ 2000000) : Ev (fun k => laws_toIntS.f k l) l := by
  refine ⟨l.length + 1, fun k hk => ?_⟩
  show laws_toIntS.f k l = some l
  unfold laws_toIntS.f
  rw [if_pos (by omega), if_pos (by omega)]
  have := bs_ (F := fun k acc j => laws_toIntS.l0 k l acc j) (g := fun x : Int => x) (l := l) ?_ ?_ l.length 0 (List.replicate ((l.length : Int) : Int).toNat 0) (by omega) (by omega) (by simp) (fun i hi => absurd hi (by omega)) k (by omega)
  · simpa using this
  · intro k acc j hj ha
    simp only [laws_toIntS.l0]
    rw [if_pos (by omega), if_pos (by omega), if_pos (by omega), w64 (by omega) (by omega)]
    unfold rd
    rw [aA_ _ hj]
    rfl
  · intro k acc
    simp only [laws_toIntS.l0]
    rw [if_neg (by omega)]
theorem bM_ (l : List S38) (hl : l.length ≤ 1048576) (hb : ∀ x ∈ l.map bR_, bOk x) : Ev (fun k => laws_toBitsS.f k l) (l.map bR_) := by
  unfold laws_toBitsS.f
  simp only [if_pos (show (0 : Int) ≤ (l.length : Int) by omega), if_pos (show ((l.length : Int) : Int).toNat ≤ 3518437208883 by omega)]
  refine cR_ (F := fun k acc j => laws_toBitsS.l0 k l acc j) (g := bR_) (l := l) ?_ ?_ l.length 0 (List.replicate ((l.length : Int) : Int).toNat z52) (by omega) (by omega) (by simp) (fun i hi => absurd hi (by omega))
  · intro acc j hj r ha h
    obtain ⟨b1, b2, _⟩ := hb _ (List.mem_map.2 ⟨l[j], List.getElem_mem hj, rfl⟩)
    refine Ev.step (fun k => rfl) ?_
    have hto : Ev (fun k => laws_toBits.f k l[j].f0 l[j].f1 l[j].f2 l[j].f3 l[j].f4 l[j].f5) (l[j].f0, l[j].f1, l[j].f2, l[j].f3, l[j].f4, l[j].f5) := by
      unfold laws_toBits.f
      exact Ev.bind (cP_ _ (Nat.le_trans b1 (by omega))) (Ev.bind (cM_ _ (Nat.le_trans b2 (by omega))) (Ev.now _))
    simp only [laws_toBitsS.l0, if_pos (show (j : Int) < (l.length : Int) by omega), if_pos (show (0 : Int) ≤ (j : Int) by omega), rdL hj, w64 (x := (j : Int) + 1) (by omega) (by omega)]
    refine Ev.bind hto ?_
    simp only [if_pos (show (j : Int) < (acc.length : Int) by omega), Int.toNat_natCast]
    exact h
  · intro acc
    exact Ev.step (f := fun _ => some acc) (fun k => by simp only [laws_toBitsS.l0]; rw [if_neg (by omega)]) (Ev.now _)
theorem cU_ (l : List Int) (hl : l.length ≤ 2000000) : impl_copyInts.f l = some l := by
  unfold impl_copyInts.f
  simp only [Option.bind_some, List.length_nil, List.nil_append]
  rw [if_pos (by omega)]
theorem cn_ (l : List S52) (hl : l.length ≤ 2000000) (hx : ∀ x ∈ l, x.f2.length ≤ 2000000 ∧ x.f3.length ≤ 2000000) : ∀ (d j : Nat), l.length - j = d → j ≤ l.length → Ev (fun k => impl_copyBits.l0 k (l.take j) l (l.length : Int) (j : Int)) l := by
  intro d
  induction d with
  | zero =>
    intro j hd hj
    rw [List.take_of_length_le (by omega)]
    exact Ev.step (f := fun _ => some l) (fun k => by simp only [impl_copyBits.l0]; rw [if_neg (by omega)]) (Ev.now _)
  | succ d ih =>
    intro j hd hj
    have hjl : j < l.length := by omega
    obtain ⟨h1, h2⟩ := hx _ (List.getElem_mem hjl)
    refine Ev.step (fun k => rfl) ?_
    have hlen : (l.take j).length < 1759218604441 := by rw [List.length_take]; omega
    simp only [impl_copyBits.l0, if_pos (show (j : Int) < (l.length : Int) by omega), if_pos (show (0 : Int) ≤ (j : Int) by omega), rdB hjl, Option.bind_some, List.length_nil, List.nil_append, if_pos (show 0 + l[j].f2.length < 8796093022208 by omega), cU_ l[j].f3 h2, if_pos hlen, w64 (x := (j : Int) + 1) (by omega) (by omega)]
    have := ih (j + 1) (by omega) (by omega)
    rw [List.take_succ_eq_append_getElem hjl] at this
    exact this
theorem cA_ (l : List S52) (hl : l.length ≤ 2000000) (hx : ∀ x ∈ l, x.f2.length ≤ 2000000 ∧ x.f3.length ≤ 2000000) : Ev (fun k => impl_copyBits.f k l) l := by
  have := cn_ l hl hx l.length 0 (by omega) (by omega)
  rw [List.take_zero] at this
  exact this
theorem cq_ (l : List S52) (hl : l.length ≤ 2000000) (hx : ∀ x ∈ l, x.f2.length ≤ 2000000 ∧ x.f3.length ≤ 2000000) : ∀ (d j : Nat), l.length - j = d → j ≤ l.length → Ev (fun k => spec_l11CopyBits.l0 k l (l.take j) (j : Int)) l := by
  intro d
  induction d with
  | zero =>
    intro j hd hj
    rw [List.take_of_length_le (by omega)]
    exact Ev.step (f := fun _ => some l) (fun k => by simp only [spec_l11CopyBits.l0]; rw [if_neg (by omega)]) (Ev.now _)
  | succ d ih =>
    intro j hd hj
    have hjl : j < l.length := by omega
    obtain ⟨h1, h2⟩ := hx _ (List.getElem_mem hjl)
    refine Ev.step (fun k => rfl) ?_
    have hlen : (l.take j).length < 1759218604441 := by rw [List.length_take]; omega
    simp only [spec_l11CopyBits.l0, if_pos (show (j : Int) < (l.length : Int) by omega), if_pos (show (0 : Int) ≤ (j : Int) by omega), rdB hjl, Option.bind_some, List.length_nil, List.nil_append, if_pos (show 0 + l[j].f2.length < 8796093022208 by omega), if_pos (show 0 + l[j].f3.length < 17592186044416 by omega), if_pos hlen, w64 (x := (j : Int) + 1) (by omega) (by omega)]
    have := ih (j + 1) (by omega) (by omega)
    rw [List.take_succ_eq_append_getElem hjl] at this
    exact this
theorem bx_ (l : List S52) (hl : l.length ≤ 2000000) (hx : ∀ x ∈ l, x.f2.length ≤ 2000000 ∧ x.f3.length ≤ 2000000) : Ev (fun k => spec_l11CopyBits.f k l) l := by
  have := cq_ l hl hx l.length 0 (by omega) (by omega)
  rw [List.take_zero] at this
  exact this
theorem cT_ (l : List Int) (hl : l.length ≤ 2000000) : Ev (fun k => laws_eqIntS.f k l l) true := by
  refine ⟨l.length + 1, fun k hk => ?_⟩
  show laws_eqIntS.f k l l = some true
  unfold laws_eqIntS.f
  rw [if_pos rfl]
  refine bY_ (F := fun k j => laws_eqIntS.l0 k l l j) (n := l.length) ?_ ?_ l.length 0 (by omega) (by omega) k (by omega)
  · intro k j hj
    simp (disch := omega) only [laws_eqIntS.l0, ip, w64, if_true]
    rfl
  · intro k
    simp only [laws_eqIntS.l0]
    rw [if_neg (by omega)]
theorem cN_ (x : S52) (hx : bOk x) : Ev (fun k => laws_eqBits.f k x.f0 x.f1 x.f2 x.f3 x.f4 x.f5 x.f0 x.f1 x.f2 x.f3 x.f4 x.f5) true := by
  unfold laws_eqBits.f
  simp only [if_true]
  refine Ev.bind (a := true) ⟨x.f2.length + 1, fun k hk => bh_ x.f2 (by have := hx.1; omega) k (by omega)⟩ ?_
  simp only [if_true]
  refine Ev.bind (cT_ x.f3 (by have := hx.2.1; omega)) ?_
  simp only [if_true]
  exact Ev.now _
theorem aO_ (l : List S52) (hl : l.length ≤ 2000000) (hb : ∀ x ∈ l, bOk x) : Ev (fun k => laws_eqBitsS.f k l l) true := by
  unfold laws_eqBitsS.f
  simp only [eq_self, if_true]
  refine da_ (F := fun k j => laws_eqBitsS.l0 k l l j) (n := l.length) ?_ ?_ l.length 0 (by omega) (by omega)
  · intro j hj h
    refine Ev.step (fun k => rfl) ?_
    simp only [laws_eqBitsS.l0, if_pos (show (j : Int) < (l.length : Int) by omega), if_pos (show (0 : Int) ≤ (j : Int) by omega), rdB hj, w64 (x := (j : Int) + 1) (by omega) (by omega)]
    refine Ev.bind (cN_ _ (hb _ (List.getElem_mem hj))) ?_
    simp only [if_true]
    exact h
  · exact Ev.step (f := fun _ => some true) (fun k => by simp only [laws_eqBitsS.l0]; rw [if_neg (by omega)]) (Ev.now _)
theorem cQ_ {l : List Int} {j : Nat} (h : j < l.length) : rd l (j : Int) = l[j] := by unfold rd; exact aA_ _ h
theorem bm_ (l : List Int) (hl : l.length ≤ 2000000) (c : Int) (h0 : 0 ≤ c) (h1 : c ≤ 10000000000000) : ∃ (m : Int) (l' : List Int), 0 ≤ m ∧ m ≤ c + 1 * l.length ∧ Ev (fun k => laws_markIntS.f k l c) (m, l') ∧ Ev (fun k => laws_heldIntS.f k l' c) m := by
  obtain ⟨l', hl', _, h3, h4⟩ := bd_ (F := fun k l c j => laws_markIntS.l0 k l c j) (G := fun x : Int => x) (w := 1) (fun k l c j hj hl hk h0 h1 => by
      simp (disch := omega) only [laws_markIntS.l0, ip, Option.bind_some, w64, List.set_set, Int.toNat_natCast]
      congr 1 <;> omega) (fun k l c => by simp only [laws_markIntS.l0]; rw [if_neg (by omega)]) l.length 0 l c (by omega) (by omega) hl h0 (by omega)
  refine ⟨c + 1 * l.length, l', by omega, by omega, ⟨l.length + 21, fun k hk => h4 k (by omega)⟩, ⟨l.length + 21, fun k hk => ?_⟩⟩
  have := bi_ (F := fun k l c j => laws_heldIntS.l0 k l c j) (G := fun x : Int => x) (w := 1) (l := l') (fun k c j hj hl hk h0 h1 hP => by
      have hr : rd l' (j : Int) = c := by rw [cQ_ hj]; exact hP
      simp (disch := omega) only [laws_heldIntS.l0, hr, ip, Option.bind_some, w64, if_true]
      congr 1 <;> omega) (fun k c => by simp only [laws_heldIntS.l0]; rw [if_neg (by omega)]) (by omega) l'.length 0 c (by omega) (by omega) h0 (by omega) (fun i _ hi => by simpa using h3 i (by omega) (by omega)) k (by omega)
  rw [hl'] at this
  exact this
theorem ai_ : ∀ (l : List S52) (c : Int), (∀ x ∈ l, bOk x) → l.length ≤ 1048577 → 0 ≤ c → c + l.length * 4000000 ≤ 9000000000000 →
    ∃ (m : Int) (l' : List S52), l'.length = l.length ∧ 0 ≤ m ∧ Ev (fun k => laws_markBitsS.go k l c) (m, l') ∧ ∀ pre : List S52, pre.length + l.length ≤ 2000000 → Ev (fun k => laws_heldBitsS.l0 k (pre ++ l') c (pre.length : Int)) m
  | [], c, _, _, h0, _ => ⟨c, [], rfl, h0, Ev.now _, fun pre _ => Ev.step (f := fun _ => some c) (fun k => by simp only [laws_heldBitsS.l0, List.append_nil]; rw [if_neg (by omega)]) (Ev.now _)⟩
  | x :: xs, c, hb, hl, h0, hc => by
    rw [List.length_cons] at hl hc
    obtain ⟨b1, b2, _⟩ := hb x List.mem_cons_self
    obtain ⟨p, t2, hp0, hp1, hpm, hph⟩ := aL_ x.f2 (by omega) (c + 2) (by omega) (by omega)
    obtain ⟨q, t3, hq0, hq1, hqm, hqh⟩ := bm_ x.f3 (by omega) p hp0 (by omega)
    obtain ⟨m, l', hl', hm0, hmm, hmh⟩ := ai_ xs (q + 2) (fun y hy => hb y (List.mem_cons_of_mem _ hy)) (by omega) (by omega) (by omega)
    have w1 : wrap64 (c + 1) = c + 1 := w64 (by omega) (by omega)
    have w2 : wrap64 (c + 1 + 1) = c + 2 := (w64 (by omega) (by omega)).trans (by omega)
    have w3 : wrap64 (q + 1) = q + 1 := w64 (by omega) (by omega)
    have w4 : wrap64 (q + 1 + 1) = q + 2 := (w64 (by omega) (by omega)).trans (by omega)
    refine ⟨m, ⟨c, c + 1, t2, t3, q, q + 1⟩ :: l', by rw [List.length_cons, List.length_cons, hl'], hm0, ?_, fun pre hpre => ?_⟩
    · show Ev (fun k => (laws_markStringS.f k x.f2 (wrap64 (wrap64 (c + 1) + 1))).bind fun p => (laws_markIntS.f k x.f3 p.1).bind fun q => (laws_markBitsS.go k xs (wrap64 (wrap64 (q.1 + 1) + 1))).bind fun r => some (r.1, (⟨c, wrap64 (c + 1), p.2, q.2, q.1, wrap64 (q.1 + 1)⟩ : S52) :: r.2)) _
      rw [w1, w2]
      refine Ev.bind hpm (Ev.bind hqm ?_)
      show Ev (fun k => (laws_markBitsS.go k xs (wrap64 (wrap64 (q + 1) + 1))).bind fun r => some (r.1, (⟨c, c + 1, t2, t3, q, wrap64 (q + 1)⟩ : S52) :: r.2)) _
      rw [w3, w4]
      exact Ev.bind hmm (Ev.now _)
    · rw [List.length_cons] at hpre
      have hj : pre.length < (pre ++ (⟨c, c + 1, t2, t3, q, q + 1⟩ : S52) :: l').length := by rw [List.length_append, List.length_cons]; omega
      have hg : (pre ++ (⟨c, c + 1, t2, t3, q, q + 1⟩ : S52) :: l')[pre.length] = ⟨c, c + 1, t2, t3, q, q + 1⟩ := by rw [List.getElem_append_right (Nat.le_refl _)]; simp
      have hr := rdB hj
      rw [hg] at hr
      have ih := hmh (pre ++ [(⟨c, c + 1, t2, t3, q, q + 1⟩ : S52)]) (by rw [List.length_append, List.length_singleton]; omega)
      rw [List.append_assoc, List.singleton_append, List.length_append, List.length_singleton] at ih
      refine Ev.step (fun k => rfl) ?_
      simp only [laws_heldBitsS.l0, if_pos (show (pre.length : Int) < ((pre ++ (⟨c, c + 1, t2, t3, q, q + 1⟩ : S52) :: l').length : Int) by omega), if_pos (show (0 : Int) ≤ (pre.length : Int) by omega), hr, w1, w2, if_true, w64 (x := (pre.length : Int) + 1) (by omega) (by omega)]
      refine Ev.bind hph ?_
      simp only [if_neg (show ¬ p < 0 by omega)]
      refine Ev.bind hqh ?_
      simp only [if_neg (show ¬ q < 0 by omega), w3, w4, if_true]
      exact ih

/-! ### in -/
def rng (a b c : Int) : Bool := decide (b ≤ a) && decide (a ≤ c)
theorem bp_ {a b c : Int} : rng a b c = true ↔ b ≤ a ∧ a ≤ c := by simp [rng]
theorem cm_ (a b c : Int) : spec_l01In.f a b c = some (rng a b c) := by
  unfold spec_l01In.f rng
  by_cases h : b ≤ a
  · rw [if_pos h]; simp [h]
  · rw [if_neg h]; simp [h]
theorem am_ (a b c : Int) : impl_within.f a b c = some (rng a b c) := by
  unfold impl_within.f rng
  by_cases h : b ≤ a
  · rw [if_pos h]; simp [h]
  · rw [if_neg h]; simp [h]

/-! ### dgok -/
def dgB (a b c d : Int) (e : Bool) (s : ByteArray) : Bool :=
  rng a 1 99 && (rng b 1 99 && (rng c 0 65535 && (rng d 0 160 && (decide (Int.tmod d 8 = 0) && (rng (s.size : Int) 1 (wrap64 (160 - d)) && (!e || ((s.size : Int) % 8 == 0)))))))
theorem bt_ (a b c d : Int) (e : Bool) (s : ByteArray) : spec_DgramOk.f a b c d e s = some (dgB a b c d e s) := by
  unfold spec_DgramOk.f dgB
  simp only [cm_, Option.bind_some]
  by_cases h8 : Int.tmod d 8 = 0
  · simp only [if_pos h8]
    cases rng a 1 99 <;> cases rng b 1 99 <;> cases rng c 0 65535 <;> cases rng d 0 160 <;> cases rng (s.size : Int) 1 (wrap64 (160 - d)) <;> cases e <;> simp [h8]
  · simp only [if_neg h8]
    cases rng a 1 99 <;> cases rng b 1 99 <;> cases rng c 0 65535 <;> cases rng d 0 160 <;> simp [h8]
theorem bz_ (a b c d : Int) (e : Bool) (s : ByteArray) : impl_DgramOk.f a b c d e s = some (dgB a b c d e s) := by
  unfold impl_DgramOk.f impl_isAddr.f impl_isWord.f dgB
  simp only [am_, Option.bind_some]
  by_cases h8 : Int.tmod d 8 = 0
  · simp only [if_pos h8]
    cases rng a 1 99 <;> cases rng b 1 99 <;> cases rng c 0 65535 <;> cases rng d 0 160 <;> cases rng (s.size : Int) 1 (wrap64 (160 - d)) <;> cases e <;> simp [h8]
  · simp only [if_neg h8]
    cases rng a 1 99 <;> cases rng b 1 99 <;> cases rng c 0 65535 <;> cases rng d 0 160 <;> simp [h8]
theorem aB_ {a b c d : Int} {e : Bool} {s : ByteArray} (h : dgB a b c d e s = true) : (1 ≤ a ∧ a ≤ 99) ∧ (1 ≤ b ∧ b ≤ 99) ∧ (0 ≤ c ∧ c ≤ 65535) ∧ (0 ≤ d ∧ d ≤ 160) ∧ d % 8 = 0 ∧ (1 ≤ (s.size : Int) ∧ (s.size : Int) ≤ 160 - d) ∧ (e = true → (s.size : Int) % 8 = 0) := by
  unfold dgB at h
  simp only [Bool.and_eq_true, decide_eq_true_eq, bp_, Bool.or_eq_true, Bool.not_eq_true', beq_iff_eq] at h
  obtain ⟨ha, hb, hc, hd, h8, hs, he⟩ := h
  rw [w64 (by omega) (by omega)] at hs
  rw [Int.tmod_eq_emod_of_nonneg hd.1] at h8
  refine ⟨ha, hb, hc, hd, h8, hs, fun h => ?_⟩
  rcases he with he | he
  · rw [h] at he; cases he
  · exact he

/-! ### bl -/
theorem cS_ {s t : ByteArray} (h : bytesOf s = bytesOf t) : s = t := by
  unfold bytesOf at h
  have h2 : s.data.toList = t.data.toList := by
    apply List.ext_getElem?
    intro i
    have h3 := congrArg (fun l => l[i]?) h
    simp only [List.getElem?_map] at h3
    cases h4 : s.data.toList[i]? <;> cases h5 : t.data.toList[i]? <;> rw [h4, h5] at h3 <;> simp at h3 ⊢
    exact UInt8.toNat_inj.1 (by omega)
  exact ByteArray.ext (by rw [← Array.toArray_toList (xs := s.data), h2])
theorem bw_ (s t : ByteArray) : bytesOf (s ++ t) = bytesOf s ++ bytesOf t := by
  unfold bytesOf
  rw [ByteArray.toList_data_append, List.map_append]
theorem bv_ {l : List Int} (h : ∀ x ∈ l, 0 ≤ x ∧ x ≤ 255) : bytesOf (strOfNums l) = l := by
  unfold bytesOf
  rw [strOfNums_data, List.map_map]
  have : ∀ x ∈ l, ((fun b : UInt8 => (b.toNat : Int)) ∘ fun n : Int => UInt8.ofNat n.toNat) x = x := by
    intro x hx
    have := h x hx
    simp only [Function.comp, UInt8.toNat_ofNat']
    omega
  rw [List.map_congr_left this, List.map_id']
theorem cu_ : bytesOf (⟨#[]⟩ : ByteArray) = [] := rfl
theorem cD_ (s : ByteArray) (i : Int) : bt s i = rd (bytesOf s) i := (rd_bytesOf s i).symm
theorem af_ {s t : ByteArray} : s.toList = t.toList ↔ s = t := by
  rw [ByteArray.toList_eq, ByteArray.toList_eq]
  constructor
  · intro h; exact ByteArray.ext (by rw [← Array.toArray_toList (xs := s.data), h])
  · intro h; rw [h]
theorem aQ_ {s : ByteArray} : s.toList = ([] : List UInt8) ↔ bytesOf s = [] := by
  rw [ByteArray.toList_eq]
  unfold bytesOf
  simp

/-! ### joinboth -/
/-! impl.JoinBits and spec.JoinBits answer alike -/
theorem aM_ {l : List Int} {j : Nat} (h : j < l.length) : rd l (j : Int) = l[j] := by unfold rd; exact aA_ _ h
theorem aw_ (p : Nat → Bool) : ∀ n, (∀ m, m < n → p m = false) ∨ ∃ j, j < n ∧ p j = true ∧ ∀ m, m < j → p m = false
  | 0 => .inl (fun m hm => absurd hm (Nat.not_lt_zero _))
  | n + 1 => by
    rcases aw_ p n with h | ⟨j, hj, h1, h2⟩
    · cases hp : p n with
      | true => exact .inr ⟨n, Nat.lt_succ_self _, hp, h⟩
      | false =>
        refine .inl (fun m hm => ?_)
        by_cases he : m = n
        · rw [he]; exact hp
        · exact h m (by omega)
    · exact .inr ⟨j, by omega, h1, h2⟩
def tst {α : Type} (p : α → Bool) (l : List α) (j : Nat) : Bool := match l[j]? with | some x => p x | none => false
theorem ah_ {α : Type} {p : α → Bool} {l : List α} {j : Nat} (h : j < l.length) : tst p l j = p l[j] := by unfold tst; rw [List.getElem?_eq_getElem h]
theorem al_ (l : List Int) (x : Int) (hl : l.length ≤ 2000000) (b : Int) (hb : (b = -1 ∧ ∀ m, m < l.length → tst (fun y => y == x) l m = false) ∨ ∃ j : Nat, j < l.length ∧ b = (j : Int) ∧ tst (fun y => y == x) l j = true ∧ ∀ m, m < j → tst (fun y => y == x) l m = false) :
    Ev (fun k => slices_Index_int_int.f k l x) b := by
  have key : ∀ (d j : Nat), l.length - j = d → j ≤ l.length → (∀ m, m < j → tst (fun y => y == x) l m = false) → Ev (fun k => slices_Index_int_int.l0 k l x (l.length : Int) (j : Int)) b := by
    intro d
    induction d with
    | zero =>
      intro j hd hj hn
      rcases hb with ⟨rfl, _⟩ | ⟨q, hq, _, h1, _⟩
      · exact Ev.step (f := fun _ => some (-1)) (fun k => by simp only [slices_Index_int_int.l0]; rw [if_neg (by omega)]) (Ev.now _)
      · rw [hn q (by omega)] at h1; cases h1
    | succ d ih =>
      intro j hd hj hn
      have hjl : j < l.length := by omega
      by_cases h : x = l[j]
      · have ht : tst (fun y => y == x) l j = true := by rw [ah_ hjl]; simp [← h]
        have hbj : b = (j : Int) := by
          rcases hb with ⟨_, h2⟩ | ⟨q, hq, hbq, h1, h2⟩
          · rw [h2 j hjl] at ht; cases ht
          · rcases Nat.lt_trichotomy q j with h3 | h3 | h3
            · rw [hn q h3] at h1; cases h1
            · rw [hbq, h3]
            · rw [h2 j h3] at ht; cases ht
        rw [hbj]
        exact Ev.step (f := fun _ => some (j : Int)) (fun k => by simp only [slices_Index_int_int.l0]; rw [if_pos (by omega), if_pos (by omega), if_pos (by omega), aM_ hjl, if_pos h]) (Ev.now _)
      · have ht : tst (fun y => y == x) l j = false := by rw [ah_ hjl]; simp; exact fun e => h e.symm
        refine Ev.step (f := fun k => slices_Index_int_int.l0 k l x (l.length : Int) ((j + 1 : Nat) : Int)) (fun k => ?_) (ih (j + 1) (by omega) (by omega) (fun m hm => by
          by_cases he : m = j
          · rw [he]; exact ht
          · exact hn m (by omega)))
        simp only [slices_Index_int_int.l0]
        rw [if_pos (by omega), if_pos (by omega), if_pos (by omega), aM_ hjl, if_neg h, w64 (by omega) (by omega)]
        rfl
  exact key l.length 0 (by omega) (by omega) (fun m hm => absurd hm (Nat.not_lt_zero _))
section
variable {a b u : Int} {X : List ByteArray} {L : List Int} {T : Int}
theorem bJ_ (s : ByteArray) (r : Int) (hL : L.length ≤ 2000000) (q : ByteArray × Bool) (hq : Ev (fun k => spec_l11Whole.l0 k s (wrap64 (r + 1)) a b X L T u) q) :
    ∀ (d i : Nat), L.length - i = d → i ≤ L.length → (∀ m, i ≤ m → m < L.length → tst (fun y => y == (s.size : Int)) L m = true → ¬ m < X.length) → Ev (fun k => spec_l11Whole.l1 k s r (i : Int) a b X L T u) q := by
  intro d
  induction d with
  | zero =>
    intro i hd hi _
    exact Ev.step (fun k => by simp only [spec_l11Whole.l1]; rw [if_neg (by omega)]) hq
  | succ d ih =>
    intro i hd hi hn
    have hil : i < L.length := by omega
    have h := ih (i + 1) (by omega) (by omega) (fun m hm => hn m (by omega))
    refine Ev.step (f := fun k => spec_l11Whole.l1 k s r ((i + 1 : Nat) : Int) a b X L T u) (fun k => ?_) h
    simp only [spec_l11Whole.l1]
    rw [if_pos (by omega), if_pos (by omega), aM_ hil, w64 (x := (i : Int) + 1) (by omega) (by omega)]
    by_cases he : L[i] = (s.size : Int)
    · have hx := hn i (Nat.le_refl _) hil (by rw [ah_ hil]; simp [he])
      rw [if_pos he, if_neg (by omega)]
      rfl
    · rw [if_neg he]
      rfl
theorem aN_ (s : ByteArray) (r : Int) (hL : L.length ≤ 2000000) {j : Nat} (hj : j < L.length) (hx : j < X.length) (ht : tst (fun y => y == (s.size : Int)) L j = true) (hsz : s.size + X[j].size ≤ 9223372036854775807) (q : ByteArray × Bool) (hq : Ev (fun k => spec_l11Whole.l0 k (s ++ X[j]) (wrap64 (r + 1)) a b X L T u) q) :
    ∀ (d i : Nat), j - i = d → i ≤ j → (∀ m, i ≤ m → m < j → tst (fun y => y == (s.size : Int)) L m = false) → Ev (fun k => spec_l11Whole.l1 k s r (i : Int) a b X L T u) q := by
  intro d
  induction d with
  | zero =>
    intro i hd hi _
    obtain rfl : i = j := by omega
    have he : L[i] = (s.size : Int) := by rw [ah_ hj] at ht; simpa using ht
    have hr : rdOf ByteArray.empty X (i : Int) = X[i] := be_ hx
    refine Ev.step (f := fun k => spec_l11Whole.l1 k (s ++ X[i]) r (wrap64 ((L.length : Int) + 1)) a b X L T u) (fun k => ?_) ?_
    · simp only [spec_l11Whole.l1]
      rw [if_pos (by omega), if_pos (by omega), aM_ hj, if_pos he, if_pos (by omega), hr, if_pos hsz]
    · rw [w64 (x := (L.length : Int) + 1) (by omega) (by omega)]
      exact Ev.step (fun k => by simp only [spec_l11Whole.l1]; rw [if_neg (by omega)]) hq
  | succ d ih =>
    intro i hd hi hn
    have hil : i < L.length := by omega
    have h := ih (i + 1) (by omega) (by omega) (fun m hm => hn m (by omega))
    refine Ev.step (f := fun k => spec_l11Whole.l1 k s r ((i + 1 : Nat) : Int) a b X L T u) (fun k => ?_) h
    have he : ¬ L[i] = (s.size : Int) := by
      have := hn i (Nat.le_refl _) (by omega)
      rw [ah_ hil] at this
      simpa using this
    simp only [spec_l11Whole.l1]
    rw [if_pos (by omega), if_pos (by omega), aM_ hil, w64 (x := (i : Int) + 1) (by omega) (by omega), if_neg he]
    rfl
theorem cs_ (s : ByteArray) (hL : L.length ≤ 2000000) (hT : (s.size : Int) < T) (hs : s.size ≤ 9000000000000000000)
    (hst : (∀ m, m < L.length → tst (fun y => y == (s.size : Int)) L m = true → ¬ m < X.length) ∨ ∃ j, ∃ (hj : j < L.length) (hx : j < X.length), tst (fun y => y == (s.size : Int)) L j = true ∧ (∀ m, m < j → tst (fun y => y == (s.size : Int)) L m = false) ∧ X[j] = ⟨#[]⟩) :
    ∀ (d r : Nat), L.length + 1 - r = d → r ≤ L.length + 1 → Ev (fun k => spec_l11Whole.l0 k s (r : Int) a b X L T u) (s, false) := by
  intro d
  induction d with
  | zero =>
    intro r hd hr
    refine Ev.step (f := fun k => spec_l11Whole.j1 k s (r : Int) false a b X L T u) (fun k => by simp only [spec_l11Whole.l0]; rw [if_neg (by omega)]) ?_
    refine Ev.step (f := fun _ => some (s, false)) (fun k => ?_) (Ev.now _)
    simp only [spec_l11Whole.j1, Bool.false_eq_true, if_false]
    have hne : ((s.size : Int) == T) = false := by simp; omega
    rw [hne]
    split <;> rfl
  | succ d ih =>
    intro r hd hr
    have h := ih (r + 1) (by omega) (by omega)
    have hw : wrap64 ((r : Int) + 1) = ((r + 1 : Nat) : Int) := w64 (by omega) (by omega)
    refine Ev.step (f := fun k => spec_l11Whole.j1 k s (r : Int) true a b X L T u) (fun k => by simp only [spec_l11Whole.l0]; rw [if_pos (by omega), decide_eq_true hT]) ?_
    refine Ev.step (f := fun k => spec_l11Whole.l1 k s (r : Int) 0 a b X L T u) (fun k => by simp only [spec_l11Whole.j1, if_true]) ?_
    rcases hst with hn | ⟨j, hj, hx, ht, hf, he⟩
    · exact bJ_ s (r : Int) hL _ (by rw [hw]; exact h) L.length 0 (by omega) (by omega) (fun m _ hm => hn m hm)
    · have hz : s ++ X[j] = s := by rw [he]; exact ByteArray.append_empty
      exact aN_ s (r : Int) hL hj hx ht (by rw [he]; show s.size + 0 ≤ _; omega) _ (by rw [hw, hz]; exact h) j 0 (by omega) (by omega) (fun m _ hm => hf m hm)
def cnt (L : List Int) (n : Int) : Nat := (L.filter (fun y => decide (y < n))).length
theorem cx_ (L : List Int) (n n' : Int) (h : n < n') (hm : n ∈ L) : cnt L n + 1 ≤ cnt L n' := by
  unfold cnt
  induction L with
  | nil => cases hm
  | cons y L ih =>
    have mono : ∀ M : List Int, (M.filter (fun y => decide (y < n))).length ≤ (M.filter (fun y => decide (y < n'))).length := by
      intro M
      induction M with
      | nil => exact Nat.le_refl _
      | cons z M ihM =>
        simp only [List.filter_cons]
        by_cases h1 : z < n
        · have h2 : z < n' := by omega
          simp only [h1, h2, decide_true, if_true, List.length_cons]
          omega
        · by_cases h2 : z < n'
          · simp only [h1, h2, decide_true, decide_false, Bool.false_eq_true, if_true, if_false, List.length_cons]
            omega
          · simp only [h1, h2, decide_false, Bool.false_eq_true, if_false]
            exact ihM
    simp only [List.filter_cons]
    rcases List.mem_cons.1 hm with rfl | hm
    · have h3 := mono L
      simp only [Int.lt_irrefl, h, decide_true, decide_false, Bool.false_eq_true, if_true, if_false, List.length_cons]
      omega
    · have h3 := ih hm
      by_cases h1 : y < n
      · have h2 : y < n' := by omega
        simp only [h1, h2, decide_true, if_true, List.length_cons]
        omega
      · by_cases h2 : y < n'
        · simp only [h1, h2, decide_true, decide_false, Bool.false_eq_true, if_true, if_false, List.length_cons]
          omega
        · simp only [h1, h2, decide_false, Bool.false_eq_true, if_false]
          exact h3
theorem cd_ (L : List Int) (n : Int) : cnt L n ≤ L.length := List.length_filter_le _ _
theorem bV_ (L : List Int) (n : Int) (hm : n ∈ L) : cnt L n < L.length := by
  have := cx_ L n (n + 1) (by omega) hm
  have := cd_ L (n + 1)
  omega
theorem dd_ {r c n : Nat} (h : r ≤ c) (h2 : c < n) : (r : Int) ≤ (n : Int) := by omega
theorem ay_ {B : Nat} (hB : B * 2000000 ≤ 9000000000000) (hB1 : B ≤ 9000000000000) (hL : L.length ≤ 2000000) (hX : ∀ s ∈ X, s.size ≤ B) (hTp : 0 < T) : ∀ (d : Nat) (s : ByteArray) (r : Nat), d ≤ L.length → L.length - cnt L (s.size : Int) ≤ d → r ≤ cnt L (s.size : Int) → s.size ≤ B * (L.length - d) →
    ∃ (p p' : ByteArray) (o : Bool), Ev (fun k => impl_whole.l0 k s a b X L T u) (p, o) ∧ Ev (fun k => spec_l11Whole.l0 k s (r : Int) a b X L T u) (p', o) ∧ (o = true → p = p' ∧ p.size ≤ 9000000000000000000) := by
  intro d
  induction d with
  | zero =>
    intro s r hdl hd hr hs
    have hsb : s.size ≤ 9000000000000 := by
      have h1 : B * (L.length - 0) ≤ B * 2000000 := Nat.mul_le_mul_left _ (by omega)
      exact Nat.le_trans hs (Nat.le_trans h1 hB)
    clear hs
    by_cases hlt : (s.size : Int) < T
    · -- no place is left
      have hno : ∀ m, m < L.length → tst (fun y => y == (s.size : Int)) L m = false := by
        intro m hm
        cases hc : tst (fun y => y == (s.size : Int)) L m with
        | false => rfl
        | true =>
          rw [ah_ hm] at hc
          have := bV_ L (s.size : Int) (by
            have he : L[m] = (s.size : Int) := by simpa using hc
            rw [← he]; exact List.getElem_mem _)
          omega
      refine ⟨⟨#[]⟩, s, false, ?_, cs_ s hL hlt (by omega) (.inl (fun m hm h => by rw [hno m hm] at h; cases h)) _ r rfl (by have := cd_ L (s.size : Int); omega), fun h => by cases h⟩
      refine Ev.step (f := fun k => impl_whole.j1 k s true a b X L T u) (fun k => by simp only [impl_whole.l0]; rw [if_pos hTp, decide_eq_true hlt]) ?_
      refine Ev.step (fun k => by simp only [impl_whole.j1, if_true]; rfl) ?_
      refine Ev.bind (al_ L (s.size : Int) hL (-1) (.inl ⟨rfl, hno⟩)) ?_
      exact Ev.congr (f := fun _ => some ((⟨#[]⟩ : ByteArray), false)) (fun k => by rw [if_pos (by omega)]) (Ev.now _)
    · refine ⟨s, s, ((s.size : Int) == T), ?_, ?_, fun _ => ⟨rfl, by omega⟩⟩
      · refine Ev.step (f := fun k => impl_whole.j1 k s false a b X L T u) (fun k => by simp only [impl_whole.l0]; rw [if_pos hTp, decide_eq_false hlt]) ?_
        exact Ev.step (f := fun _ => some (s, ((s.size : Int) == T))) (fun k => by simp only [impl_whole.j1, Bool.false_eq_true, if_false]; rw [if_pos hTp]) (Ev.now _)
      · refine Ev.step (f := fun k => spec_l11Whole.j1 k s (r : Int) false a b X L T u) (fun k => by simp only [spec_l11Whole.l0]; rw [decide_eq_false hlt]; split <;> rfl) ?_
        exact Ev.step (f := fun _ => some (s, ((s.size : Int) == T))) (fun k => by simp only [spec_l11Whole.j1, Bool.false_eq_true, if_false]; rw [if_pos (by omega)]) (Ev.now _)
  | succ d ih =>
    intro s r hdl hd hr hs
    have hcl := cd_ L (s.size : Int)
    have hsb : s.size ≤ 9000000000000 := by
      have h1 : B * (L.length - (d + 1)) ≤ B * 2000000 := Nat.mul_le_mul_left _ (by omega)
      exact Nat.le_trans hs (Nat.le_trans h1 hB)
    by_cases hlt : (s.size : Int) < T
    · have hI : ∀ (v : ByteArray × Bool) (b0 : Int), Ev (fun k => slices_Index_int_int.f k L (s.size : Int)) b0 → Ev (fun k => if b0 < 0 then some ((⟨#[]⟩ : ByteArray), false) else if b0 ≥ (X.length : Int) then some ((⟨#[]⟩ : ByteArray), false) else if 0 ≤ b0 then if b0 < (X.length : Int) then if (rdOf ByteArray.empty X b0).toList = ([] : List UInt8) then some ((⟨#[]⟩ : ByteArray), false) else if s.size + (rdOf ByteArray.empty X b0).size ≤ 9223372036854775807 then impl_whole.l0 k (s ++ rdOf ByteArray.empty X b0) a b X L T u else none else none else none) v → Ev (fun k => impl_whole.l0 k s a b X L T u) v := by
        intro v b0 h1 h2
        refine Ev.step (f := fun k => impl_whole.j1 k s true a b X L T u) (fun k => by simp only [impl_whole.l0]; rw [if_pos hTp, decide_eq_true hlt]) ?_
        refine Ev.step (fun k => by simp only [impl_whole.j1, if_true]; rfl) ?_
        exact Ev.bind h1 h2
      rcases aw_ (tst (fun y => y == (s.size : Int)) L) L.length with hno | ⟨j, hj, ht, hf⟩
      · refine ⟨⟨#[]⟩, s, false, hI _ (-1) (al_ L _ hL (-1) (.inl ⟨rfl, hno⟩)) ?_, cs_ s hL hlt (by omega) (.inl (fun m hm h => by rw [hno m hm] at h; cases h)) _ r rfl (by omega), fun h => by cases h⟩
        exact Ev.congr (f := fun _ => some ((⟨#[]⟩ : ByteArray), false)) (fun k => by rw [if_pos (by omega)]) (Ev.now _)
      · have hidx := al_ L (s.size : Int) hL (j : Int) (.inr ⟨j, hj, rfl, ht, hf⟩)
        have hmem : (s.size : Int) ∈ L := by
          have := ht
          rw [ah_ hj] at this
          have he : L[j] = (s.size : Int) := by simpa using this
          rw [← he]; exact List.getElem_mem _
        have hcm := bV_ L (s.size : Int) hmem
        by_cases hx : j < X.length
        · have hr' : rdOf ByteArray.empty X (j : Int) = X[j] := be_ hx
          have hxs := hX X[j] (List.getElem_mem _)
          by_cases hz : X[j].toList = ([] : List UInt8)
          · have hz2 : X[j] = ⟨#[]⟩ := cS_ ((aQ_.1 hz).trans cu_.symm)
            refine ⟨⟨#[]⟩, s, false, hI _ (j : Int) hidx ?_, cs_ s hL hlt (by omega) (.inr ⟨j, hj, hx, ht, hf, hz2⟩) _ r rfl (by omega), fun h => by cases h⟩
            exact Ev.congr (f := fun _ => some ((⟨#[]⟩ : ByteArray), false)) (fun k => by rw [if_neg (by omega), if_neg (by omega), if_pos (by omega), if_pos (by omega), hr', if_pos hz]) (Ev.now _)
          · have hz2 : 0 < X[j].size := by
              rcases Nat.eq_zero_or_pos X[j].size with h | h
              · exfalso
                apply hz
                have h2 : X[j] = ⟨#[]⟩ := ByteArray.size_eq_zero_iff.1 h
                exact aQ_.2 (by rw [h2]; rfl)
              · exact h
            have hsz : (s ++ X[j]).size = s.size + X[j].size := ByteArray.size_append
            have hc2 := cx_ L (s.size : Int) ((s ++ X[j]).size : Int) (by rw [hsz]; omega) hmem
            obtain ⟨p, p', o, h1, h2, h3⟩ := ih (s ++ X[j]) (r + 1) (by omega) (by omega) (by omega) (by
              have e : L.length - d = L.length - (d + 1) + 1 := by omega
              rw [hsz, e, Nat.mul_add, Nat.mul_one]
              exact Nat.add_le_add hs hxs)
            refine ⟨p, p', o, hI _ (j : Int) hidx ?_, ?_, h3⟩
            · exact Ev.congr (f := fun k => impl_whole.l0 k (s ++ X[j]) a b X L T u) (fun k => by rw [if_neg (by omega), if_neg (by omega), if_pos (by omega), if_pos (by omega), hr', if_neg hz, if_pos (by omega)]) h1
            · have hw : wrap64 ((r : Int) + 1) = ((r + 1 : Nat) : Int) := w64 (by omega) (by omega)
              refine Ev.step (f := fun k => spec_l11Whole.j1 k s (r : Int) true a b X L T u) (fun k => by simp only [spec_l11Whole.l0]; rw [if_pos (dd_ hr hcm), decide_eq_true hlt]) ?_
              refine Ev.step (f := fun k => spec_l11Whole.l1 k s (r : Int) 0 a b X L T u) (fun k => by simp only [spec_l11Whole.j1, if_true]) ?_
              exact aN_ s (r : Int) hL hj hx ht (by omega) _ (by rw [hw]; exact h2) j 0 (by omega) (by omega) (fun m _ hm => hf m hm)
        · refine ⟨⟨#[]⟩, s, false, hI _ (j : Int) hidx ?_, cs_ s hL hlt (by omega) (.inl (fun m hm h => ?_)) _ r rfl (by omega), fun h => by cases h⟩
          · exact Ev.congr (f := fun _ => some ((⟨#[]⟩ : ByteArray), false)) (fun k => by rw [if_neg (by omega), if_pos (by omega)]) (Ev.now _)
          · intro hmx
            rw [hf m (by omega)] at h; cases h
    · refine ⟨s, s, ((s.size : Int) == T), ?_, ?_, fun _ => ⟨rfl, by omega⟩⟩
      · refine Ev.step (f := fun k => impl_whole.j1 k s false a b X L T u) (fun k => by simp only [impl_whole.l0]; rw [if_pos hTp, decide_eq_false hlt]) ?_
        exact Ev.step (f := fun _ => some (s, ((s.size : Int) == T))) (fun k => by simp only [impl_whole.j1, Bool.false_eq_true, if_false]; rw [if_pos hTp]) (Ev.now _)
      · refine Ev.step (f := fun k => spec_l11Whole.j1 k s (r : Int) false a b X L T u) (fun k => by simp only [spec_l11Whole.l0]; rw [decide_eq_false hlt]; split <;> rfl) ?_
        exact Ev.step (f := fun _ => some (s, ((s.size : Int) == T))) (fun k => by simp only [spec_l11Whole.j1, Bool.false_eq_true, if_false]; rw [if_pos (by omega)]) (Ev.now _)
theorem aR_ (hL : L.length ≤ 2000000) (hX : ∀ s ∈ X, s.size ≤ 1050000) : ∃ (p p' : ByteArray) (o : Bool), Ev (fun k => impl_whole.f k a b X L T u) (p, o) ∧ Ev (fun k => spec_l11Whole.f k a b X L T u) (p', o) ∧ (o = true → p = p' ∧ p.size ≤ 9000000000000000000) := by
  unfold impl_whole.f spec_l11Whole.f
  by_cases hT : 0 < T
  · exact ay_ (B := 1050000) (by decide) (by decide) hL hX hT (L.length - cnt L ((⟨#[]⟩ : ByteArray).size : Int)) ⟨#[]⟩ 0 (Nat.sub_le _ _) (Nat.le_refl _) (Nat.zero_le _) (Nat.zero_le _)
  · refine ⟨⟨#[]⟩, ⟨#[]⟩, false, ?_, ?_, fun h => by cases h⟩
    · refine Ev.step (f := fun k => impl_whole.j1 k ⟨#[]⟩ false a b X L T u) (fun k => by simp only [impl_whole.l0]; rw [if_neg (by omega)]) ?_
      exact Ev.step (f := fun _ => some ((⟨#[]⟩ : ByteArray), false)) (fun k => by simp only [impl_whole.j1, Bool.false_eq_true, if_false]; rw [if_neg (by omega)]) (Ev.now _)
    · have hlt : ¬ (((⟨#[]⟩ : ByteArray).size : Nat) : Int) < T := by show ¬ ((0 : Nat) : Int) < T; omega
      refine Ev.step (f := fun k => spec_l11Whole.j1 k ⟨#[]⟩ 0 false a b X L T u) (fun k => by simp only [spec_l11Whole.l0]; rw [decide_eq_false hlt]; split <;> rfl) ?_
      exact Ev.step (f := fun _ => some ((⟨#[]⟩ : ByteArray), false)) (fun k => by simp only [spec_l11Whole.j1, Bool.false_eq_true, if_false]; rw [if_neg (by omega)]) (Ev.now _)
end

/-! ### joinboth2 -/
abbrev RJ := List S52 × Int × Int × Int × Int × Bool × ByteArray × Bool
def bA_ (a c : Int) (x : S52) : Bool := x.f0 == a && x.f1 == c
def Fnd {α : Type} (p : α → Bool) (l : List α) (n : Nat) (b : Int) : Prop := (b = -1 ∧ ∀ m, n ≤ m → m < l.length → tst p l m = false) ∨ ∃ j : Nat, n ≤ j ∧ j < l.length ∧ b = (j : Int) ∧ tst p l j = true ∧ ∀ m, n ≤ m → m < j → tst p l m = false
theorem Fnd.uniq {α : Type} {p : α → Bool} {l : List α} {n : Nat} {b b' : Int} (h : Fnd p l n b) (h' : Fnd p l n b') : b = b' := by
  rcases h with ⟨rfl, h⟩ | ⟨j, h1, h2, rfl, h3, h4⟩ <;> rcases h' with ⟨rfl, h'⟩ | ⟨j', h1', h2', rfl, h3', h4'⟩
  · rfl
  · rw [h j' h1' h2'] at h3'; cases h3'
  · rw [h' j h1 h2] at h3; cases h3
  · rcases Nat.lt_trichotomy j j' with hh | hh | hh
    · rw [h4' j h1 hh] at h3; cases h3
    · rw [hh]
    · rw [h4 j' h1' hh] at h3'; cases h3'
theorem Fnd.ex {α : Type} (p : α → Bool) (l : List α) : ∃ b, Fnd p l 0 b := by
  rcases aw_ (tst p l) l.length with h | ⟨j, hj, h1, h2⟩
  · exact ⟨-1, .inl ⟨rfl, fun m _ hm => h m hm⟩⟩
  · exact ⟨j, .inr ⟨j, Nat.zero_le _, hj, rfl, h1, fun m _ hm => h2 m hm⟩⟩
theorem cK_ (l : List S52) (hl : l.length ≤ 2000000) (d0 d1 d2 d3 : Int) (d4 : Bool) (d5 : ByteArray) (b : Int) (hb : Fnd (bA_ d0 d2) l 0 b) : Ev (fun k => impl_Bits.f k l d0 d1 d2 d3 d4 d5) b := by
  have key : ∀ (d j : Nat), l.length - j = d → j ≤ l.length → Fnd (bA_ d0 d2) l j b → Ev (fun k => impl_Bits.l0 k l d0 d1 d2 d3 d4 d5 (j : Int)) b := by
    intro d
    induction d with
    | zero =>
      intro j hd hj hb
      rcases hb with ⟨rfl, _⟩ | ⟨q, h1, h2, _⟩
      · exact Ev.step (f := fun _ => some (-1)) (fun k => by simp only [impl_Bits.l0]; rw [if_neg (by omega)]) (Ev.now _)
      · omega
    | succ d ih =>
      intro j hd hj hb
      have hjl : j < l.length := by omega
      cases ht : tst (bA_ d0 d2) l j with
      | true =>
        have hbj : b = (j : Int) := Fnd.uniq hb (.inr ⟨j, Nat.le_refl _, hjl, rfl, ht, fun m h1 h2 => absurd h2 (by omega)⟩)
        rw [hbj]
        rw [ah_ hjl] at ht
        unfold bA_ at ht
        refine Ev.step (f := fun _ => some (j : Int)) (fun k => ?_) (Ev.now _)
        simp only [impl_Bits.l0]
        rw [if_pos (by omega), if_pos (by omega), rdB hjl, if_pos ht]
      | false =>
        have hb2 : Fnd (bA_ d0 d2) l (j + 1) b := by
          rcases hb with ⟨h, h1⟩ | ⟨q, h1, h2, h3, h4, h5⟩
          · exact .inl ⟨h, fun m hm => h1 m (by omega)⟩
          · have : q ≠ j := by rintro rfl; rw [ht] at h4; cases h4
            exact .inr ⟨q, by omega, h2, h3, h4, fun m hm => h5 m (by omega)⟩
        rw [ah_ hjl] at ht
        unfold bA_ at ht
        refine Ev.step (f := fun k => impl_Bits.l0 k l d0 d1 d2 d3 d4 d5 ((j + 1 : Nat) : Int)) (fun k => ?_) (ih (j + 1) (by omega) (by omega) hb2)
        simp only [impl_Bits.l0]
        rw [if_pos (by omega), if_pos (by omega), rdB hjl, if_neg (by rw [ht]; decide), w64 (by omega) (by omega)]
        rfl
  exact key l.length 0 (by omega) (by omega) hb
section
variable {a0 a1 a2 a3 : Int} {a4 : Bool} {a5 : ByteArray} {now : Int}
theorem bZ_ (l : List S52) (hl : l.length ≤ 2000000) (q : RJ) (hq : ∀ b0, Fnd (bA_ a0 a2) l 0 b0 → Ev (fun k => if b0 < 0 then (if l.length < 1759218604441 then spec_JoinBits.l1 k (l ++ [(⟨a0, a2, ([] : List ByteArray), ([] : List Int), 0, wrap64 (now + 10)⟩ : S52)]) a0 a1 a2 a3 a4 a5 else none) else spec_JoinBits.j5 k l b0 a0 a1 a2 a3 a4 a5) q) :
    ∀ (n : Nat) (b : Int), n ≤ l.length → Fnd (bA_ a0 a2) l n b → Ev (fun k => spec_JoinBits.l0 k now l b ((n : Int) - 1) a0 a1 a2 a3 a4 a5) q := by
  intro n
  induction n with
  | zero =>
    intro b hn hb
    exact Ev.step (fun k => by simp only [spec_JoinBits.l0]; rw [if_neg (by omega)]) (hq b hb)
  | succ n ih =>
    intro b hn hb
    have hnl : n < l.length := by omega
    have hj : ∀ b', Fnd (bA_ a0 a2) l n b' → Ev (fun k => spec_JoinBits.j3 k now l b' (n : Int) a0 a1 a2 a3 a4 a5) q := fun b' hb' =>
      Ev.step (f := fun k => spec_JoinBits.l0 k now l b' ((n : Int) - 1) a0 a1 a2 a3 a4 a5) (fun k => by simp only [spec_JoinBits.j3]; rw [w64 (by omega) (by omega)]) (ih b' (by omega) hb')
    have hidx : (((n + 1 : Nat) : Int) - 1) = (n : Int) := by omega
    rw [hidx]
    cases ht : tst (bA_ a0 a2) l n with
    | true =>
      refine Ev.step (f := fun k => spec_JoinBits.j3 k now l (n : Int) (n : Int) a0 a1 a2 a3 a4 a5) (fun k => ?_) (hj _ (.inr ⟨n, Nat.le_refl _, hnl, rfl, ht, fun m h1 h2 => absurd h2 (by omega)⟩))
      rw [ah_ hnl] at ht
      unfold bA_ at ht
      simp only [Bool.and_eq_true, beq_iff_eq] at ht
      simp only [spec_JoinBits.l0]
      rw [if_pos (by omega), if_pos (by omega), if_pos (by omega), rdB hnl, if_pos ht.1, if_pos ht.2]
    | false =>
      have hb2 : Fnd (bA_ a0 a2) l n b := by
        rcases hb with ⟨h, h1⟩ | ⟨q, h1, h2, h3, h4, h5⟩
        · refine .inl ⟨h, fun m hm hml => ?_⟩
          by_cases he : m = n
          · rw [he]; exact ht
          · exact h1 m (by omega) hml
        · refine .inr ⟨q, by omega, h2, h3, h4, fun m hm hmq => ?_⟩
          by_cases he : m = n
          · rw [he]; exact ht
          · exact h5 m (by omega) hmq
      refine Ev.step (f := fun k => spec_JoinBits.j3 k now l b (n : Int) a0 a1 a2 a3 a4 a5) (fun k => ?_) (hj _ hb2)
      rw [ah_ hnl] at ht
      unfold bA_ at ht
      simp only [spec_JoinBits.l0]
      rw [if_pos (by omega), if_pos (by omega), if_pos (by omega), rdB hnl]
      by_cases h1 : l[n].f0 = a0
      · have h2 : ¬ l[n].f1 = a2 := by
          intro h2
          rw [h1, h2] at ht
          simp at ht
        rw [if_pos h1, if_neg h2]
      · rw [if_neg h1]
theorem cr_ (q : RJ) : ∀ (n : Nat) (z : List S52), z.length = n → n ≤ 2000000 → (∀ x ∈ z, x.f2.length ≤ 2000000 ∧ x.f3.length ≤ 2000000) → Ev (fun k => spec_JoinBits.j5 k (z.drop (n - 3)) (((z.drop (n - 3)).length : Int) - 1) a0 a1 a2 a3 a4 a5) q → Ev (fun k => spec_JoinBits.l1 k z a0 a1 a2 a3 a4 a5) q := by
  intro n
  induction n with
  | zero =>
    intro z hz hn _ h
    refine Ev.step (fun k => by simp only [spec_JoinBits.l1]; rw [if_neg (by omega), w64 (x := (z.length : Int) - 1) (by omega) (by omega)]) ?_
    simpa using h
  | succ n ih =>
    intro z hz hn hb h
    by_cases h3 : n + 1 > 3
    · refine Ev.step (f := fun k => (spec_l11CopyBits.f k (z.drop 1)).bind fun t => spec_JoinBits.l1 k t a0 a1 a2 a3 a4 a5) (fun k => by simp only [spec_JoinBits.l1]; rw [if_pos (by omega), if_pos (by omega)]) ?_
      refine Ev.bind (bx_ (z.drop 1) (by rw [List.length_drop]; omega) (fun x hx => hb x (List.mem_of_mem_drop hx))) (ih (z.drop 1) (by rw [List.length_drop]; omega) (by omega) (fun x hx => hb x (List.mem_of_mem_drop hx)) ?_)
      rw [List.drop_drop, show 1 + (n - 3) = n + 1 - 3 by omega]
      exact h
    · rw [show n + 1 - 3 = 0 by omega, List.drop_zero] at h
      exact Ev.step (fun k => by simp only [spec_JoinBits.l1]; rw [if_neg (by omega), w64 (x := (z.length : Int) - 1) (by omega) (by omega)]) h
theorem cl_ {l : List S52} {i : Nat} (h : i < l.length) (x : S52) : rd_T52 (l.set i x) (i : Int) = x := by
  rw [rdB (by rw [List.length_set]; exact h), List.getElem_set_self]
def bN_ (a0 a1 a2 : Int) (L : List S52) (i : Nat) (p : ByteArray) (o : Bool) : RJ := if o = true then (L.eraseIdx i, a0, a1, a2, 0, false, p, true) else (L, 0, 0, 0, 0, false, ⟨#[]⟩, false)
theorem bu_ (L : List S52) (i : Nat) (hi : i < L.length) (hL : L.length ≤ 2000000) (hb : ∀ x ∈ L, bOk x) (p : ByteArray) (o : Bool) (p0 : ByteArray) (h0 : o = true → p0 = p) (hw : Ev (fun k => spec_l11Whole.f k L[i].f0 L[i].f1 L[i].f2 L[i].f3 L[i].f4 L[i].f5) (p, o)) :
    Ev (fun k => spec_JoinBits.j8 k L (i : Int) a0 a1 a2 a3 a4 a5) (bN_ a0 a1 a2 L i p0 o) := by
  refine Ev.step (fun k => rfl) ?_
  simp only [spec_JoinBits.j8, if_pos (show (0 : Int) ≤ (i : Int) by omega), if_pos (show (i : Int) < (L.length : Int) by omega), rdB hi]
  refine Ev.bind hw ?_
  cases o with
  | false => exact Ev.congr (f := fun _ => some (L, 0, 0, 0, 0, false, ⟨#[]⟩, false)) (fun k => by simp) (Ev.now _)
  | true =>
    have hw1 : wrap64 ((i : Int) + 1) = ((i + 1 : Nat) : Int) := w64 (by omega) (by omega)
    have hlt : (L.take i).length = i := by rw [List.length_take]; omega
    have hld : (L.drop (i + 1)).length = L.length - (i + 1) := List.length_drop
    simp only [if_true, Option.bind_some, Int.toNat_natCast, if_pos (show (i : Int) ≤ (L.length : Int) by omega), List.length_nil, hlt, if_pos (show 0 + i < 1759218604441 by omega), List.nil_append, hw1, if_pos (show (0 : Int) ≤ ((i + 1 : Nat) : Int) by omega), if_pos (show ((i + 1 : Nat) : Int) ≤ (L.length : Int) by omega), hld, if_pos (show i + (L.length - (i + 1)) < 1759218604441 by omega)]
    rw [← List.eraseIdx_eq_take_drop_succ]
    refine Ev.bind (bx_ (L.eraseIdx i) (Nat.le_trans (List.length_eraseIdx_le _ _) hL) (fun x hx => by
      have := hb x (List.mem_of_mem_eraseIdx hx)
      exact ⟨by have := this.1; omega, by have := this.2.1; omega⟩)) ?_
    have hp := h0 rfl
    subst hp
    exact Ev.now _
theorem aX_ (L : List S52) (i n : Nat) (hn : n = L.length) (hi : i < L.length) (hL : L.length ≤ 2000000) (p : ByteArray) (o : Bool) (x : S52) (hx : x = L[i]) (hw : Ev (fun k => impl_whole.f k L[i].f0 L[i].f1 L[i].f2 L[i].f3 L[i].f4 L[i].f5) (p, o)) :
    Ev (fun k => (impl_whole.f k x.f0 x.f1 x.f2 x.f3 x.f4 x.f5).bind fun bt => (if bt.2 = true then (if (i : Int) ≤ (n : Int) then (if 0 ≤ (wrap64 ((i : Int) + 1)) then (if (wrap64 ((i : Int) + 1)) ≤ (n : Int) then (some ((L.eraseIdx (i : Int).toNat), a0, a1, a2, (0 : Int), false, bt.1, true)) else (none)) else (none)) else (none)) else (some (L, (0 : Int), (0 : Int), (0 : Int), (0 : Int), false, (⟨#[]⟩ : ByteArray), false)))) (bN_ a0 a1 a2 L i p o) := by
  subst hx; subst hn
  refine Ev.bind hw ?_
  have hw1 : wrap64 ((i : Int) + 1) = ((i + 1 : Nat) : Int) := w64 (by omega) (by omega)
  cases o with
  | false => exact Ev.congr (f := fun _ => some (L, 0, 0, 0, 0, false, ⟨#[]⟩, false)) (fun k => by simp) (Ev.now _)
  | true =>
    simp only [if_true, hw1, if_pos (show (i : Int) ≤ (L.length : Int) by omega), if_pos (show (0 : Int) ≤ ((i + 1 : Nat) : Int) by omega), if_pos (show ((i + 1 : Nat) : Int) ≤ (L.length : Int) by omega), Int.toNat_natCast]
    exact Ev.now _
end

/-! ### joinboth3 -/
section
variable {a0 a1 a2 a3 : Int} {a4 : Bool} {a5 : ByteArray} {now : Int}
theorem bD_ (l : List Int) (x : Int) (hl : l.length ≤ 2000000) (o : Bool) (ho : (o = false ∧ ∀ m, m < l.length → tst (fun y => y == x) l m = false) ∨ o = true ∧ ∃ j : Nat, j < l.length ∧ tst (fun y => y == x) l j = true ∧ ∀ m, m < j → tst (fun y => y == x) l m = false) :
    Ev (fun k => slices_Contains_int_int.f k l x) o := by
  unfold slices_Contains_int_int.f
  rcases ho with ⟨rfl, h⟩ | ⟨rfl, j, hj, h1, h2⟩
  · exact Ev.bind (al_ l x hl (-1) (.inl ⟨rfl, h⟩)) (Ev.now _)
  · refine Ev.bind (al_ l x hl (j : Int) (.inr ⟨j, hj, rfl, h1, h2⟩)) ?_
    rw [decide_eq_true (show (j : Int) ≥ 0 by omega)]
    exact Ev.now _
theorem by_ (L : List S52) (i : Nat) (hi : i < L.length) (hf : L[i].f3.length ≤ 2000000) (o : Bool) (ho : (o = false ∧ ∀ m, m < L[i].f3.length → tst (fun y => y == a3) L[i].f3 m = false) ∨ o = true ∧ ∃ j : Nat, j < L[i].f3.length ∧ tst (fun y => y == a3) L[i].f3 j = true ∧ ∀ m, m < j → tst (fun y => y == a3) L[i].f3 m = false) (q : RJ)
    (hq : Ev (fun k => spec_JoinBits.l2 k L (i : Int) o ((L[i].f3.length : Nat) : Int) a0 a1 a2 a3 a4 a5) q) :
    ∀ (d j : Nat) (h : Bool), L[i].f3.length - j = d → j ≤ L[i].f3.length → ((h = false ∧ ∀ m, m < j → tst (fun y => y == a3) L[i].f3 m = false) ∨ h = true ∧ o = true) → Ev (fun k => spec_JoinBits.l2 k L (i : Int) h (j : Int) a0 a1 a2 a3 a4 a5) q := by
  intro d
  induction d with
  | zero =>
    intro j h hd hj hh
    obtain rfl : j = L[i].f3.length := by omega
    have : h = o := by
      rcases hh with ⟨rfl, hn⟩ | ⟨rfl, rfl⟩
      · rcases ho with ⟨rfl, _⟩ | ⟨_, q, hq, h1, _⟩
        · rfl
        · rw [hn q hq] at h1; cases h1
      · rfl
    rw [this]
    exact hq
  | succ d ih =>
    intro j h hd hj hh
    have hjl : j < L[i].f3.length := by omega
    have hw : wrap64 ((j : Int) + 1) = ((j + 1 : Nat) : Int) := w64 (by omega) (by omega)
    have hj7 : ∀ h', ((h' = false ∧ ∀ m, m < j + 1 → tst (fun y => y == a3) L[i].f3 m = false) ∨ h' = true ∧ o = true) → Ev (fun k => spec_JoinBits.j7 k L (i : Int) h' (j : Int) a0 a1 a2 a3 a4 a5) q := fun h' hh' =>
      Ev.step (f := fun k => spec_JoinBits.l2 k L (i : Int) h' ((j + 1 : Nat) : Int) a0 a1 a2 a3 a4 a5) (fun k => by simp only [spec_JoinBits.j7]; rw [hw]) (ih (j + 1) h' (by omega) (by omega) hh')
    cases h with
    | true =>
      have ho' : o = true := by rcases hh with ⟨h, _⟩ | ⟨_, h⟩; cases h; exact h
      refine Ev.step (f := fun k => spec_JoinBits.j7 k L (i : Int) true (j : Int) a0 a1 a2 a3 a4 a5) (fun k => ?_) (hj7 true (.inr ⟨rfl, ho'⟩))
      simp only [spec_JoinBits.l2]
      rw [if_pos (by omega), if_pos (by omega), rdB hi, if_pos (by omega), if_pos (by decide)]
    | false =>
      have hn : ∀ m, m < j → tst (fun y => y == a3) L[i].f3 m = false := by rcases hh with ⟨_, h⟩ | ⟨h, _⟩; exact h; cases h
      refine Ev.step (f := fun k => spec_JoinBits.j7 k L (i : Int) (L[i].f3[j] == a3) (j : Int) a0 a1 a2 a3 a4 a5) (fun k => ?_) (hj7 _ ?_)
      · simp only [spec_JoinBits.l2]
        rw [if_pos (by omega), if_pos (by omega), rdB hi, if_pos (by omega), if_neg (by decide), if_pos (by omega), aM_ hjl]
      · have ht := ah_ (p := fun y => y == a3) hjl
        cases hc : (L[i].f3[j] == a3) with
        | false =>
          refine .inl ⟨rfl, fun m hm => ?_⟩
          by_cases he : m = j
          · rw [he, ht]; exact hc
          · exact hn m (by omega)
        | true =>
          refine .inr ⟨rfl, ?_⟩
          rcases ho with ⟨_, h⟩ | ⟨h, _⟩
          · have := h j hjl
            rw [ht, hc] at this
            cases this
          · exact h
def elJ (a3 : Int) (a4 : Bool) (a5 : ByteArray) (x : S52) : S52 := ⟨x.f0, x.f1, x.f2 ++ [a5], x.f3 ++ [a3], if a4 = true then x.f4 else if x.f4 = 0 then wrap64 (a3 + (a5.size : Int)) else x.f4, x.f5⟩
theorem bS.el {x : S52} (h : bS x) (ha : a5.size ≤ 1050000) : bOk (elJ a3 a4 a5 x) := by
  refine ⟨?_, ?_, fun s hs => ?_⟩
  · show (x.f2 ++ [a5]).length ≤ _; rw [List.length_append, List.length_singleton]; have := h.1; omega
  · show (x.f3 ++ [a3]).length ≤ _; rw [List.length_append, List.length_singleton]; have := h.2.1; omega
  · have hs' : s ∈ x.f2 ++ [a5] := hs
    rcases List.mem_append.1 hs' with h1 | h1
    · exact h.2.2 s h1
    · rw [List.mem_singleton.1 h1]; exact ha
def bN (n : Nat) (x : S52) : Prop := x.f2.length ≤ n ∧ x.f3.length ≤ n ∧ ∀ s ∈ x.f2, s.size ≤ 1050000
theorem bN.up {n m : Nat} {x : S52} (h : bN n x) (hm : n ≤ m) : bN m x := ⟨Nat.le_trans h.1 hm, Nat.le_trans h.2.1 hm, h.2.2⟩
theorem bN.el {n : Nat} {x : S52} (h : bN n x) (ha : a5.size ≤ 1050000) : bN (n + 1) (elJ a3 a4 a5 x) := by
  refine ⟨?_, ?_, fun s hs => ?_⟩
  · show (x.f2 ++ [a5]).length ≤ _; rw [List.length_append, List.length_singleton]; have := h.1; omega
  · show (x.f3 ++ [a3]).length ≤ _; rw [List.length_append, List.length_singleton]; have := h.2.1; omega
  · have hs' : s ∈ x.f2 ++ [a5] := hs
    rcases List.mem_append.1 hs' with h1 | h1
    · exact h.2.2 s h1
    · rw [List.mem_singleton.1 h1]; exact ha
theorem cc_ (M : List S52) (i : Nat) (p : ByteArray) (o : Bool) : ∀ x ∈ (bN_ a0 a1 a2 M i p o).1, x ∈ M := by
  unfold bN_
  cases o with
  | false => simp only [Bool.false_eq_true, if_false]; exact fun x h => h
  | true => simp only [if_true]; exact fun x hx => List.mem_of_mem_eraseIdx hx
theorem bC_ (M : List S52) (i : Nat) (p : ByteArray) (o : Bool) (h : o = true → p.size ≤ 9000000000000000000) : (bN_ a0 a1 a2 M i p o).2.2.2.2.2.2.1.size ≤ 9000000000000000000 := by
  unfold bN_
  cases o with
  | false => exact Nat.zero_le _
  | true => exact h rfl
theorem bg_ (L : List S52) (i : Nat) (hi : i < L.length) (hL : L.length ≤ 2000000) (hb : ∀ x ∈ L, bS x) (ha : a5.size ≤ 1050000) :
    ∃ r : RJ, Ev (fun k => impl_JoinBits.j2 k L (i : Int) a0 a1 a2 a3 a4 a5) r ∧ Ev (fun k => spec_JoinBits.j5 k L (i : Int) a0 a1 a2 a3 a4 a5) r ∧ r.1.length ≤ L.length ∧ (∀ x ∈ r.1, bOk x) ∧ (∀ n, (∀ x ∈ L, bN n x) → ∀ x ∈ r.1, bN (n + 1) x) ∧ r.2.2.2.2.2.2.1.size ≤ 9000000000000000000 := by
  have hx := hb _ (List.getElem_mem hi)
  have hf3 : L[i].f3.length ≤ 2000000 := Nat.le_trans hx.2.1 (by omega)
  have hf2 : L[i].f2.length ≤ 2000000 := Nat.le_trans hx.1 (by omega)
  have hfin : ∀ (M : List S52) (p : ByteArray) (o : Bool), M.length = L.length → (∀ x ∈ M, bOk x) → (bN_ a0 a1 a2 M i p o).1.length ≤ L.length ∧ ∀ x ∈ (bN_ a0 a1 a2 M i p o).1, bOk x := by
    intro M p o hM hMb
    unfold bN_
    cases o with
    | false => simp only [Bool.false_eq_true, if_false]; exact ⟨Nat.le_of_eq hM, hMb⟩
    | true => simp only [if_true]; exact ⟨by rw [← hM]; exact List.length_eraseIdx_le _ _, fun x hx => hMb x (List.mem_of_mem_eraseIdx hx)⟩
  have hs5 : ∀ (q : RJ), Ev (fun k => spec_JoinBits.l2 k L (i : Int) false 0 a0 a1 a2 a3 a4 a5) q → Ev (fun k => spec_JoinBits.j5 k L (i : Int) a0 a1 a2 a3 a4 a5) q := fun q hq => Ev.step (fun k => by simp only [spec_JoinBits.j5]) hq
  rcases aw_ (tst (fun y => y == a3) L[i].f3) L[i].f3.length with hno | ⟨j, hj, h1, h2⟩
  · -- a new part
    have hel : elJ a3 a4 a5 L[i] = elJ a3 a4 a5 L[i] := rfl
    obtain ⟨M, hM⟩ : ∃ M, M = L.set i (elJ a3 a4 a5 L[i]) := ⟨_, rfl⟩
    have hMl : M.length = L.length := by rw [hM, List.length_set]
    have hiM : i < M.length := by omega
    have hMi : M[i] = elJ a3 a4 a5 L[i] := by subst hM; exact List.getElem_set_self _
    have hMb : ∀ x ∈ M, bOk x := by
      intro x hx
      rw [hM] at hx
      rcases List.mem_or_eq_of_mem_set hx with h | h
      · exact (hb x h).ok
      · rw [h]; exact bS.el (hb _ (List.getElem_mem hi)) ha
    have hMo : bOk M[i] := hMb _ (List.getElem_mem hiM)
    obtain ⟨p, p', o, w1, w2, w3⟩ := aR_ (a := M[i].f0) (b := M[i].f1) (u := M[i].f5) (X := M[i].f2) (L := M[i].f3) (T := M[i].f4) (by have := hMo.2.1; omega) hMo.2.2
    refine ⟨bN_ a0 a1 a2 M i p o, ?_, hs5 _ (by_ L i hi hf3 false (.inl ⟨rfl, hno⟩) _ ?_ _ 0 false rfl (Nat.zero_le _) (.inl ⟨rfl, fun m hm => absurd hm (Nat.not_lt_zero _)⟩)), (hfin M p o hMl hMb).1, (hfin M p o hMl hMb).2, fun n hn x hx => by
      have hxM := cc_ M i p o x hx
      rw [hM] at hxM
      rcases List.mem_or_eq_of_mem_set hxM with h | h
      · exact (hn x h).up (Nat.le_succ n)
      · rw [h]; exact bN.el (hn _ (List.getElem_mem hi)) ha, bC_ M i p o (fun h => (w3 h).2)⟩
    · -- impl
      refine Ev.step (fun k => by simp only [impl_JoinBits.j2]; rw [if_pos (show (0 : Int) ≤ (i : Int) by omega), if_pos (show (i : Int) < (L.length : Int) by omega), rdB hi]) ?_
      refine Ev.bind (bD_ L[i].f3 a3 hf3 false (.inl ⟨rfl, hno⟩)) ?_
      simp only [Bool.false_eq_true, if_false, if_pos (show L[i].f3.length < 17592186044416 by omega), Option.bind_some, Int.toNat_natCast, cl_ hi, if_pos (show L[i].f2.length < 8796093022208 by omega), List.set_set]
      have h3t : ∀ (N : List S52), N = L.set i ⟨L[i].f0, L[i].f1, L[i].f2 ++ [a5], L[i].f3 ++ [a3], L[i].f4, L[i].f5⟩ → M = N.set i ⟨L[i].f0, L[i].f1, L[i].f2 ++ [a5], L[i].f3 ++ [a3], wrap64 (a3 + (a5.size : Int)), L[i].f5⟩ → Ev (fun k => impl_JoinBits.j3 k N (i : Int) true a0 a1 a2 a3 a4 a5) (bN_ a0 a1 a2 M i p o) := by
        intro N hN hMN
        have hNl : N.length = L.length := by rw [hN, List.length_set]
        have hiN : i < N.length := by omega
        have hNi : rd_T52 N (i : Int) = ⟨L[i].f0, L[i].f1, L[i].f2 ++ [a5], L[i].f3 ++ [a3], L[i].f4, L[i].f5⟩ := by rw [hN]; exact cl_ hi _
        refine Ev.step (fun k => by simp only [impl_JoinBits.j3, if_true]; rw [if_pos (show (0 : Int) ≤ (i : Int) by omega), if_pos (show (i : Int) < (N.length : Int) by omega), hNi, Option.bind_some, Int.toNat_natCast, ← hMN]) ?_
        exact aX_ M i N.length (by omega) hiM (by omega) p o _ (rdB hiM) w1
      have h3f : M = L.set i ⟨L[i].f0, L[i].f1, L[i].f2 ++ [a5], L[i].f3 ++ [a3], L[i].f4, L[i].f5⟩ → Ev (fun k => impl_JoinBits.j3 k (L.set i ⟨L[i].f0, L[i].f1, L[i].f2 ++ [a5], L[i].f3 ++ [a3], L[i].f4, L[i].f5⟩) (i : Int) false a0 a1 a2 a3 a4 a5) (bN_ a0 a1 a2 M i p o) := by
        intro hN
        rw [← hN]
        refine Ev.step (fun k => by simp only [impl_JoinBits.j3, Bool.false_eq_true, if_false]; rw [if_pos (show (0 : Int) ≤ (i : Int) by omega), if_pos (show (i : Int) < (M.length : Int) by omega)]) ?_
        exact aX_ M i M.length rfl hiM (by omega) p o _ (rdB hiM) w1
      cases a4 with
      | true =>
        simp only [if_true]
        exact h3f (by rw [hM]; simp [elJ])
      | false =>
        simp only [Bool.false_eq_true, if_false]
        by_cases h4 : L[i].f4 = 0
        · rw [show (L[i].f4 == 0) = true by simp [h4]]
          refine h3t _ rfl ?_
          rw [hM, List.set_set]
          simp [elJ, h4]
        · rw [show (L[i].f4 == 0) = false by simp [h4]]
          exact h3f (by rw [hM]; simp [elJ, h4])
    · -- spec
      refine Ev.step (fun k => by simp only [spec_JoinBits.l2]; rw [if_pos (show (0 : Int) ≤ (i : Int) by omega), if_pos (show (i : Int) < (L.length : Int) by omega), rdB hi, if_neg (show ¬ ((L[i].f3.length : Nat) : Int) < (L[i].f3.length : Int) by omega), if_neg (by decide)]) ?_
      simp only [if_pos (show L[i].f3.length < 17592186044416 by omega), Option.bind_some, Int.toNat_natCast, cl_ hi, if_pos (show L[i].f2.length < 8796093022208 by omega), List.set_set]
      have he := bu_ (a0 := a0) (a1 := a1) (a2 := a2) (a3 := a3) (a4 := a4) (a5 := a5) M i hiM (by omega) hMb p' o p (fun h => (w3 h).1) w2
      cases a4 with
      | true =>
        simp only [if_true]
        rw [show L.set i ⟨L[i].f0, L[i].f1, L[i].f2 ++ [a5], L[i].f3 ++ [a3], L[i].f4, L[i].f5⟩ = M by rw [hM]; simp [elJ]]
        exact he
      | false =>
        simp only [Bool.false_eq_true, if_false]
        by_cases h4 : L[i].f4 = 0
        · simp only [if_pos h4]
          rw [show L.set i ⟨L[i].f0, L[i].f1, L[i].f2 ++ [a5], L[i].f3 ++ [a3], wrap64 (a3 + (a5.size : Int)), L[i].f5⟩ = M by rw [hM]; simp [elJ, h4]]
          exact he
        · simp only [if_neg h4]
          rw [show L.set i ⟨L[i].f0, L[i].f1, L[i].f2 ++ [a5], L[i].f3 ++ [a3], L[i].f4, L[i].f5⟩ = M by rw [hM]; simp [elJ, h4]]
          exact he
  · have hLb : ∀ x ∈ L, bOk x := fun x hx => (hb x hx).ok
    have hLo := hLb _ (List.getElem_mem hi)
    obtain ⟨p, p', o, w1, w2, w3⟩ := aR_ (a := L[i].f0) (b := L[i].f1) (u := L[i].f5) (X := L[i].f2) (L := L[i].f3) (T := L[i].f4) hf3 hLo.2.2
    refine ⟨bN_ a0 a1 a2 L i p o, ?_, hs5 _ (by_ L i hi hf3 true (.inr ⟨rfl, j, hj, h1, h2⟩) _ ?_ _ 0 false rfl (Nat.zero_le _) (.inl ⟨rfl, fun m hm => absurd hm (Nat.not_lt_zero _)⟩)), (hfin L p o rfl hLb).1, (hfin L p o rfl hLb).2, fun n hn x hx => (hn x (cc_ L i p o x hx)).up (Nat.le_succ n), bC_ L i p o (fun h => (w3 h).2)⟩
    · refine Ev.step (fun k => by simp only [impl_JoinBits.j2]; rw [if_pos (show (0 : Int) ≤ (i : Int) by omega), if_pos (show (i : Int) < (L.length : Int) by omega), rdB hi]) ?_
      refine Ev.bind (bD_ L[i].f3 a3 hf3 true (.inr ⟨rfl, j, hj, h1, h2⟩)) ?_
      simp only [if_true]
      exact aX_ L i L.length rfl hi hL p o _ rfl w1
    · refine Ev.step (f := fun k => spec_JoinBits.j8 k L (i : Int) a0 a1 a2 a3 a4 a5) (fun k => by simp only [spec_JoinBits.l2]; rw [if_pos (show (0 : Int) ≤ (i : Int) by omega), if_pos (show (i : Int) < (L.length : Int) by omega), rdB hi, if_neg (show ¬ ((L[i].f3.length : Nat) : Int) < (L[i].f3.length : Int) by omega), if_pos (by decide)]) ?_
      exact bu_ L i hi hL hLb p' o p (fun h => (w3 h).1) w2
end

/-! ### joinboth4 -/
section
variable {a0 a1 a2 a3 : Int} {a4 : Bool} {a5 : ByteArray} {now : Int}
theorem cL_ {n : Nat} (h : n ≤ 2000000) : (mx 0 (wrap64 ((n : Int) - 3))).toNat = n - 3 := by
  rw [w64 (by omega) (by omega)]
  unfold mx
  split <;> omega
theorem cj_ (l : List S52) (hl : l.length ≤ 1048576) (hb : ∀ x ∈ l, bS x) :
    ∃ r : RJ, Ev (fun k => impl_JoinBits.f k l a0 a1 a2 a3 a4 a5 now) r ∧ Ev (fun k => spec_JoinBits.f k l a0 a1 a2 a3 a4 a5 now) r ∧ r.1.length ≤ l.length + 1 ∧ (∀ x ∈ r.1, bOk x) ∧ (l.length ≤ 3 → r.1.length ≤ 3) ∧ (∀ n, (∀ x ∈ l, bN n x) → ∀ x ∈ r.1, bN (n + 1) x) ∧ r.2.2.2.2.2.2.1.size ≤ 9000000000000000000 := by
  have hcp : ∀ x ∈ l, x.f2.length ≤ 2000000 ∧ x.f3.length ≤ 2000000 := fun x hx => ⟨Nat.le_trans (hb x hx).1 (by omega), Nat.le_trans (hb x hx).2.1 (by omega)⟩
  have c1 := cA_ l (by omega) hcp
  have c2 := bx_ l (by omega) hcp
  have hlo : ∀ x ∈ l, bOk x := fun x hx => (hb x hx).ok
  -- behind the tests
  have hgo : ∀ (v : Bool) (r : RJ), Ev (fun k => impl_JoinBits.j0 k now l v a0 a1 a2 a3 a4 a5) r → Ev (fun k => spec_JoinBits.j0 k now l v a0 a1 a2 a3 a4 a5) r → (v = !(dgB a0 a1 a2 a3 a4 a5 && rng now 0 999999990)) → Ev (fun k => impl_JoinBits.f k l a0 a1 a2 a3 a4 a5 now) r ∧ Ev (fun k => spec_JoinBits.f k l a0 a1 a2 a3 a4 a5 now) r := by
    intro v r h1 h2 hv
    unfold impl_JoinBits.f spec_JoinBits.f
    refine ⟨Ev.bind c1 ?_, Ev.bind c2 ?_⟩
    · simp only [bz_, am_, Option.bind_some]
      cases hd : dgB a0 a1 a2 a3 a4 a5 with
      | false => rw [hd] at hv; simp at hv; subst hv; simpa using h1
      | true => rw [hd] at hv; simp at hv; subst hv; simpa using h1
    · simp only [bt_, cm_, Option.bind_some]
      cases hd : dgB a0 a1 a2 a3 a4 a5 with
      | false => rw [hd] at hv; simp at hv; subst hv; simpa using h2
      | true => rw [hd] at hv; simp at hv; subst hv; simpa using h2
  by_cases hok : (dgB a0 a1 a2 a3 a4 a5 && rng now 0 999999990) = true
  · have hd : dgB a0 a1 a2 a3 a4 a5 = true := by simp at hok; exact hok.1
    have ha5 : a5.size ≤ 1050000 := by have := (aB_ hd).2.2.2.2.2.1.2; have := (aB_ hd).2.2.2.1; omega
    -- whole at once, or a part
    have h01 : ∀ (v : Bool) (r : RJ), Ev (fun k => impl_JoinBits.j1 k now l v a0 a1 a2 a3 a4 a5) r → Ev (fun k => spec_JoinBits.j1 k now l v a0 a1 a2 a3 a4 a5) r → (v = (decide (a3 = 0) && !a4)) → Ev (fun k => impl_JoinBits.f k l a0 a1 a2 a3 a4 a5 now) r ∧ Ev (fun k => spec_JoinBits.f k l a0 a1 a2 a3 a4 a5 now) r := by
      intro v r h1 h2 hv
      refine hgo false r ?_ ?_ (by rw [hok]; rfl)
      · refine Ev.step (f := fun k => impl_JoinBits.j1 k now l v a0 a1 a2 a3 a4 a5) (fun k => ?_) h1
        simp only [impl_JoinBits.j0, Bool.false_eq_true, if_false]
        by_cases h3 : a3 = 0
        · rw [if_pos h3, hv]; simp [h3]
        · rw [if_neg h3, hv]; simp [h3]
      · refine Ev.step (f := fun k => spec_JoinBits.j1 k now l v a0 a1 a2 a3 a4 a5) (fun k => ?_) h2
        simp only [spec_JoinBits.j0, Bool.false_eq_true, if_false]
        by_cases h3 : a3 = 0
        · rw [if_pos h3, hv]; simp [h3]
        · rw [if_neg h3, hv]; simp [h3]
    cases hv : (decide (a3 = 0) && !a4) with
    | true =>
      obtain ⟨e1, e2⟩ := h01 true (l, a0, a1, a2, a3, a4, a5, true) (Ev.step (f := fun _ => some (l, a0, a1, a2, a3, a4, a5, true)) (fun k => by simp only [impl_JoinBits.j1, if_true]) (Ev.now _)) (Ev.step (f := fun _ => some (l, a0, a1, a2, a3, a4, a5, true)) (fun k => by simp only [spec_JoinBits.j1, if_true]) (Ev.now _)) hv.symm
      exact ⟨_, e1, e2, Nat.le_succ _, hlo, fun h => h, fun n hn x hx => (hn x hx).up (Nat.le_succ n), Nat.le_trans ha5 (by omega)⟩
    | false =>
      obtain ⟨b, hbF⟩ := Fnd.ex (bA_ a0 a2) l
      have hi := cK_ l (by omega) a0 a1 a2 a3 a4 a5 b hbF
      have hsp : ∀ (r : RJ), Ev (fun k => if b < 0 then (if l.length < 1759218604441 then spec_JoinBits.l1 k (l ++ [(⟨a0, a2, ([] : List ByteArray), ([] : List Int), 0, wrap64 (now + 10)⟩ : S52)]) a0 a1 a2 a3 a4 a5 else none) else spec_JoinBits.j5 k l b a0 a1 a2 a3 a4 a5) r → Ev (fun k => spec_JoinBits.j1 k now l false a0 a1 a2 a3 a4 a5) r := by
        intro r hr
        refine Ev.step (f := fun k => spec_JoinBits.l0 k now l (-1) ((l.length : Int) - 1) a0 a1 a2 a3 a4 a5) (fun k => by simp only [spec_JoinBits.j1, Bool.false_eq_true, if_false]; rw [w64 (by omega) (by omega)]) ?_
        refine bZ_ l (by omega) r (fun b0 hb0 => ?_) l.length (-1) (Nat.le_refl _) (.inl ⟨rfl, fun m h1 h2 => absurd h2 (by omega)⟩)
        have e := Fnd.uniq hb0 hbF
        subst e
        exact hr
      by_cases hneg : b < 0
      · obtain ⟨z, hz⟩ : ∃ z, z = l ++ [(⟨a0, a2, ([] : List ByteArray), ([] : List Int), 0, wrap64 (now + 10)⟩ : S52)] := ⟨_, rfl⟩
        have hzl : z.length = l.length + 1 := by rw [hz, List.length_append]; rfl
        have hzb : ∀ x ∈ z, bS x := by
          intro x hx
          rw [hz] at hx
          rcases List.mem_append.1 hx with h | h
          · exact hb x h
          · rw [List.mem_singleton.1 h]
            exact ⟨Nat.zero_le _, Nat.zero_le _, fun s hs => by cases hs⟩
        obtain ⟨y, hy⟩ : ∃ y, y = z.drop (z.length - 3) := ⟨_, rfl⟩
        have hyl : y.length = z.length - (z.length - 3) := by rw [hy, List.length_drop]
        obtain ⟨r, t1, t2, t3, t4, t5, t6⟩ := bg_ (a0 := a0) (a1 := a1) (a2 := a2) (a3 := a3) (a4 := a4) (a5 := a5) y (y.length - 1) (by omega) (by omega) (fun x hx => hzb x (by rw [hy] at hx; exact List.mem_of_mem_drop hx)) ha5
        have hyi : (((y.length - 1 : Nat)) : Int) = (y.length : Int) - 1 := by omega
        rw [hyi] at t1 t2
        obtain ⟨e1, e2⟩ := h01 false r (by
          refine Ev.step (f := fun k => (impl_Bits.f k l a0 a1 a2 a3 a4 a5).bind fun t => if t < 0 then impl_JoinBits.j2 k y ((y.length : Int) - 1) a0 a1 a2 a3 a4 a5 else impl_JoinBits.j2 k l t a0 a1 a2 a3 a4 a5) (fun k => ?_) (Ev.bind hi (Ev.congr (f := fun k => impl_JoinBits.j2 k y ((y.length : Int) - 1) a0 a1 a2 a3 a4 a5) (fun k => if_pos hneg) t1))
          simp only [impl_JoinBits.j1, Bool.false_eq_true, if_false, if_pos (show l.length < 1759218604441 by omega), Option.bind_some, ← hz, cL_ (show z.length ≤ 2000000 by omega), ← hy, w64 (x := (y.length : Int) - 1) (by omega) (by omega)]) (hsp r (by
          refine Ev.congr (f := fun k => spec_JoinBits.l1 k z a0 a1 a2 a3 a4 a5) (fun k => by rw [if_pos hneg, if_pos (by omega), hz]) ?_
          refine cr_ r z.length z rfl (by omega) (fun x hx => ⟨Nat.le_trans (hzb x hx).1 (by omega), Nat.le_trans (hzb x hx).2.1 (by omega)⟩) ?_
          rw [← hy]
          exact t2)) hv.symm
        exact ⟨r, e1, e2, by omega, t4, fun _ => by omega, fun n hn => t5 n (fun x hx => by
          rw [hy] at hx
          have hx := List.mem_of_mem_drop hx
          rw [hz] at hx
          rcases List.mem_append.1 hx with h | h
          · exact hn x h
          · rw [List.mem_singleton.1 h]
            exact ⟨Nat.zero_le _, Nat.zero_le _, fun s hs => by cases hs⟩), t6⟩
      · obtain ⟨j, hjl, hbj⟩ : ∃ j : Nat, j < l.length ∧ b = (j : Int) := by
          rcases hbF with ⟨h, _⟩ | ⟨j, _, h1, h2, _⟩
          · omega
          · exact ⟨j, h1, h2⟩
        obtain ⟨r, t1, t2, t3, t4, t5, t6⟩ := bg_ (a0 := a0) (a1 := a1) (a2 := a2) (a3 := a3) (a4 := a4) (a5 := a5) l j hjl (by omega) hb ha5
        rw [← hbj] at t1 t2
        obtain ⟨e1, e2⟩ := h01 false r (by
          refine Ev.step (fun k => by simp only [impl_JoinBits.j1, Bool.false_eq_true, if_false]; rfl) ?_
          refine Ev.bind hi ?_
          exact Ev.congr (f := fun k => impl_JoinBits.j2 k l b a0 a1 a2 a3 a4 a5) (fun k => if_neg hneg) t1) (hsp r (Ev.congr (f := fun k => spec_JoinBits.j5 k l b a0 a1 a2 a3 a4 a5) (fun k => by rw [if_neg hneg]) t2)) hv.symm
        exact ⟨r, e1, e2, by omega, t4, fun _ => by omega, t5, t6⟩
  · have hok' : (dgB a0 a1 a2 a3 a4 a5 && rng now 0 999999990) = false := by simpa using hok
    obtain ⟨e1, e2⟩ := hgo true (l, 0, 0, 0, 0, false, ⟨#[]⟩, false) (Ev.step (f := fun _ => some (l, 0, 0, 0, 0, false, ⟨#[]⟩, false)) (fun k => by simp only [impl_JoinBits.j0, if_true]) (Ev.now _)) (Ev.step (f := fun _ => some (l, 0, 0, 0, 0, false, ⟨#[]⟩, false)) (fun k => by simp only [spec_JoinBits.j0, if_true]) (Ev.now _)) (by rw [hok']; rfl)
    exact ⟨_, e1, e2, Nat.le_succ _, hlo, fun h => h, fun n hn x hx => (hn x hx).up (Nat.le_succ n), Nat.zero_le _⟩
end

/-! ### sum -/
def bl_ (x : Int) : Int := if Int.tmod x 2 = 1 then Go.bits .xor .u32 ((Int.tdiv x 2) % 4294967296) 3558460437 else (Int.tdiv x 2) % 4294967296
def db_ (x : Int) : Int := bl_ (bl_ (bl_ (bl_ (bl_ (bl_ (bl_ (bl_ x)))))))
def bO_ (s : Int) (l : List Int) : Int := l.foldl (fun s b => db_ (Go.bits .xor .u32 s (b % 4294967296))) s
theorem cE_ (a b : Int) : 0 ≤ Go.bits .xor .u32 a b ∧ Go.bits .xor .u32 a b < 4294967296 := by
  simp only [Go.bits]
  rw [IntKind.wrap_u32]
  omega
theorem bK_ (x : Int) : 0 ≤ bl_ x ∧ bl_ x < 4294967296 := by
  unfold bl_
  split
  · exact cE_ _ _
  · omega
theorem bI_ (s : Int) (h : 0 ≤ s ∧ s < 4294967296) (l : List Int) : 0 ≤ bO_ s l ∧ bO_ s l < 4294967296 := by
  unfold bO_
  induction l generalizing s with
  | nil => exact h
  | cons b l ih => exact ih _ (bK_ _)
theorem cf_ (s : ByteArray) (i : Int) {r : Int} (x : Int) (h : Ev (fun k => spec_SumMore.l0 k (db_ x) s (wrap64 (i + 1))) r) : Ev (fun k => spec_SumMore.l1 k x s i 0) r := by
  have step : ∀ (j : Int) (x : Int), 0 ≤ j → j < 8 → Ev (fun k => spec_SumMore.l1 k (bl_ x) s i (j + 1)) r → Ev (fun k => spec_SumMore.l1 k x s i j) r := by
    intro j x h0 h1 h
    refine Ev.step (fun k => ?_) h
    simp only [spec_SumMore.l1]
    rw [if_pos h1, w64 (x := j + 1) (by omega) (by omega)]
    unfold bl_
    split <;> rfl
  refine step 0 _ (by omega) (by omega) (step 1 _ (by omega) (by omega) (step 2 _ (by omega) (by omega) (step 3 _ (by omega) (by omega) (step 4 _ (by omega) (by omega) (step 5 _ (by omega) (by omega) (step 6 _ (by omega) (by omega) (step 7 _ (by omega) (by omega) ?_)))))))
  refine Ev.step (fun k => ?_) h
  simp only [spec_SumMore.l1]
  rw [if_neg (by omega)]
  rfl
theorem aV_ (s : ByteArray) (hs : s.size ≤ 9000000000000000000) : ∀ (d j : Nat) (x : Int), s.size - j = d → j ≤ s.size → Ev (fun k => spec_SumMore.l0 k x s (j : Int)) (bO_ x ((bytesOf s).drop j)) := by
  have hl := bytesOf_length s
  intro d
  induction d with
  | zero =>
    intro j x hd hj
    rw [List.drop_of_length_le (by omega)]
    refine Ev.step (f := fun _ => some x) (fun k => ?_) (Ev.now _)
    simp only [spec_SumMore.l0]
    rw [if_neg (by omega)]
  | succ d ih =>
    intro j x hd hj
    have hjl : j < (bytesOf s).length := by omega
    rw [List.drop_eq_getElem_cons hjl]
    have hb : bt s (j : Int) = (bytesOf s)[j] := by rw [cD_]; unfold rd; rw [List.getD_eq_getElem?_getD, Int.toNat_natCast, List.getElem?_eq_getElem hjl]; rfl
    refine Ev.step (f := fun k => spec_SumMore.l1 k (Go.bits .xor .u32 x ((bytesOf s)[j] % 4294967296)) s (j : Int) 0) (fun k => ?_) ?_
    · simp only [spec_SumMore.l0]
      rw [if_pos (by omega), if_pos (by omega), hb]
    · refine cf_ s _ _ ?_
      rw [w64 (x := (j : Int) + 1) (by omega) (by omega)]
      exact ih (j + 1) _ (by omega) (by omega)
theorem aC_ (x : Int) (s : ByteArray) (hs : s.size ≤ 9000000000000000000) : Ev (fun k => spec_SumMore.f k x s) (bO_ x (bytesOf s)) := aV_ s hs s.size 0 x (by omega) (by omega)
theorem aY_ (s : ByteArray) (hs : s.size ≤ 9000000000000000000) : Ev (fun k => spec_SumOf.f k s) (bO_ 4294967295 (bytesOf s)) := Ev.bind (aC_ _ s hs) (Ev.now _)
theorem ck_ (s : ByteArray) (i : Int) {r : Int} (x : Int) (h : Ev (fun k => impl_SumMore.l0 k (db_ x) s (wrap64 (i + 1))) r) : Ev (fun k => impl_SumMore.l1 k x s i 0) r := by
  have step : ∀ (j : Int) (x : Int), 0 ≤ j → j < 8 → Ev (fun k => impl_SumMore.l1 k (bl_ x) s i (j + 1)) r → Ev (fun k => impl_SumMore.l1 k x s i j) r := by
    intro j x h0 h1 h
    refine Ev.step (fun k => ?_) h
    simp only [impl_SumMore.l1]
    rw [if_pos h1, w64 (x := j + 1) (by omega) (by omega)]
    unfold bl_
    split <;> rfl
  refine step 0 _ (by omega) (by omega) (step 1 _ (by omega) (by omega) (step 2 _ (by omega) (by omega) (step 3 _ (by omega) (by omega) (step 4 _ (by omega) (by omega) (step 5 _ (by omega) (by omega) (step 6 _ (by omega) (by omega) (step 7 _ (by omega) (by omega) ?_)))))))
  refine Ev.step (fun k => ?_) h
  simp only [impl_SumMore.l1]
  rw [if_neg (by omega)]
  rfl
theorem aT_ (s : ByteArray) (hs : s.size ≤ 9000000000000000000) : ∀ (d j : Nat) (x : Int), s.size - j = d → j ≤ s.size → Ev (fun k => impl_SumMore.l0 k x s (j : Int)) (bO_ x ((bytesOf s).drop j)) := by
  have hl := bytesOf_length s
  intro d
  induction d with
  | zero =>
    intro j x hd hj
    rw [List.drop_of_length_le (by omega)]
    refine Ev.step (f := fun _ => some x) (fun k => ?_) (Ev.now _)
    simp only [impl_SumMore.l0]
    rw [if_neg (by omega)]
  | succ d ih =>
    intro j x hd hj
    have hjl : j < (bytesOf s).length := by omega
    rw [List.drop_eq_getElem_cons hjl]
    have hb : bt s (j : Int) = (bytesOf s)[j] := by rw [cD_]; unfold rd; rw [List.getD_eq_getElem?_getD, Int.toNat_natCast, List.getElem?_eq_getElem hjl]; rfl
    refine Ev.step (f := fun k => impl_SumMore.l1 k (Go.bits .xor .u32 x ((bytesOf s)[j] % 4294967296)) s (j : Int) 0) (fun k => ?_) ?_
    · simp only [impl_SumMore.l0]
      rw [if_pos (by omega), if_pos (by omega), hb]
    · refine ck_ s _ _ ?_
      rw [w64 (x := (j : Int) + 1) (by omega) (by omega)]
      exact ih (j + 1) _ (by omega) (by omega)
theorem aD_ (x : Int) (s : ByteArray) (hs : s.size ≤ 9000000000000000000) : Ev (fun k => impl_SumMore.f k x s) (bO_ x (bytesOf s)) := aT_ s hs s.size 0 x (by omega) (by omega)
theorem bc_ (s : ByteArray) (hs : s.size ≤ 9000000000000000000) : Ev (fun k => impl_SumOf.f k s) (bO_ 4294967295 (bytesOf s)) := Ev.bind (aD_ _ s hs) (Ev.now _)

/-! ### sealed -/
def cG_ (x : Int) : ByteArray := strOfNums [x / 16777216 % 256, x / 65536 % 256, x / 256 % 256, x % 256]
def cy_ (s : ByteArray) : ByteArray := cG_ (bO_ 4294967295 (bytesOf s))
theorem bW_ (x : Int) : (cG_ x).size = 4 := by unfold cG_; rw [strOfNums_size]; rfl
theorem bf_ (x : Int) : ∀ k, 5 < k → impl_highFirst.f k x 4 = some (cG_ x) := by
  intro k hk
  obtain ⟨k, rfl⟩ : ∃ m, k = m + 5 := ⟨k - 5, by omega⟩
  unfold impl_highFirst.f
  rw [if_pos (by omega), if_pos (by decide), w64 (by omega) (by omega)]
  have h3 : List.replicate (4 : Int).toNat (0 : Int) = [0, 0, 0, 0] := rfl
  rw [h3]
  simp only [impl_highFirst.l0, cv_]
  rw [if_pos (by omega), if_pos (by omega), if_pos (by simp), w64 (x := (4 - 1 : Int) - 1) (by omega) (by omega)]
  rw [if_pos (by omega), if_pos (by omega), if_pos (by simp), w64 (x := (4 - 1 : Int) - 1 - 1) (by omega) (by omega)]
  rw [if_pos (by omega), if_pos (by omega), if_pos (by simp), w64 (x := (4 - 1 : Int) - 1 - 1 - 1) (by omega) (by omega)]
  rw [if_pos (by omega), if_pos (by omega), if_pos (by simp), w64 (x := (4 - 1 : Int) - 1 - 1 - 1 - 1) (by omega) (by omega)]
  rw [if_neg (by omega)]
  have e : ((([(0 : Int), 0, 0, 0].set ((4 - 1 : Int)).toNat (x % 256 % 256)).set ((4 - 1 : Int) - 1).toNat (x / 256 % 256 % 256)).set ((4 - 1 : Int) - 1 - 1).toNat (x / 256 / 256 % 256 % 256)).set ((4 - 1 : Int) - 1 - 1 - 1).toNat (x / 256 / 256 / 256 % 256 % 256) = [x / 256 / 256 / 256 % 256 % 256, x / 256 / 256 % 256 % 256, x / 256 % 256 % 256, x % 256 % 256] := rfl
  rw [e]
  unfold cG_
  congr 2
  have h1 : x / 256 / 256 / 256 % 256 % 256 = x / 16777216 % 256 := by omega
  have h2 : x / 256 / 256 % 256 % 256 = x / 65536 % 256 := by omega
  have h4 : x / 256 % 256 % 256 = x / 256 % 256 := by omega
  have h5 : x % 256 % 256 = x % 256 := by omega
  rw [h1, h2, h4, h5]
theorem bG_ (x : Int) : spec_l02Four.f x = some (cG_ x) := rfl
theorem aJ_ (s : ByteArray) : ∃ K, ∀ k, K ≤ k → impl_Sealed.f k s = some (if s.size ≤ 20000 then (s ++ cy_ s, true) else ((⟨#[]⟩ : ByteArray), false)) := by
  by_cases h : s.size ≤ 20000
  · obtain ⟨K, hK⟩ := bc_ s (by omega)
    refine ⟨K + 6, fun k hk => ?_⟩
    have hr := bI_ 4294967295 (by omega) (bytesOf s)
    have hK' : impl_SumOf.f k s = some (bO_ 4294967295 (bytesOf s)) := hK k (by omega)
    unfold impl_Sealed.f
    rw [if_neg (by omega), hK']
    simp only [Option.bind_some]
    rw [w64 (by omega) (by omega), bf_ _ k (by omega)]
    simp only [Option.bind_some]
    rw [if_pos (by rw [bW_]; omega), if_pos h]
    rfl
  · refine ⟨0, fun k _ => ?_⟩
    unfold impl_Sealed.f
    rw [if_pos (by omega), if_neg h]
def unB (s : ByteArray) : ByteArray × Bool :=
  if 4 ≤ s.size ∧ s.size ≤ 20004 ∧ s.extract (s.size - 4) s.size = cy_ (s.extract 0 (s.size - 4)) then (s.extract 0 (s.size - 4), true) else ((⟨#[]⟩ : ByteArray), false)
theorem cp_ (s : ByteArray) (n : Nat) (h : n ≤ s.size) : s.extract 0 n ++ s.extract n s.size = s := by
  rw [ByteArray.extract_append_extract]
  rw [Nat.min_eq_left (Nat.zero_le _), Nat.max_eq_right h, ByteArray.extract_zero_size]
theorem aq_ (s : ByteArray) (hs : s.size ≤ 9000000000000000000) : ∃ K, ∀ k, K ≤ k → spec_Unsealed.f k s = some (unB s) := by
  by_cases h4 : 4 ≤ s.size
  · have e : wrap64 ((s.size : Int) - 4) = ((s.size - 4 : Nat) : Int) := by rw [w64 (by omega) (by omega)]; omega
    by_cases h5 : s.size ≤ 20004
    · have hx : (s.extract 0 (s.size - 4)).size = s.size - 4 := by rw [ByteArray.size_extract]; omega
      obtain ⟨K, hK⟩ := aY_ (s.extract 0 (s.size - 4)) (by omega)
      refine ⟨K, fun k hk => ?_⟩
      have hK' : spec_SumOf.f k (s.extract 0 (s.size - 4)) = some (bO_ 4294967295 (bytesOf (s.extract 0 (s.size - 4)))) := hK k (by omega)
      unfold spec_Unsealed.f
      rw [e, Int.toNat_natCast, if_neg (by omega), if_neg (by omega), if_pos (by omega), if_pos (by omega), hK']
      simp only [Option.bind_some, bG_]
      rw [show cG_ (bO_ 4294967295 (bytesOf (s.extract 0 (s.size - 4)))) = cy_ (s.extract 0 (s.size - 4)) from rfl]
      unfold unB
      by_cases hc : s.extract (s.size - 4) s.size = cy_ (s.extract 0 (s.size - 4))
      · rw [if_pos (af_.2 hc), if_pos ⟨h4, h5, hc⟩]
      · rw [if_neg (fun h => hc (af_.1 h)), if_neg (fun h => hc h.2.2)]
    · refine ⟨0, fun k _ => ?_⟩
      unfold spec_Unsealed.f unB
      rw [e, if_neg (by omega), if_pos (by omega), if_neg (fun h => h5 h.2.1)]
  · refine ⟨0, fun k _ => ?_⟩
    unfold spec_Unsealed.f unB
    rw [w64 (by omega) (by omega), if_pos (by omega), if_neg (fun h => h4 h.1)]
theorem ar_ (s : ByteArray) (hs : s.size ≤ 9000000000000000000) : ∃ K, ∀ k, K ≤ k → impl_Unsealed.f k s = some (unB s) := by
  by_cases h4 : 4 ≤ s.size
  · have e : wrap64 ((s.size : Int) - 4) = ((s.size - 4 : Nat) : Int) := by rw [w64 (by omega) (by omega)]; omega
    have hx : (s.extract 0 (s.size - 4)).size = s.size - 4 := by rw [ByteArray.size_extract]; omega
    obtain ⟨K, hK⟩ := aJ_ (s.extract 0 (s.size - 4))
    refine ⟨K, fun k hk => ?_⟩
    unfold impl_Unsealed.f
    rw [e, Int.toNat_natCast, if_neg (by omega), if_pos (by omega), if_pos (by omega), hK k (by omega)]
    simp only [Option.bind_some]
    by_cases h5 : s.size ≤ 20004
    · rw [if_pos (show (s.extract 0 (s.size - 4)).size ≤ 20000 by omega)]
      have hsp := cp_ s (s.size - 4) (by omega)
      have hiff : (s.extract 0 (s.size - 4) ++ cy_ (s.extract 0 (s.size - 4)) = s) ↔ s.extract (s.size - 4) s.size = cy_ (s.extract 0 (s.size - 4)) := by
        constructor
        · intro h; exact ((ByteArray.append_right_inj _).1 (h.trans hsp.symm)).symm
        · intro h; rw [← h]; exact hsp
      by_cases hc : s.extract (s.size - 4) s.size = cy_ (s.extract 0 (s.size - 4))
      · have hu : unB s = (s.extract 0 (s.size - 4), true) := by unfold unB; exact if_pos ⟨h4, h5, hc⟩
        rw [hu]
        simp [af_, hiff.2 hc]
      · have hu : unB s = ((⟨#[]⟩ : ByteArray), false) := by unfold unB; exact if_neg (fun h => hc h.2.2)
        rw [hu]
        have hn : ¬ (s.extract 0 (s.size - 4) ++ cy_ (s.extract 0 (s.size - 4)) = s) := fun h => hc (hiff.1 h)
        simp [af_, hn]
    · have hu : unB s = ((⟨#[]⟩ : ByteArray), false) := by unfold unB; exact if_neg (fun h => h5 h.2.1)
      rw [if_neg (show ¬ (s.extract 0 (s.size - 4)).size ≤ 20000 by omega), hu]
      simp
  · refine ⟨0, fun k _ => ?_⟩
    unfold impl_Unsealed.f unB
    rw [w64 (by omega) (by omega), if_pos (by omega), if_neg (fun h => h4 h.1)]

/-! ### scan -/
theorem ac_ (s : ByteArray) (a : Int) : impl_scan_one.f s a true = some (0, s, a, true) := by unfold impl_scan_one.f; rw [if_pos rfl]
theorem ak_ (s : ByteArray) (a : Int) (h : a ≥ (s.size : Int)) (b : Bool) : impl_scan_one.f s a b = some (0, s, a, true) := by
  unfold impl_scan_one.f
  by_cases hb : b = true
  · rw [if_pos hb]
  · rw [if_neg hb, if_pos h]
theorem aj_ (s : ByteArray) (a : Int) (h0 : 0 ≤ a) (h : a < (s.size : Int)) (hs : s.size ≤ 9000000000000000000) : impl_scan_one.f s a false = some (bt s a, s, a + 1, false) := by
  unfold impl_scan_one.f
  have hb := bt_range s a
  rw [if_neg (by simp), if_neg (by omega), w64 (x := a + 1) (by omega) (by omega), show a + 1 - 1 = a by omega, w64 (x := a) (by omega) (by omega), if_pos h0, if_pos h, w64 (by omega) (by omega)]
theorem ae_ (s : ByteArray) (a : Int) : impl_scan_rest.f s a true = some ((⟨#[]⟩ : ByteArray), s, a, true) := by unfold impl_scan_rest.f; rw [if_pos rfl]
theorem bk_ (s : ByteArray) (a : Int) (h0 : 0 ≤ a) (h : a ≤ (s.size : Int)) : impl_scan_rest.f s a false = some (s.extract a.toNat s.size, s, (s.size : Int), false) := by
  unfold impl_scan_rest.f
  rw [if_neg (by simp), if_pos h0, if_pos h]
theorem ad_ (s : ByteArray) (a : Int) : impl_scan_done.f s a true = some (false, s, a, true) := by unfold impl_scan_done.f; rw [if_pos rfl]
theorem bn_ (s : ByteArray) (a : Int) : impl_scan_done.f s a false = some ((a == (s.size : Int)), s, a, false) := by unfold impl_scan_done.f; rw [if_neg (by simp)]

/-! ### cell -/
def bq_ (a b c : Int) (s : ByteArray) : Bool := rng a 0 99 && rng b 1 99 && rng c 1 3 && decide (s.size ≤ 60)
theorem aH_ (a b c : Int) (s : ByteArray) : spec_CellOk.f a b c s = some (bq_ a b c s) := by
  unfold spec_CellOk.f bq_
  simp only [cm_, Option.bind_some]
  have h : ((s.size : Int) ≤ 60) ↔ s.size ≤ 60 := by omega
  cases rng a 0 99 <;> cases rng b 1 99 <;> cases rng c 1 3 <;> simp [h]
theorem aI_ (a b c : Int) (s : ByteArray) : impl_CellOk.f a b c s = some (bq_ a b c s) := by
  unfold impl_CellOk.f impl_isAddr.f bq_
  simp only [am_, Option.bind_some]
  have h : ((s.size : Int) ≤ 60) ↔ s.size ≤ 60 := by omega
  cases rng a 0 99 <;> cases rng b 1 99 <;> cases rng c 1 3 <;> simp [h]
def bX_ : Int × Int × Int × ByteArray × Bool := (0, 0, 0, (⟨#[]⟩ : ByteArray), false)
def ab_ (s : ByteArray) : Int × Int × Int × ByteArray × Bool :=
  if (unB s).2 = true ∧ 3 ≤ (unB s).1.size ∧ bq_ (bt (unB s).1 0) (bt (unB s).1 1) (bt (unB s).1 2) ((unB s).1.extract 3 (unB s).1.size) = true then
    (bt (unB s).1 0, bt (unB s).1 1, bt (unB s).1 2, (unB s).1.extract 3 (unB s).1.size, true) else bX_
theorem aZ_ (s : ByteArray) : (unB s).1.size ≤ 20000 := by
  unfold unB
  split
  · rename_i h; simp only [ByteArray.size_extract]; omega
  · simp; decide
theorem au_ (s : ByteArray) (hs : s.size ≤ 9000000000000000000) : ∃ K, ∀ k, K ≤ k → spec_ReadCell.f k s = some (ab_ s) := by
  obtain ⟨K, hK⟩ := aq_ s hs
  refine ⟨K + 1, fun k hk => ?_⟩
  obtain ⟨m, rfl⟩ : ∃ m, k = m + 1 := ⟨k - 1, by omega⟩
  have hsz := aZ_ s
  unfold spec_ReadCell.f ab_ bX_
  rw [hK _ (by omega)]
  simp only [Option.bind_some, spec_ReadCell.j0]
  generalize unB s = u at *
  obtain ⟨t, b⟩ := u
  simp only at hsz ⊢
  cases b
  · simp
  · simp only [if_true, true_and]
    by_cases h3 : 3 ≤ t.size
    · have b0 := bt_range t 0
      have b1 := bt_range t 1
      have b2 := bt_range t 2
      rw [if_neg (by simp; omega), if_pos (by omega), if_pos (by omega), if_pos (by omega), if_pos (by omega), w64 (x := bt t 0) (by omega) (by omega), w64 (x := bt t 1) (by omega) (by omega), w64 (x := bt t 2) (by omega) (by omega), aH_]
      simp only [Option.bind_some]
      by_cases hc : bq_ (bt t 0) (bt t 1) (bt t 2) (t.extract 3 t.size) = true
      · rw [if_pos hc, if_pos ⟨h3, hc⟩]
      · rw [if_neg hc, if_neg (fun h => hc h.2)]
    · rw [if_pos (by simp; omega), if_neg (fun h => h3 h.1)]
theorem as_ (s : ByteArray) (hs : s.size ≤ 9000000000000000000) : ∃ K, ∀ k, K ≤ k → impl_ReadCell.f k s = some (ab_ s) := by
  obtain ⟨K, hK⟩ := ar_ s hs
  refine ⟨K, fun k hk => ?_⟩
  have hsz := aZ_ s
  unfold impl_ReadCell.f ab_ bX_
  rw [hK _ (by omega)]
  simp only [Option.bind_some]
  generalize unB s = u at *
  obtain ⟨t, b⟩ := u
  simp only at hsz ⊢
  cases b
  · simp [ac_, ae_, ad_]
  · simp only [Bool.not_true, true_and]
    by_cases h3 : 3 ≤ t.size
    · rw [aj_ t 0 (by omega) (by omega) (by omega)]
      simp only [Option.bind_some]
      rw [aj_ t (0 + 1) (by omega) (by omega) (by omega)]
      simp only [Option.bind_some]
      rw [aj_ t (0 + 1 + 1) (by omega) (by omega) (by omega)]
      simp only [Option.bind_some]
      rw [bk_ t (0 + 1 + 1 + 1) (by omega) (by omega)]
      simp only [Option.bind_some, bn_, beq_self_eq_true, if_true, aI_]
      have e3 : (0 + 1 + 1 + 1 : Int).toNat = 3 := rfl
      have e1 : (0 + 1 : Int) = 1 := rfl
      have e2 : (0 + 1 + 1 : Int) = 2 := rfl
      rw [e3, e2, e1]
      by_cases hc : bq_ (bt t 0) (bt t 1) (bt t 2) (t.extract 3 t.size) = true
      · rw [if_pos hc, if_pos ⟨h3, hc⟩]
      · rw [if_neg hc, if_neg (fun h => hc h.2)]
    · rw [if_neg (fun h => h3 h.1)]
      by_cases h1 : t.size = 0
      · rw [ak_ t 0 (by omega)]
        simp [ac_, ae_, ad_]
      · rw [aj_ t 0 (by omega) (by omega) (by omega)]
        simp only [Option.bind_some]
        by_cases h2 : t.size = 1
        · rw [ak_ t (0 + 1) (by omega)]
          simp [ac_, ae_, ad_]
        · rw [aj_ t (0 + 1) (by omega) (by omega) (by omega)]
          simp only [Option.bind_some]
          rw [ak_ t (0 + 1 + 1) (by omega)]
          simp [ae_, ad_]

/-! ### sumones -/
set_option maxHeartbeats 4000000 in
theorem ct_ (s : ByteArray) (hs : s.size ≤ 1048576) : ∀ (d : Nat) (i x : Int), 0 ≤ i → i % 2 = 0 → i ≤ s.size + 1 → (s.size : Int) - i ≤ 2 * d → 0 ≤ x → x ≤ 65535 →
    ∃ r, 0 ≤ r ∧ r ≤ 65535 ∧ (∀ k, d < k → spec_SumOnes.l0 k s x i = some r) ∧ (∀ k, 2 * d < k → impl_SumOnes.l0 k s x i = some r) := by
  intro d
  induction d with
  | zero =>
    intro i x hi0 _ hi hd hx0 hx1
    refine ⟨65535 - x, by omega, by omega, fun k hk => ?_, fun k hk => ?_⟩
    · obtain ⟨k, rfl⟩ : ∃ m, k = m + 1 := ⟨k - 1, by omega⟩
      simp (disch := omega) only [spec_SumOnes.l0, bP_, w64]
    · obtain ⟨k, rfl⟩ : ∃ m, k = m + 1 := ⟨k - 1, by omega⟩
      simp (disch := omega) only [impl_SumOnes.l0, bP_, w64]
  | succ d ih =>
    intro i x hi0 he hi hd hx0 hx1
    by_cases hlt : i < (s.size : Int)
    · have hb := bt_range s i
      have hm : Int.tmod i 2 = 0 := by rw [Int.tmod_eq_emod_of_nonneg hi0]; exact he
      have hm1 : ¬ Int.tmod (i + 1) 2 = 0 := by rw [Int.tmod_eq_emod_of_nonneg (by omega)]; omega
      by_cases hl1 : i + 1 < (s.size : Int)
      · have hc := bt_range s (i + 1)
        obtain ⟨r, r0, r1, ih1, ih2⟩ := ih (i + 2) (if x + (256 * bt s i + bt s (i + 1)) > 65535 then x + (256 * bt s i + bt s (i + 1)) - 65535 else x + (256 * bt s i + bt s (i + 1))) (by omega) (by omega) (by omega) (by omega) (by split <;> omega) (by split <;> omega)
        refine ⟨r, r0, r1, fun k hk => ?_, fun k hk => ?_⟩
        · obtain ⟨k, rfl⟩ : ∃ m, k = m + 1 := ⟨k - 1, by omega⟩
          have ih1 := ih1 k (by omega)
          by_cases hg : x + (256 * bt s i + bt s (i + 1)) > 65535
          · rw [if_pos hg] at ih1
            simp (disch := omega) only [spec_SumOnes.l0, ip, bP_, w64]
            exact ih1
          · rw [if_neg hg] at ih1
            simp (disch := omega) only [spec_SumOnes.l0, ip, bP_, w64]
            exact ih1
        · obtain ⟨k, rfl⟩ : ∃ m, k = m + 1 + 1 := ⟨k - 2, by omega⟩
          have ih2 := ih2 k (by omega)
          by_cases hg1 : x + bt s i * 256 > 65535
          · rw [if_pos (by omega)] at ih2
            rw [show i + 2 = i + 1 + 1 by omega, show x + (256 * bt s i + bt s (i + 1)) - 65535 = x + bt s i * 256 - 65535 + bt s (i + 1) by omega] at ih2
            simp (disch := omega) only [impl_SumOnes.l0, ip, bP_, w64]
            exact ih2
          · by_cases hg2 : x + bt s i * 256 + bt s (i + 1) > 65535
            · rw [if_pos (by omega)] at ih2
              rw [show i + 2 = i + 1 + 1 by omega, show x + (256 * bt s i + bt s (i + 1)) - 65535 = x + bt s i * 256 + bt s (i + 1) - 65535 by omega] at ih2
              simp (disch := omega) only [impl_SumOnes.l0, ip, bP_, w64]
              exact ih2
            · rw [if_neg (by omega)] at ih2
              rw [show i + 2 = i + 1 + 1 by omega, show x + (256 * bt s i + bt s (i + 1)) = x + bt s i * 256 + bt s (i + 1) by omega] at ih2
              simp (disch := omega) only [impl_SumOnes.l0, ip, bP_, w64]
              exact ih2
      · by_cases hg : x + 256 * bt s i > 65535
        · refine ⟨65535 - (x + 256 * bt s i - 65535), by omega, by omega, fun k hk => ?_, fun k hk => ?_⟩
          · obtain ⟨k, rfl⟩ : ∃ m, k = m + 1 + 1 := ⟨k - 2, by omega⟩
            simp (disch := omega) only [spec_SumOnes.l0, ip, bP_, w64]
          · obtain ⟨k, rfl⟩ : ∃ m, k = m + 1 + 1 := ⟨k - 2, by omega⟩
            simp (disch := omega) only [impl_SumOnes.l0, ip, bP_, w64, Int.mul_comm (bt s i) 256]
        · refine ⟨65535 - (x + 256 * bt s i), by omega, by omega, fun k hk => ?_, fun k hk => ?_⟩
          · obtain ⟨k, rfl⟩ : ∃ m, k = m + 1 + 1 := ⟨k - 2, by omega⟩
            simp (disch := omega) only [spec_SumOnes.l0, ip, bP_, w64]
          · obtain ⟨k, rfl⟩ : ∃ m, k = m + 1 + 1 := ⟨k - 2, by omega⟩
            simp (disch := omega) only [impl_SumOnes.l0, ip, bP_, w64, Int.mul_comm (bt s i) 256]
    · refine ⟨65535 - x, by omega, by omega, fun k hk => ?_, fun k hk => ?_⟩
      · obtain ⟨k, rfl⟩ : ∃ m, k = m + 1 := ⟨k - 1, by omega⟩
        simp (disch := omega) only [spec_SumOnes.l0, bP_, w64]
      · obtain ⟨k, rfl⟩ : ∃ m, k = m + 1 := ⟨k - 1, by omega⟩
        simp (disch := omega) only [impl_SumOnes.l0, bP_, w64]
theorem bL_ (l : List Int) (hl : l.length ≤ 2000000) : ∀ (d j : Nat) (acc : List Int), l.length - j = d → j ≤ l.length → acc.length = j → ∀ k, d < k → impl_byteTexts.l0 k acc l (l.length : Int) (j : Int) = some (strOfNums (acc ++ (l.drop j).map (· % 256))) := by
  intro d
  induction d with
  | zero =>
    intro j acc hd hj ha k hk
    obtain ⟨k, rfl⟩ : ∃ m, k = m + 1 := ⟨k - 1, by omega⟩
    simp only [impl_byteTexts.l0]
    rw [if_neg (by omega), List.drop_of_length_le (by omega)]
    simp
  | succ d ih =>
    intro j acc hd hj ha k hk
    obtain ⟨k, rfl⟩ : ∃ m, k = m + 1 := ⟨k - 1, by omega⟩
    have hjl : j < l.length := by omega
    have hget : rd l (j : Int) = l[j] := by unfold rd; simp [List.getD_eq_getElem?_getD, List.getElem?_eq_getElem hjl]
    have hdrop : l.drop j = l[j] :: l.drop (j + 1) := List.drop_eq_getElem_cons hjl
    simp only [impl_byteTexts.l0]
    rw [if_pos (by omega), if_pos (by omega), if_pos (by omega), if_pos (by omega), hget, w64 (x := (j : Int) + 1) (by omega) (by omega), hdrop]
    have := ih (j + 1) (acc ++ [l[j] % 256]) (by omega) (by omega) (by rw [List.length_append, List.length_singleton]; omega) k (by omega)
    rw [List.append_assoc] at this
    exact this
theorem ba_ (l : List Int) (hl : l.length ≤ 2000000) : ∀ k, l.length < k → impl_byteTexts.f k l = some (strOfNums (l.map (· % 256))) := fun k hk =>
  bL_ l hl l.length 0 [] (by omega) (by omega) rfl k hk
theorem cw_ (n : Int) (h : 0 ≤ n ∧ n ≤ 65535) : spec_l11Two.f n = some (strOfNums [n / 256 % 256, n % 256]) := by
  unfold spec_l11Two.f
  rw [Int.tdiv_eq_ediv_of_nonneg h.1, Int.tmod_eq_emod_of_nonneg h.1, w64 (by omega) (by omega)]
  rw [show n % 256 % 256 = n % 256 by omega]
theorem cg_ (n : Int) : ∀ k, 2 < k → impl_wordText.f k n = some (strOfNums [n / 256 % 256, n % 256]) := by
  intro k hk
  unfold impl_wordText.f
  rw [ba_ _ (by simp) k (by simpa using hk)]
  simp only [Option.bind_some, List.map_cons, List.map_nil, cv_]
  rw [show n / 256 % 256 % 256 = n / 256 % 256 by omega, show n % 256 % 256 = n % 256 by omega]

/-! ### dgram -/
theorem ax_ (s : ByteArray) : ∃ r, 0 ≤ r ∧ r ≤ 65535 ∧ (s.size ≤ 1048576 → Ev (fun k => spec_SumOnes.f k s) r ∧ Ev (fun k => impl_SumOnes.f k s) r) := by
  by_cases hs : s.size ≤ 1048576
  · obtain ⟨r, h0, h3, h1, h2⟩ := ct_ s hs (s.size + 1) 0 0 (by omega) (by omega) (by omega) (by omega) (by omega) (by omega)
    exact ⟨r, h0, h3, fun _ => ⟨⟨s.size + 2, fun k hk => h1 k (by omega)⟩, ⟨2 * (s.size + 1) + 1, fun k hk => h2 k (by omega)⟩⟩⟩
  · exact ⟨0, by omega, by omega, fun h => absurd h hs⟩
noncomputable def ones (s : ByteArray) : Int := (ax_ s).choose
theorem aP_ (s : ByteArray) : 0 ≤ ones s ∧ ones s ≤ 65535 := ⟨(ax_ s).choose_spec.1, (ax_ s).choose_spec.2.1⟩
theorem cb_ (s : ByteArray) (h : s.size ≤ 1048576) : Ev (fun k => spec_SumOnes.f k s) (ones s) := ((ax_ s).choose_spec.2.2 h).1
theorem bS_ (s : ByteArray) (h : s.size ≤ 1048576) : Ev (fun k => impl_SumOnes.f k s) (ones s) := ((ax_ s).choose_spec.2.2 h).2
def dgH (a b c d : Int) (e : Bool) : ByteArray := strOfNums [a % 256, b % 256] ++ strOfNums [c / 256 % 256, c % 256] ++ strOfNums [wrap64 (Int.tdiv d 8) % 256, if e = true then 1 else 0]
theorem br_ (a b c d : Int) (e : Bool) : (dgH a b c d e).size = 6 := by
  unfold dgH
  simp only [ByteArray.size_append, strOfNums_size, List.length_cons, List.length_nil]
noncomputable def dgT (a b c d : Int) (e : Bool) (s : ByteArray) : ByteArray := dgH a b c d e ++ strOfNums [ones (dgH a b c d e) / 256 % 256, ones (dgH a b c d e) % 256] ++ s
theorem ca_ (a b c d : Int) (e : Bool) (s : ByteArray) (hc : 0 ≤ c ∧ c ≤ 65535) : Ev (fun k => spec_l11Head.f k a b c d e s) (dgH a b c d e) := by
  have key : ∀ m : Int, Ev (fun k => spec_l11Head.j0 k m a b c d e s) (strOfNums [a % 256, b % 256] ++ strOfNums [c / 256 % 256, c % 256] ++ strOfNums [wrap64 (Int.tdiv d 8) % 256, m]) := by
    intro m
    refine Ev.step (f := fun _ => some (strOfNums [a % 256, b % 256] ++ strOfNums [c / 256 % 256, c % 256] ++ strOfNums [wrap64 (Int.tdiv d 8) % 256, m])) (fun k => ?_) (Ev.now _)
    simp only [spec_l11Head.j0, Option.bind_some, cw_ c hc]
    rw [if_pos (by simp only [strOfNums_size, List.length_cons, List.length_nil]; omega), if_pos (by simp only [ByteArray.size_append, strOfNums_size, List.length_cons, List.length_nil]; omega)]
  unfold spec_l11Head.f dgH
  cases e
  · simp only [Bool.false_eq_true, if_false]
    exact key 0
  · simp only [if_true]
    exact key 1
theorem ap_ (a b c d : Int) (e : Bool) (s : ByteArray) : Ev (fun k => spec_DgramText.f k a b c d e s) (if dgB a b c d e s = true then (dgT a b c d e s, true) else ((⟨#[]⟩ : ByteArray), false)) := by
  unfold spec_DgramText.f
  simp only [bt_, Option.bind_some]
  by_cases h : dgB a b c d e s = true
  · obtain ⟨_, _, hc, hd, _, hs, _⟩ := aB_ h
    have h6 := br_ a b c d e
    simp only [if_pos h]
    refine Ev.bind (ca_ a b c d e s hc) ?_
    refine Ev.bind (cb_ _ (by omega)) ?_
    simp only [cw_ _ (aP_ _), Option.bind_some]
    have h1 : (dgH a b c d e).size + (strOfNums [ones (dgH a b c d e) / 256 % 256, ones (dgH a b c d e) % 256]).size ≤ 9223372036854775807 := by rw [h6, strOfNums_size]; simp only [List.length_cons, List.length_nil]; omega
    have h2 : (dgH a b c d e ++ strOfNums [ones (dgH a b c d e) / 256 % 256, ones (dgH a b c d e) % 256]).size + s.size ≤ 9223372036854775807 := by rw [ByteArray.size_append, h6, strOfNums_size]; simp only [List.length_cons, List.length_nil]; omega
    simp only [if_pos h1, if_pos h2]
    exact Ev.now _
  · simp only [if_neg h]
    exact Ev.now _
theorem ag_ (a b c d : Int) (e : Bool) (s : ByteArray) : Ev (fun k => impl_DgramText.f k a b c d e s) (if dgB a b c d e s = true then (dgT a b c d e s, true) else ((⟨#[]⟩ : ByteArray), false)) := by
  unfold impl_DgramText.f
  simp only [bz_, Option.bind_some]
  by_cases h : dgB a b c d e s = true
  · obtain ⟨_, _, hc, hd, _, hs, _⟩ := aB_ h
    have h6 := br_ a b c d e
    simp only [if_pos h]
    refine Ev.bind ⟨3, fun k hk => ba_ [a, b] (by simp) k (by simp only [List.length_cons, List.length_nil]; omega)⟩ ?_
    refine Ev.bind ⟨3, fun k hk => cg_ c k (by omega)⟩ ?_
    have h0 : (strOfNums ([a, b].map (· % 256))).size + (strOfNums [c / 256 % 256, c % 256]).size ≤ 9223372036854775807 := by rw [strOfNums_size, strOfNums_size]; simp
    simp only [if_pos h0]
    have hf : impl_flag.f e = some (if e = true then 1 else 0) := by unfold impl_flag.f; cases e <;> rfl
    simp only [hf, Option.bind_some]
    refine Ev.bind ⟨3, fun k hk => ba_ [wrap64 (Int.tdiv d 8), if e = true then 1 else 0] (by simp) k (by simp only [List.length_cons, List.length_nil]; omega)⟩ ?_
    have e1 : strOfNums ([a, b].map (· % 256)) ++ strOfNums [c / 256 % 256, c % 256] ++ strOfNums ([wrap64 (Int.tdiv d 8), if e = true then (1 : Int) else 0].map (· % 256)) = dgH a b c d e := by
      unfold dgH
      cases e <;> rfl
    have h3 : (strOfNums ([a, b].map (· % 256)) ++ strOfNums [c / 256 % 256, c % 256]).size + (strOfNums ([wrap64 (Int.tdiv d 8), if e = true then (1 : Int) else 0].map (· % 256))).size ≤ 9223372036854775807 := by
      rw [ByteArray.size_append, strOfNums_size, strOfNums_size, strOfNums_size]; simp
    simp only [if_pos h3, e1]
    refine Ev.bind (bS_ _ (by omega)) ?_
    refine Ev.bind ⟨3, fun k hk => cg_ _ k (by omega)⟩ ?_
    have h1 : (dgH a b c d e).size + (strOfNums [ones (dgH a b c d e) / 256 % 256, ones (dgH a b c d e) % 256]).size ≤ 9223372036854775807 := by rw [h6, strOfNums_size]; simp only [List.length_cons, List.length_nil]; omega
    have h2 : (dgH a b c d e ++ strOfNums [ones (dgH a b c d e) / 256 % 256, ones (dgH a b c d e) % 256]).size + s.size ≤ 9223372036854775807 := by rw [ByteArray.size_append, h6, strOfNums_size]; simp only [List.length_cons, List.length_nil]; omega
    simp only [if_pos h1, if_pos h2]
    exact Ev.now _
  · simp only [if_neg h]
    exact Ev.now _

/-! ### scanany -/
-- What a scan has done by the place n: it has come to an end ahead of it, or it stands there.
def At (s : ByteArray) (n : Nat) (a : Int) (c : Bool) : Prop := (c = true ∧ s.size < n) ∨ (c = false ∧ a = (n : Int) ∧ n ≤ s.size)
theorem aS_ (s : ByteArray) (n : Nat) (a : Int) (c : Bool) (h : At s n a c) (hs : s.size ≤ 9000000000000000000) : ∃ v i c', impl_scan_one.f s a c = some (v, s, i, c') ∧ At s (n + 1) i c' ∧ (n + 1 ≤ s.size → v = bt s n) := by
  rcases h with ⟨rfl, h⟩ | ⟨rfl, rfl, h⟩
  · exact ⟨_, _, _, ac_ s a, .inl ⟨rfl, by omega⟩, fun h2 => by omega⟩
  · by_cases h2 : n < s.size
    · exact ⟨_, _, _, aj_ s n (by omega) (by omega) hs, .inr ⟨rfl, by omega, by omega⟩, fun _ => rfl⟩
    · exact ⟨_, _, _, ak_ s n (by omega) false, .inl ⟨rfl, by omega⟩, fun h3 => by omega⟩
theorem cZ_ (x y : Int) (hx : 0 ≤ x ∧ x ≤ 255) (hy : 0 ≤ y ∧ y ≤ 255) : Go.bits .or .i64 (x * 256) y = x * 256 + y := by
  obtain ⟨a, rfl⟩ : ∃ a : Nat, x = a := ⟨x.toNat, by omega⟩
  obtain ⟨c, rfl⟩ : ∃ c : Nat, y = c := ⟨y.toNat, by omega⟩
  have ha : a ≤ 255 := by omega
  have hc : c < 2 ^ 8 := by omega
  have e : ((a : Int) * 256) = ((2 ^ 8 * a : Nat) : Int) := by omega
  rw [e]
  simp only [Go.bits, BitVec.ofInt_natCast, BitVec.toNat_or, BitVec.toNat_ofNat, show IntKind.i64.bits = 64 from rfl]
  rw [Nat.mod_eq_of_lt (by omega), Nat.mod_eq_of_lt (by omega), ← Nat.two_pow_add_eq_or_of_lt hc, IntKind.wrap_i64]
  omega
theorem bU_ (s : ByteArray) (n : Nat) (a : Int) (c : Bool) (h : At s n a c) (hs : s.size ≤ 9000000000000000000) : ∃ v i c', impl_scan_word.f s a c = some (v, s, i, c') ∧ At s (n + 2) i c' ∧ (n + 2 ≤ s.size → v = bt s n * 256 + bt s (n + 1 : Nat)) := by
  obtain ⟨v, i, c1, e, h1, q1⟩ := aS_ s n a c h hs
  obtain ⟨v2, i2, c2, e2, h2, q2⟩ := aS_ s (n + 1) i c1 h1 hs
  unfold impl_scan_word.f
  rw [e]
  simp only [Option.bind_some]
  rw [e2]
  simp only [Option.bind_some]
  refine ⟨_, _, _, rfl, h2, fun h3 => ?_⟩
  have b0 := bt_range s n
  have b1 := bt_range s ((n + 1 : Nat) : Int)
  rw [q1 (by omega), q2 (by omega), w64 (by omega) (by omega), cZ_ _ _ b0 b1]

/-! ### readdgram -/
theorem cV_ (a b c d : Int) (e : Bool) (s : ByteArray) : bytesOf (dgT a b c d e s) = [a % 256, b % 256, c / 256 % 256, c % 256, wrap64 (Int.tdiv d 8) % 256, if e = true then 1 else 0, ones (dgH a b c d e) / 256 % 256, ones (dgH a b c d e) % 256] ++ bytesOf s := by
  have ho := aP_ (dgH a b c d e)
  have hH : bytesOf (dgH a b c d e) = [a % 256, b % 256, c / 256 % 256, c % 256, wrap64 (Int.tdiv d 8) % 256, if e = true then 1 else 0] := by
    unfold dgH
    rw [bw_, bw_, bv_ (by intro x hx; simp at hx; omega), bv_ (by intro x hx; simp at hx; omega), bv_ (by intro x hx; simp at hx; rcases hx with rfl | rfl; (omega); (cases e <;> simp))]
    rfl
  unfold dgT
  rw [bw_, bw_, hH, bv_ (by intro x hx; simp at hx; omega)]
  rfl
def bQ_ : Int × Int × Int × Int × Bool × ByteArray × Bool := (0, 0, 0, 0, false, (⟨#[]⟩ : ByteArray), false)
open Classical in
noncomputable def readDgB (s : ByteArray) : Int × Int × Int × Int × Bool × ByteArray × Bool :=
  if 8 ≤ s.size ∧ dgB (bt s 0) (bt s 1) (bt s 2 * 256 + bt s 3) (8 * bt s 4) (bt s 5 == 1) (s.extract 8 s.size) = true ∧ dgT (bt s 0) (bt s 1) (bt s 2 * 256 + bt s 3) (8 * bt s 4) (bt s 5 == 1) (s.extract 8 s.size) = s then
    (bt s 0, bt s 1, bt s 2 * 256 + bt s 3, 8 * bt s 4, bt s 5 == 1, s.extract 8 s.size, true) else bQ_
theorem cB_ {k0 : Int × Int × Int × Int × Bool × ByteArray × Bool} (c : Bool) (t s : ByteArray) :
    (if (if c = true then (t, true) else ((⟨#[]⟩ : ByteArray), false)).2 = true then (if (if c = true then (t, true) else ((⟨#[]⟩ : ByteArray), false)).1.toList = s.toList then some k0 else some bQ_) else some bQ_) = if c = true ∧ t = s then some k0 else some bQ_ := by
  cases c
  · simp
  · simp [af_]
theorem an_ (s : ByteArray) (hs : s.size ≤ 1048576) : Ev (fun k => impl_ReadDgram.f k s) (readDgB s) := by
  obtain ⟨v0, i0, c0, e0, p0, q0⟩ := aS_ s 0 0 false (.inr ⟨rfl, rfl, by omega⟩) (by omega)
  obtain ⟨v1, i1, c1, e1, p1, q1⟩ := aS_ s 1 i0 c0 p0 (by omega)
  obtain ⟨v2, i2, c2, e2, p2, q2⟩ := bU_ s 2 i1 c1 p1 (by omega)
  obtain ⟨v3, i3, c3, e3, p3, q3⟩ := aS_ s 4 i2 c2 p2 (by omega)
  obtain ⟨v4, i4, c4, e4, p4, q4⟩ := aS_ s 5 i3 c3 p3 (by omega)
  obtain ⟨v5, i5, c5, e5, p5, q5⟩ := bU_ s 6 i4 c4 p4 (by omega)
  unfold impl_ReadDgram.f
  rw [e0]
  simp only [Option.bind_some]
  rw [e1]
  simp only [Option.bind_some]
  rw [e2]
  simp only [Option.bind_some]
  rw [e3]
  simp only [Option.bind_some]
  rw [e4]
  simp only [Option.bind_some]
  rw [e5]
  simp only [Option.bind_some]
  rcases p5 with ⟨rfl, h8⟩ | ⟨rfl, rfl, h8⟩
  · rw [ae_]
    simp only [Option.bind_some]
    refine Ev.bind (ag_ _ _ _ _ _ _) ?_
    rw [ad_]
    simp only [Option.bind_some, Bool.false_eq_true, if_false]
    have : readDgB s = bQ_ := by
      unfold readDgB
      exact if_neg (fun h => by have := h.1; omega)
    rw [this]
    exact Ev.step (f := fun _ => some bQ_) (fun k => by simp only [impl_ReadDgram.j0, if_true]; rfl) (Ev.now _)
  · rw [bk_ s ((6 + 2 : Nat) : Int) (by omega) (by omega)]
    simp only [Option.bind_some]
    refine Ev.bind (ag_ _ _ _ _ _ _) ?_
    rw [bn_]
    simp only [Option.bind_some, beq_self_eq_true, if_true]
    have b4 := bt_range s 4
    have f0 : v0 = bt s 0 := q0 (by omega)
    have f1 : v1 = bt s 1 := q1 (by omega)
    have f2 : v2 = bt s 2 * 256 + bt s 3 := q2 (by omega)
    have f3 : v3 = bt s 4 := q3 (by omega)
    have f4 : v4 = bt s 5 := q4 (by omega)
    subst f0 f1 f2 f3 f4
    rw [w64 (x := 8 * bt s 4) (by omega) (by omega)]
    have e8 : (((6 + 2 : Nat) : Int)).toNat = 8 := rfl
    rw [e8]
    have key := cB_ (k0 := (bt s 0, bt s 1, bt s 2 * 256 + bt s 3, 8 * bt s 4, bt s 5 == 1, s.extract 8 s.size, true)) (dgB (bt s 0) (bt s 1) (bt s 2 * 256 + bt s 3) (8 * bt s 4) (bt s 5 == 1) (s.extract 8 s.size)) (dgT (bt s 0) (bt s 1) (bt s 2 * 256 + bt s 3) (8 * bt s 4) (bt s 5 == 1) (s.extract 8 s.size)) s
    refine Ev.step (fun k => Eq.trans (by simp only [impl_ReadDgram.j0, if_true, bne_iff_ne, ne_eq, ite_not]; rfl) key) ⟨0, fun k _ => ?_⟩
    unfold readDgB
    by_cases hc : dgB (bt s 0) (bt s 1) (bt s 2 * 256 + bt s 3) (8 * bt s 4) (bt s 5 == 1) (s.extract 8 s.size) = true ∧ dgT (bt s 0) (bt s 1) (bt s 2 * 256 + bt s 3) (8 * bt s 4) (bt s 5 == 1) (s.extract 8 s.size) = s
    · rw [if_pos hc, if_pos ⟨by omega, hc⟩]
    · rw [if_neg hc, if_neg (fun h => hc h.2)]
theorem ao_ (s : ByteArray) (hs : s.size ≤ 1048576) : Ev (fun k => spec_ReadDgram.f k s) (readDgB s) := by
  unfold spec_ReadDgram.f
  by_cases h9 : (s.size : Int) < 9
  · simp only [if_pos h9]
    have : readDgB s = bQ_ := by
      unfold readDgB
      refine if_neg (fun h => ?_)
      have h2 := (aB_ h.2.1).2.2.2.2.2.1
      rw [ByteArray.size_extract] at h2
      omega
    rw [this]
    exact Ev.step (f := fun _ => some bQ_) (fun k => by simp only [spec_ReadDgram.j0, if_true]; rfl) (Ev.now _)
  · simp only [if_neg h9, if_pos (show (5 : Int) < (s.size : Int) by omega)]
    by_cases h5 : bt s 5 > 1
    · have : readDgB s = bQ_ := by
        unfold readDgB
        refine if_neg (fun h => ?_)
        have hb := cV_ (bt s 0) (bt s 1) (bt s 2 * 256 + bt s 3) (8 * bt s 4) (bt s 5 == 1) (s.extract 8 s.size)
        rw [h.2.2] at hb
        have h1 : bt s 5 = if (bt s 5 == 1) = true then 1 else 0 := by
          conv => lhs; rw [cD_, hb]
          rfl
        split at h1 <;> omega
      rw [this]
      exact Ev.step (f := fun _ => some bQ_) (fun k => by simp only [spec_ReadDgram.j0, decide_eq_true h5, if_true]; rfl) (Ev.now _)
    · have b0 := bt_range s 0
      have b1 := bt_range s 1
      have b2 := bt_range s 2
      have b3 := bt_range s 3
      have b4 := bt_range s 4
      refine Ev.step (f := fun k => (spec_DgramText.f k (bt s 0) (bt s 1) (bt s 2 * 256 + bt s 3) (8 * bt s 4) (bt s 5 == 1) (s.extract 8 s.size)).bind fun bt132 => (if bt132.2 = true then (if bt132.1.toList = s.toList then some (bt s 0, bt s 1, bt s 2 * 256 + bt s 3, 8 * bt s 4, bt s 5 == 1, s.extract 8 s.size, true) else some bQ_) else some bQ_)) (fun k => ?_) ?_
      · simp only [spec_ReadDgram.j0, decide_eq_false h5, Bool.false_eq_true, if_false]
        rw [if_pos (by omega), if_pos (by omega), if_pos (by omega), if_pos (by omega), if_pos (by omega), if_pos (by omega), if_pos (by omega)]
        simp only [Int.mul_comm 256]
        simp only [w64 (x := bt s 0) (by omega) (by omega), w64 (x := bt s 1) (by omega) (by omega), w64 (x := bt s 2) (by omega) (by omega), w64 (x := bt s 3) (by omega) (by omega), w64 (x := bt s 4) (by omega) (by omega), w64 (x := bt s 2 * 256) (by omega) (by omega), w64 (x := bt s 2 * 256 + bt s 3) (by omega) (by omega), w64 (x := 8 * bt s 4) (by omega) (by omega)]
        rfl
      · refine Ev.bind (ap_ _ _ _ _ _ _) ?_
        have key := cB_ (k0 := (bt s 0, bt s 1, bt s 2 * 256 + bt s 3, 8 * bt s 4, bt s 5 == 1, s.extract 8 s.size, true)) (dgB (bt s 0) (bt s 1) (bt s 2 * 256 + bt s 3) (8 * bt s 4) (bt s 5 == 1) (s.extract 8 s.size)) (dgT (bt s 0) (bt s 1) (bt s 2 * 256 + bt s 3) (8 * bt s 4) (bt s 5 == 1) (s.extract 8 s.size)) s
        refine ⟨0, fun k _ => key.trans ?_⟩
        unfold readDgB
        by_cases hc : dgB (bt s 0) (bt s 1) (bt s 2 * 256 + bt s 3) (8 * bt s 4) (bt s 5 == 1) (s.extract 8 s.size) = true ∧ dgT (bt s 0) (bt s 1) (bt s 2 * 256 + bt s 3) (8 * bt s 4) (bt s 5 == 1) (s.extract 8 s.size) = s
        · rw [if_pos hc, if_pos ⟨by omega, hc⟩]
        · rw [if_neg hc, if_neg (fun h => hc h.2)]

/-! ### segok -/
def cI_ (n a f : Int) (s : ByteArray) : Bool :=
  rng n 0 65535 && rng a 0 65535 && rng f 0 7 && decide (s.size ≤ 8) && (decide (s.toList = []) || decide (f % 2 = 0)) && (decide (a = 0) || decide (f / 2 % 2 = 1))
theorem ch_ (f : Int) (h : 0 ≤ f ∧ f ≤ 7) : Go.bits .and .i64 f 2 = 2 * (f / 2 % 2) := by
  have : f = 0 ∨ f = 1 ∨ f = 2 ∨ f = 3 ∨ f = 4 ∨ f = 5 ∨ f = 6 ∨ f = 7 := by omega
  rcases this with rfl | rfl | rfl | rfl | rfl | rfl | rfl | rfl <;> decide +kernel
theorem cJ_ (n a f : Int) (s : ByteArray) (h : 0 ≤ f ∧ f ≤ 7) : spec_l12Has.f n a f s 1 = some (decide (f % 2 = 1)) := by
  unfold spec_l12Has.f
  rw [if_neg (by decide), Int.tdiv_one, w64 (by omega) (by omega), Int.tmod_eq_emod_of_nonneg h.1]
  rfl
theorem cH_ (n a f : Int) (s : ByteArray) (h : 0 ≤ f ∧ f ≤ 7) : spec_l12Has.f n a f s 2 = some (decide (f / 2 % 2 = 1)) := by
  unfold spec_l12Has.f
  rw [if_neg (by decide), Int.tdiv_eq_ediv_of_nonneg h.1, w64 (by omega) (by omega), Int.tmod_eq_emod_of_nonneg (by omega)]
  rfl
theorem bb_ (n a f : Int) (s : ByteArray) : ∀ k, 0 < k → spec_SegOk.f k n a f s = some (cI_ n a f s) := by
  intro k hk
  obtain ⟨k, rfl⟩ : ∃ m, k = m + 1 := ⟨k - 1, by omega⟩
  unfold spec_SegOk.f cI_
  simp only [cm_, Option.bind_some, spec_SegOk.j0]
  cases h1 : rng n 0 65535
  · simp
  cases h2 : rng a 0 65535
  · simp
  cases h3 : rng f 0 7
  · simp
  have hf := bp_.1 h3
  simp only [if_true, cJ_ n a f s hf, cH_ n a f s hf, Option.bind_some]
  by_cases h4 : (s.size : Int) > 8
  · have : ¬ s.size ≤ 8 := by omega
    simp [h4, this]
  · have : s.size ≤ 8 := by omega
    have h01 : f % 2 = 0 ∨ f % 2 = 1 := by omega
    by_cases h5 : s.toList = [] <;> by_cases h7 : f / 2 % 2 = 1 <;> by_cases h8 : a = 0 <;> rcases h01 with h6 | h6 <;> simp [h4, this, h5, h6, h7, h8]
theorem aU_ (n a f : Int) (s : ByteArray) : impl_SegOk.f n a f s = some (cI_ n a f s) := by
  unfold impl_SegOk.f impl_isWord.f cI_
  simp only [am_, Option.bind_some]
  cases h1 : rng n 0 65535
  · simp
  cases h2 : rng a 0 65535
  · simp
  cases h3 : rng f 0 7
  · simp
  have hf := bp_.1 h3
  simp only [if_true, dc_, ch_ f hf]
  by_cases h4 : (s.size : Int) > 8
  · have : ¬ s.size ≤ 8 := by omega
    simp [h4, this]
  · have : s.size ≤ 8 := by omega
    have h01 : f % 2 = 0 ∨ f % 2 = 1 := by omega
    have h02 : f / 2 % 2 = 0 ∨ f / 2 % 2 = 1 := by omega
    by_cases h5 : s.toList = [] <;> by_cases h8 : a = 0 <;> rcases h01 with h6 | h6 <;> rcases h02 with h7 | h7 <;> simp [h4, this, h5, h6, h7, h8]

/-! ### readseg -/
theorem cO_ (x y : Int) (hx : 0 ≤ x ∧ x ≤ 255) (hy : 0 ≤ y ∧ y ≤ 255) : Go.bits .or .i64 (x * 256) y = x * 256 + y := by
  obtain ⟨a, rfl⟩ : ∃ a : Nat, x = a := ⟨x.toNat, by omega⟩
  obtain ⟨c, rfl⟩ : ∃ c : Nat, y = c := ⟨y.toNat, by omega⟩
  have ha : a ≤ 255 := by omega
  have hc : c < 2 ^ 8 := by omega
  have e : ((a : Int) * 256) = ((2 ^ 8 * a : Nat) : Int) := by omega
  rw [e]
  simp only [Go.bits, BitVec.ofInt_natCast, BitVec.toNat_or, BitVec.toNat_ofNat, show IntKind.i64.bits = 64 from rfl]
  rw [Nat.mod_eq_of_lt (by omega), Nat.mod_eq_of_lt (by omega), ← Nat.two_pow_add_eq_or_of_lt hc, IntKind.wrap_i64]
  omega
theorem av_ (s : ByteArray) (a : Int) (h0 : 0 ≤ a) (h : a + 1 < (s.size : Int)) (hs : s.size ≤ 9000000000000000000) : impl_scan_word.f s a false = some (bt s a * 256 + bt s (a + 1), s, a + 1 + 1, false) := by
  unfold impl_scan_word.f
  have b0 := bt_range s a
  have b1 := bt_range s (a + 1)
  rw [aj_ s a h0 (by omega) hs]
  simp only [Option.bind_some]
  rw [aj_ s (a + 1) (by omega) h hs]
  simp only [Option.bind_some]
  rw [w64 (by omega) (by omega), cO_ _ _ b0 b1]
theorem bB_ (s : ByteArray) (a : Int) (h0 : 0 ≤ a) (h : (s.size : Int) ≤ a + 1) (c : Bool) (hs : s.size ≤ 9000000000000000000) : ∃ v i, impl_scan_word.f s a c = some (v, s, i, true) := by
  unfold impl_scan_word.f
  cases c
  · by_cases h1 : a < (s.size : Int)
    · rw [aj_ s a h0 h1 hs]
      simp only [Option.bind_some]
      rw [ak_ s (a + 1) (by omega)]
      exact ⟨_, _, rfl⟩
    · rw [ak_ s a (by omega)]
      simp only [Option.bind_some]
      rw [ac_]
      exact ⟨_, _, rfl⟩
  · rw [ac_]
    simp only [Option.bind_some]
    rw [ac_]
    exact ⟨_, _, rfl⟩
theorem ci_ (s : ByteArray) (a : Int) : ∃ v i, impl_scan_word.f s a true = some (v, s, i, true) := by
  unfold impl_scan_word.f
  rw [ac_]
  simp only [Option.bind_some]
  rw [ac_]
  exact ⟨_, _, rfl⟩
def co_ : Int × Int × Int × ByteArray × Bool := (0, 0, 0, (⟨#[]⟩ : ByteArray), false)
def aa_ (s : ByteArray) : Int × Int × Int × ByteArray × Bool :=
  if 5 ≤ s.size ∧ cI_ (bt s 0 * 256 + bt s 1) (bt s 2 * 256 + bt s 3) (bt s 4) (s.extract 5 s.size) = true then (bt s 0 * 256 + bt s 1, bt s 2 * 256 + bt s 3, bt s 4, s.extract 5 s.size, true) else co_
theorem aE_ (s : ByteArray) (hs : s.size ≤ 9000000000000000000) : impl_ReadSeg.f s = some (aa_ s) := by
  unfold impl_ReadSeg.f aa_ co_
  by_cases h5 : 5 ≤ s.size
  · rw [av_ s 0 (by omega) (by omega) hs]
    simp only [Option.bind_some]
    rw [av_ s (0 + 1 + 1) (by omega) (by omega) hs]
    simp only [Option.bind_some]
    rw [aj_ s (0 + 1 + 1 + 1 + 1) (by omega) (by omega) hs]
    simp only [Option.bind_some]
    rw [bk_ s (0 + 1 + 1 + 1 + 1 + 1) (by omega) (by omega)]
    simp only [Option.bind_some, bn_, beq_self_eq_true, if_true, aU_]
    have e5 : (0 + 1 + 1 + 1 + 1 + 1 : Int).toNat = 5 := rfl
    have e4 : (0 + 1 + 1 + 1 + 1 : Int) = 4 := rfl
    have e3 : (0 + 1 + 1 + 1 : Int) = 3 := rfl
    have e2 : (0 + 1 + 1 : Int) = 2 := rfl
    have e1 : (0 + 1 : Int) = 1 := rfl
    rw [e5, e4, e3, e2, e1]
    by_cases hc : cI_ (bt s 0 * 256 + bt s 1) (bt s 2 * 256 + bt s 3) (bt s 4) (s.extract 5 s.size) = true
    · rw [if_pos hc, if_pos ⟨h5, hc⟩]
    · rw [if_neg hc, if_neg (fun h => hc h.2)]
  · rw [if_neg (fun h => h5 h.1)]
    by_cases h2 : (s.size : Int) ≤ 0 + 1
    · obtain ⟨v, i, e⟩ := bB_ s 0 (by omega) h2 false hs
      rw [e]
      simp only [Option.bind_some]
      obtain ⟨v2, i2, e2⟩ := ci_ s i
      rw [e2]
      simp [ac_, ae_, ad_]
    · rw [av_ s 0 (by omega) (by omega) hs]
      simp only [Option.bind_some]
      by_cases h4 : (s.size : Int) ≤ 0 + 1 + 1 + 1
      · obtain ⟨v, i, e⟩ := bB_ s (0 + 1 + 1) (by omega) h4 false hs
        rw [e]
        simp [ac_, ae_, ad_]
      · rw [av_ s (0 + 1 + 1) (by omega) (by omega) hs]
        simp only [Option.bind_some]
        rw [ak_ s (0 + 1 + 1 + 1 + 1) (by omega)]
        simp [ae_, ad_]
theorem az_ (s : ByteArray) (hs : s.size ≤ 9000000000000000000) : ∀ k, 0 < k → spec_ReadSeg.f k s = some (aa_ s) := by
  intro k hk
  unfold spec_ReadSeg.f aa_ co_
  by_cases h5 : 5 ≤ s.size
  · have b0 := bt_range s 0
    have b1 := bt_range s 1
    have b2 := bt_range s 2
    have b3 := bt_range s 3
    have b4 := bt_range s 4
    rw [if_neg (by omega), if_pos (by omega), if_pos (by omega), if_pos (by omega), if_pos (by omega), if_pos (by omega), if_pos (by omega)]
    simp only [w64 (x := bt s 0) (by omega) (by omega), w64 (x := bt s 1) (by omega) (by omega), w64 (x := bt s 2) (by omega) (by omega), w64 (x := bt s 3) (by omega) (by omega), w64 (x := bt s 4) (by omega) (by omega), w64 (x := bt s 0 * 256) (by omega) (by omega), w64 (x := bt s 2 * 256) (by omega) (by omega), w64 (x := bt s 0 * 256 + bt s 1) (by omega) (by omega), w64 (x := bt s 2 * 256 + bt s 3) (by omega) (by omega), Int.mul_comm 256]
    rw [bb_ _ _ _ _ k hk]
    simp only [Option.bind_some]
    by_cases hc : cI_ (bt s 0 * 256 + bt s 1) (bt s 2 * 256 + bt s 3) (bt s 4) (s.extract 5 s.size) = true
    · rw [if_pos hc, if_pos ⟨h5, hc⟩]
    · rw [if_neg hc, if_neg (fun h => hc h.2)]
  · rw [if_pos (by omega), if_neg (fun h => h5 h.1)]

/-! ### FnExactUnwrap -/
theorem bH_ (a b c : Int) (f : ByteArray) : laws_eqSeg.f a b c f a b c f = some true := by
  unfold laws_eqSeg.f
  simp
theorem aW_ (s : ByteArray) : (ab_ s).2.2.2.1.size ≤ 1048576 := by
  have h1 := aZ_ s
  unfold ab_
  split
  · simp only [ByteArray.size_extract]
    omega
  · exact Nat.zero_le _
theorem bE_ {s : ByteArray} (h : (aa_ s).2.2.2.2 = false) : aa_ s = co_ := by
  unfold aa_ at h ⊢
  split at h
  · cases h
  · rename_i hc
    exact if_neg hc
abbrev RU := List S52 × Int × Int × Int × ByteArray × Bool
def cz_ (r : RJ) : RU := if r.2.2.2.2.2.2.2 = true then (r.1, (aa_ r.2.2.2.2.2.2.1).1, (aa_ r.2.2.2.2.2.2.1).2.1, (aa_ r.2.2.2.2.2.2.1).2.2.1, (aa_ r.2.2.2.2.2.2.1).2.2.2.1, (aa_ r.2.2.2.2.2.2.1).2.2.2.2) else (r.1, 0, 0, 0, ⟨#[]⟩, false)
theorem bj_ (l : List S52) (hl : l.length ≤ 1048576) (hb : ∀ x ∈ l, bS x) (s : ByteArray) (hs : s.size ≤ 1048576) (dst now : Int) :
    ∃ r : RU, Ev (fun k => impl_Unwrap.f k l s dst now) r ∧ Ev (fun k => spec_Unwrap.f k l s dst now) r ∧ r.1.length ≤ l.length + 1 ∧ (∀ x ∈ r.1, bOk x) := by
  have hcp : ∀ x ∈ l, x.f2.length ≤ 2000000 ∧ x.f3.length ≤ 2000000 := fun x hx => ⟨Nat.le_trans (hb x hx).1 (by omega), Nat.le_trans (hb x hx).2.1 (by omega)⟩
  have c1 := cA_ l (by omega) hcp
  have c2 := bx_ l (by omega) hcp
  have hlo : ∀ x ∈ l, bOk x := fun x hx => (hb x hx).ok
  obtain ⟨K1, sc⟩ := au_ s (by omega)
  obtain ⟨K2, ic⟩ := as_ s (by omega)
  have sce : Ev (fun k => spec_ReadCell.f k s) (ab_ s) := ⟨K1, sc⟩
  have ice : Ev (fun k => impl_ReadCell.f k s) (ab_ s) := ⟨K2, ic⟩
  have hsz := aW_ s
  obtain ⟨C, hC⟩ : ∃ C, C = ab_ s := ⟨_, rfl⟩
  rw [← hC] at sce ice hsz
  have sde := ao_ C.2.2.2.1 hsz
  have ide := an_ C.2.2.2.1 hsz
  obtain ⟨D, hD⟩ : ∃ D, D = readDgB C.2.2.2.1 := ⟨_, rfl⟩
  rw [← hD] at sde ide
  obtain ⟨r, j1, j2, j3, j4, _, _, j5⟩ := cj_ (a0 := D.1) (a1 := D.2.1) (a2 := D.2.2.1) (a3 := D.2.2.2.1) (a4 := D.2.2.2.2.1) (a5 := D.2.2.2.2.2.1) (now := now) l hl hb
  have hend : ∀ (p : Bool), (cz_ r).1.length ≤ l.length + 1 ∧ ∀ x ∈ (cz_ r).1, bOk x := by
    intro _
    unfold cz_
    split
    · exact ⟨j3, j4⟩
    · exact ⟨j3, j4⟩
  have hno : ((l, 0, 0, 0, ⟨#[]⟩, false) : RU).1.length ≤ l.length + 1 ∧ ∀ x ∈ ((l, 0, 0, 0, ⟨#[]⟩, false) : RU).1, bOk x := ⟨Nat.le_succ _, hlo⟩
  have sN : Ev (fun k => spec_Unwrap.j0 k l now true D.1 D.2.1 D.2.2.1 D.2.2.2.1 D.2.2.2.2.1 D.2.2.2.2.2.1) ((l, 0, 0, 0, ⟨#[]⟩, false) : RU) :=
    Ev.step (f := fun k => (spec_l11CopyBits.f k l).bind fun t => some ((t, 0, 0, 0, ⟨#[]⟩, false) : RU)) (fun k => by simp only [spec_Unwrap.j0, if_true]) (Ev.bind c2 (Ev.now _))
  have iN1 : Ev (fun k => impl_Unwrap.j1 k l now true D.1 D.2.1 D.2.2.1 D.2.2.2.1 D.2.2.2.2.1 D.2.2.2.2.2.1) ((l, 0, 0, 0, ⟨#[]⟩, false) : RU) :=
    Ev.step (f := fun k => (impl_copyBits.f k l).bind fun t => some ((t, 0, 0, 0, ⟨#[]⟩, false) : RU)) (fun k => by simp only [impl_Unwrap.j1, if_true]) (Ev.bind c1 (Ev.now _))
  have iN0 : Ev (fun k => impl_Unwrap.j0 k l dst now true C.1 C.2.1 C.2.2.1 C.2.2.2.1) ((l, 0, 0, 0, ⟨#[]⟩, false) : RU) :=
    Ev.step (f := fun k => (impl_copyBits.f k l).bind fun t => some ((t, 0, 0, 0, ⟨#[]⟩, false) : RU)) (fun k => by simp only [impl_Unwrap.j0, if_true]) (Ev.bind c1 (Ev.now _))
  have iY1 : Ev (fun k => impl_Unwrap.j1 k l now false D.1 D.2.1 D.2.2.1 D.2.2.2.1 D.2.2.2.2.1 D.2.2.2.2.2.1) (cz_ r) := by
    refine Ev.step (fun k => by simp only [impl_Unwrap.j1, Bool.false_eq_true, if_false]; rfl) (Ev.bind j1 ?_)
    unfold cz_
    by_cases ho : r.2.2.2.2.2.2.2 = true
    · simp only [if_pos ho, aE_ _ (show r.2.2.2.2.2.2.1.size ≤ 9000000000000000000 from j5), Option.bind_some]
      exact Ev.now _
    · simp only [if_neg ho]
      exact Ev.now _
  have sY : Ev (fun k => spec_Unwrap.j0 k l now false D.1 D.2.1 D.2.2.1 D.2.2.2.1 D.2.2.2.2.1 D.2.2.2.2.2.1) (cz_ r) := by
    refine Ev.step (fun k => by simp only [spec_Unwrap.j0, Bool.false_eq_true, if_false]; rfl) (Ev.bind j2 ?_)
    unfold cz_
    by_cases ho : r.2.2.2.2.2.2.2 = true
    · simp only [if_pos ho]
      refine Ev.bind (Ev.from_ 1 (fun k hk => az_ _ (show r.2.2.2.2.2.2.1.size ≤ 9000000000000000000 from j5) k (by omega))) ?_
      by_cases hq : (aa_ r.2.2.2.2.2.2.1).2.2.2.2 = true
      · simp only [if_pos hq]
        exact Ev.congr (f := fun _ => some _) (fun k => by rw [hq]) (Ev.now _)
      · simp only [if_neg hq, bE_ (by simpa using hq)]
        exact Ev.now _
    · simp only [if_neg ho]
      exact Ev.now _
  have iJ0 : ∀ (v : RU), Ev (fun k => if D.2.2.2.2.2.2 = true then (impl_Unwrap.j1 k l now (D.2.1 != dst) D.1 D.2.1 D.2.2.1 D.2.2.2.1 D.2.2.2.2.1 D.2.2.2.2.2.1) else (impl_Unwrap.j1 k l now true D.1 D.2.1 D.2.2.1 D.2.2.2.1 D.2.2.2.2.1 D.2.2.2.2.2.1)) v → Ev (fun k => impl_Unwrap.j0 k l dst now false C.1 C.2.1 C.2.2.1 C.2.2.2.1) v := fun v hv =>
    Ev.step (fun k => by simp only [impl_Unwrap.j0, Bool.false_eq_true, if_false]; rfl) (Ev.bind ide hv)
  by_cases h1 : C.2.2.2.2 = true
  · by_cases h2 : C.1 = dst
    · have hb2 : (C.1 != dst) = false := by simp [h2]
      by_cases h3 : D.2.2.2.2.2.2 = true
      · by_cases h4 : D.2.1 = dst
        · have hb4 : (D.2.1 != dst) = false := by simp [h4]
          refine ⟨cz_ r, ?_, ?_, (hend true).1, (hend true).2⟩
          · unfold impl_Unwrap.f
            refine Ev.bind ice ?_
            simp only [if_pos h1, hb2]
            refine iJ0 _ ?_
            simp only [if_pos h3, hb4]
            exact iY1
          · unfold spec_Unwrap.f
            refine Ev.bind sce (Ev.bind sde ?_)
            simp only [if_pos h1, if_pos h3, if_pos h2, hb4]
            exact sY
        · have hb4 : (D.2.1 != dst) = true := by simp [h4]
          refine ⟨_, ?_, ?_, hno.1, hno.2⟩
          · unfold impl_Unwrap.f
            refine Ev.bind ice ?_
            simp only [if_pos h1, hb2]
            refine iJ0 _ ?_
            simp only [if_pos h3, hb4]
            exact iN1
          · unfold spec_Unwrap.f
            refine Ev.bind sce (Ev.bind sde ?_)
            simp only [if_pos h1, if_pos h3, if_pos h2, hb4]
            exact sN
      · refine ⟨_, ?_, ?_, hno.1, hno.2⟩
        · unfold impl_Unwrap.f
          refine Ev.bind ice ?_
          simp only [if_pos h1, hb2]
          refine iJ0 _ ?_
          simp only [if_neg h3]
          exact iN1
        · unfold spec_Unwrap.f
          refine Ev.bind sce (Ev.bind sde ?_)
          simp only [if_pos h1, if_neg h3]
          exact sN
    · have hb2 : (C.1 != dst) = true := by simp [h2]
      refine ⟨_, ?_, ?_, hno.1, hno.2⟩
      · unfold impl_Unwrap.f
        refine Ev.bind ice ?_
        simp only [if_pos h1, hb2]
        exact iN0
      · unfold spec_Unwrap.f
        refine Ev.bind sce (Ev.bind sde ?_)
        by_cases h3 : D.2.2.2.2.2.2 = true
        · simp only [if_pos h1, if_pos h3, if_neg h2]
          exact sN
        · simp only [if_pos h1, if_neg h3]
          exact sN
  · refine ⟨_, ?_, ?_, hno.1, hno.2⟩
    · unfold impl_Unwrap.f
      refine Ev.bind ice ?_
      simp only [if_neg h1]
      exact iN0
    · unfold spec_Unwrap.f
      refine Ev.bind sce (Ev.bind sde ?_)
      simp only [if_neg h1]
      exact sN
theorem FnExactUnwrap : StFnExactUnwrap.Pure := by
  intro l s dst now hl _ _ _
  obtain ⟨h1, h2, h3⟩ := hl
  by_cases hbig : (s.size : Int) > 1048576
  · refine Ev.ex (r := true) ?_
    unfold laws_FnExactUnwrap.f
    simp only [if_pos hbig]
    exact Ev.now _
  obtain ⟨t, ht, hc⟩ := bF_ l (by omega) (fun x hx => by
    obtain ⟨_, _, hS, hI, _⟩ := h3 x hx
    obtain ⟨s1, s2, s3⟩ := hS
    obtain ⟨i1, i2, i3⟩ := hI
    exact ⟨by have : x.f2.length * 16 ≤ 140737488351232 := s2; omega, by have : x.f3.length * 8 ≤ 140737488351232 := i2; omega, s3⟩)
  by_cases hn : t < 0
  · refine Ev.ex (r := true) ?_
    unfold laws_FnExactUnwrap.f
    simp only [if_neg hbig]
    refine Ev.bind ht ?_
    simp only [if_pos hn]
    exact Ev.now _
  · obtain ⟨ll, hb⟩ := hc.resolve_left hn
    have lm : (l.map bR_).length = l.length := List.length_map _
    obtain ⟨⟨g0, g1, g2, g3, g4, g5⟩, eg, es, gl, gb⟩ := bj_ (l.map bR_) (by omega) hb s (by omega) dst now
    have gl' : g0.length ≤ 1048577 := by have : g0.length ≤ (l.map bR_).length + 1 := gl; omega
    have gb' : ∀ x ∈ g0, bOk x := gb
    have hbo : ∀ x ∈ l.map bR_, bOk x := fun x hx => (hb x hx).ok
    obtain ⟨x, lx, _, x0, hxm, _⟩ := ai_ (l.map bR_) 1 hbo (by omega) (by omega) (by omega)
    obtain ⟨m, lg, lgl, m0, hmm, hmh⟩ := ai_ g0 1 gb' gl' (by omega) (by omega)
    have hh := hmh [] (by simp only [List.length_nil]; omega)
    refine Ev.ex (r := true) ?_
    unfold laws_FnExactUnwrap.f
    simp only [if_neg hbig]
    refine Ev.bind ht ?_
    simp only [if_neg hn]
    refine Ev.bind (bM_ l ll hbo) (Ev.bind es (Ev.bind eg (Ev.bind (aO_ g0 (by omega) gb') ?_)))
    simp only [bH_, Option.bind_some]
    refine Ev.bind (aO_ (l.map bR_) (by omega) hbo) ?_
    refine Ev.bind hxm (Ev.bind hmm (Ev.bind (r := true) hh ?_))
    rw [if_pos (by refine ⟨?_, ?_, ?_, ?_, x0, m0, ?_⟩ <;> first | trivial | rfl)]
    exact Ev.now _

end Go.Proofs.Ytjaamflffmhicaa.Pure
