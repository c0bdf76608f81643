/- The pure statement of the law 'FnBits', proved: over numbers, lists and texts alone. No condition. -/
import Derived.Test.YtmknnoeggkgkgaaStFnBits
import Derived.Laws.BitsLemmas
namespace Go.Proofs.Ytmknnoeggkgkgaa.Pure
open Go.RowKit Go.Proofs.Ytmknnoeggkgkgaa.QFnBits Go.Proofs.YtmknnoeggkgkgaaW.PrintWords Go.Proofs.YtmknnoeggkgkgaaW.PrintLast Go.Proofs.YtmknnoeggkgkgaaW.PrintMore Go.Proofs.Ytmknnoeggkgkgaa.StFnBits Go.Proofs.Ytmknnoeggkgkgaa.Opens
set_option linter.unusedVariables false
set_option linter.unusedSimpArgs false

/-! ### base -/
theorem w64 {x : Int} (h0 : -9223372036854775808 ≤ x) (h1 : x ≤ 9223372036854775807) : wrap64 x = x := by unfold wrap64; omega
theorem and_low (x : Int) (i : Nat) (hi : i ≤ 62) : Go.bits .and .i64 x (2 ^ i - 1) = x % 2 ^ i := by
  have hpos : 0 < 2 ^ i := Nat.two_pow_pos i
  have hc : ((2 : Int) ^ i - 1) = ((2 ^ i - 1 : Nat) : Int) := by rw [Int.natCast_sub hpos]; simp
  have h62 : 2 ^ i ≤ 2 ^ 62 := Nat.pow_le_pow_right (by decide) hi
  have hlt : 2 ^ i - 1 < 2 ^ 64 := by omega
  have hd : (2 ^ i : Nat) ∣ 2 ^ 64 := Nat.pow_dvd_pow 2 (by omega)
  rw [hc]
  simp only [Go.bits, BitVec.ofInt_natCast, BitVec.toNat_and, BitVec.toNat_ofNat, BitVec.toNat_ofInt]
  simp only [show IntKind.i64.bits = 64 from rfl]
  rw [Nat.mod_eq_of_lt hlt, Nat.and_two_pow_sub_one_eq_mod]
  have h1 : (((x % ((2 ^ 64 : Nat) : Int)).toNat % 2 ^ i : Nat) : Int) = x % 2 ^ i := by
    rw [Int.natCast_emod, Int.toNat_of_nonneg (Int.emod_nonneg _ (by decide))]
    rw [Int.natCast_pow]
    exact Int.emod_emod_of_dvd _ (by
      have : (((2 ^ i : Nat) : Int)) ∣ ((2 ^ 64 : Nat) : Int) := Int.natCast_dvd_natCast.2 hd
      simpa using this)
  rw [h1]
  have h2 : 0 ≤ x % 2 ^ i := Int.emod_nonneg _ (by
    have : (0 : Int) < 2 ^ i := by exact_mod_cast hpos
    omega)
  have h3 : x % 2 ^ i < 2 ^ i := Int.emod_lt_of_pos _ (by exact_mod_cast hpos)
  have h4 : (2 : Int) ^ i ≤ 2 ^ 62 := by exact_mod_cast h62
  rw [IntKind.wrap_i64]
  omega
theorem and255 (x : Int) : Go.bits .and .i64 x 255 = x % 256 := and_low x 8 (by omega)
theorem Ev.ex {α : Type} {g : Nat → Option α} {r : α} (h : Ev g r) : ∃ k, g k = some r := h.rounds
theorem getD_at {α : Type} {l : List α} {j : Nat} (z : α) (h : j < l.length) : l.getD (j : Int).toNat z = l[j] := by
  simp [List.getD_eq_getElem?_getD, List.getElem?_eq_getElem h]

/-! ### sz -/
theorem rdS_at {l : List ByteArray} {j : Nat} (h : j < l.length) : rdOf ByteArray.empty l (j : Int) = l[j] := by
  unfold rdOf
  rw [List.getD_eq_getElem?_getD, Int.toNat_natCast, List.getElem?_eq_getElem h]
  rfl

/-! ### bits -/
def bOk (x : S82) : Prop := x.f2.length ≤ 1050000 ∧ x.f3.length ≤ 1050000 ∧ ∀ s ∈ x.f2, s.size ≤ 1050000
def bS (x : S82) : Prop := x.f2.length ≤ 1049000 ∧ x.f3.length ≤ 1049000 ∧ ∀ s ∈ x.f2, s.size ≤ 1050000
theorem bS.ok {x : S82} (h : bS x) : bOk x := ⟨Nat.le_trans h.1 (by omega), Nat.le_trans h.2.1 (by omega), h.2.2⟩
theorem rdB {l : List S82} {j : Nat} (h : j < l.length) : rd_T82 l (j : Int) = l[j] := by unfold rd_T82; exact getD_at _ h
theorem cpI_ok (l : List Int) (hl : l.length ≤ 2000000) : impl_copyInts.f l = some l := by
  unfold impl_copyInts.f
  simp only [Option.bind_some, List.length_nil, List.nil_append]
  rw [if_pos (by omega)]
theorem cpB_loop (l : List S82) (hl : l.length ≤ 2000000) (hx : ∀ x ∈ l, x.f2.length ≤ 2000000 ∧ x.f3.length ≤ 2000000) : ∀ (d j : Nat), l.length - j = d → j ≤ l.length → Ev (fun k => impl_copyBits.l0 k (l.take j) l (l.length : Int) (j : Int)) l := by
  intro d
  induction d with
  | zero =>
    intro j hd hj
    rw [List.take_of_length_le (by omega)]
    exact Ev.step (f := fun _ => some l) (fun k => by simp only [impl_copyBits.l0]; rw [if_neg (by omega)]) (Ev.now _)
  | succ d ih =>
    intro j hd hj
    have hjl : j < l.length := by omega
    obtain ⟨h1, h2⟩ := hx _ (List.getElem_mem hjl)
    refine Ev.step (fun k => rfl) ?_
    have hlen : (l.take j).length < 1759218604441 := by rw [List.length_take]; omega
    simp only [impl_copyBits.l0, if_pos (show (j : Int) < (l.length : Int) by omega), if_pos (show (0 : Int) ≤ (j : Int) by omega), rdB hjl, Option.bind_some, List.length_nil, List.nil_append, if_pos (show 0 + l[j].f2.length < 8796093022208 by omega), cpI_ok l[j].f3 h2, if_pos hlen, w64 (x := (j : Int) + 1) (by omega) (by omega)]
    have := ih (j + 1) (by omega) (by omega)
    rw [List.take_succ_eq_append_getElem hjl] at this
    exact this
theorem cpB_ok (l : List S82) (hl : l.length ≤ 2000000) (hx : ∀ x ∈ l, x.f2.length ≤ 2000000 ∧ x.f3.length ≤ 2000000) : Ev (fun k => impl_copyBits.f k l) l := by
  have := cpB_loop l hl hx l.length 0 (by omega) (by omega)
  rw [List.take_zero] at this
  exact this
theorem cqB_loop (l : List S82) (hl : l.length ≤ 2000000) (hx : ∀ x ∈ l, x.f2.length ≤ 2000000 ∧ x.f3.length ≤ 2000000) : ∀ (d j : Nat), l.length - j = d → j ≤ l.length → Ev (fun k => spec_l11CopyBits.l0 k l (l.take j) (j : Int)) l := by
  intro d
  induction d with
  | zero =>
    intro j hd hj
    rw [List.take_of_length_le (by omega)]
    exact Ev.step (f := fun _ => some l) (fun k => by simp only [spec_l11CopyBits.l0]; rw [if_neg (by omega)]) (Ev.now _)
  | succ d ih =>
    intro j hd hj
    have hjl : j < l.length := by omega
    obtain ⟨h1, h2⟩ := hx _ (List.getElem_mem hjl)
    refine Ev.step (fun k => rfl) ?_
    have hlen : (l.take j).length < 1759218604441 := by rw [List.length_take]; omega
    simp only [spec_l11CopyBits.l0, if_pos (show (j : Int) < (l.length : Int) by omega), if_pos (show (0 : Int) ≤ (j : Int) by omega), rdB hjl, Option.bind_some, List.length_nil, List.nil_append, if_pos (show 0 + l[j].f2.length < 8796093022208 by omega), if_pos (show 0 + l[j].f3.length < 17592186044416 by omega), if_pos hlen, w64 (x := (j : Int) + 1) (by omega) (by omega)]
    have := ih (j + 1) (by omega) (by omega)
    rw [List.take_succ_eq_append_getElem hjl] at this
    exact this
theorem cqB_ok (l : List S82) (hl : l.length ≤ 2000000) (hx : ∀ x ∈ l, x.f2.length ≤ 2000000 ∧ x.f3.length ≤ 2000000) : Ev (fun k => spec_l11CopyBits.f k l) l := by
  have := cqB_loop l hl hx l.length 0 (by omega) (by omega)
  rw [List.take_zero] at this
  exact this
theorem tidy_impl (l : List S82) (a : Int) (hl : l.length ≤ 2000000) (hx : ∀ x ∈ l, x.f2.length ≤ 2000000 ∧ x.f3.length ≤ 2000000) : Ev (fun k => impl_TidyBits.f k l a) (l.filter fun b => !late a b) := by
  unfold impl_TidyBits.f
  exact Ev.bind (cpB_ok l hl hx) (Ev.now _)

/-! ### in -/
def rng (a b c : Int) : Bool := decide (b ≤ a) && decide (a ≤ c)
theorem rng_iff {a b c : Int} : rng a b c = true ↔ b ≤ a ∧ a ≤ c := by simp [rng]
theorem in_eq (a b c : Int) : spec_l01In.f a b c = some (rng a b c) := by
  unfold spec_l01In.f rng
  by_cases h : b ≤ a
  · rw [if_pos h]; simp [h]
  · rw [if_neg h]; simp [h]
theorem within_eq (a b c : Int) : impl_within.f a b c = some (rng a b c) := by
  unfold impl_within.f rng
  by_cases h : b ≤ a
  · rw [if_pos h]; simp [h]
  · rw [if_neg h]; simp [h]

/-! ### dgok -/
def dgB (a b c d : Int) (e : Bool) (s : ByteArray) : Bool :=
  rng a 1 99 && (rng b 1 99 && (rng c 0 65535 && (rng d 0 160 && (decide (Int.tmod d 8 = 0) && (rng (s.size : Int) 1 (wrap64 (160 - d)) && (!e || ((s.size : Int) % 8 == 0)))))))
theorem spec_dgB (a b c d : Int) (e : Bool) (s : ByteArray) : spec_DgramOk.f a b c d e s = some (dgB a b c d e s) := by
  unfold spec_DgramOk.f dgB
  simp only [in_eq, Option.bind_some]
  by_cases h8 : Int.tmod d 8 = 0
  · simp only [if_pos h8]
    cases rng a 1 99 <;> cases rng b 1 99 <;> cases rng c 0 65535 <;> cases rng d 0 160 <;> cases rng (s.size : Int) 1 (wrap64 (160 - d)) <;> cases e <;> simp [h8]
  · simp only [if_neg h8]
    cases rng a 1 99 <;> cases rng b 1 99 <;> cases rng c 0 65535 <;> cases rng d 0 160 <;> simp [h8]
theorem impl_dgB (a b c d : Int) (e : Bool) (s : ByteArray) : impl_DgramOk.f a b c d e s = some (dgB a b c d e s) := by
  unfold impl_DgramOk.f impl_isAddr.f impl_isWord.f dgB
  simp only [within_eq, Option.bind_some]
  by_cases h8 : Int.tmod d 8 = 0
  · simp only [if_pos h8]
    cases rng a 1 99 <;> cases rng b 1 99 <;> cases rng c 0 65535 <;> cases rng d 0 160 <;> cases rng (s.size : Int) 1 (wrap64 (160 - d)) <;> cases e <;> simp [h8]
  · simp only [if_neg h8]
    cases rng a 1 99 <;> cases rng b 1 99 <;> cases rng c 0 65535 <;> cases rng d 0 160 <;> simp [h8]
theorem dgB_iff {a b c d : Int} {e : Bool} {s : ByteArray} (h : dgB a b c d e s = true) : (1 ≤ a ∧ a ≤ 99) ∧ (1 ≤ b ∧ b ≤ 99) ∧ (0 ≤ c ∧ c ≤ 65535) ∧ (0 ≤ d ∧ d ≤ 160) ∧ d % 8 = 0 ∧ (1 ≤ (s.size : Int) ∧ (s.size : Int) ≤ 160 - d) ∧ (e = true → (s.size : Int) % 8 = 0) := by
  unfold dgB at h
  simp only [Bool.and_eq_true, decide_eq_true_eq, rng_iff, Bool.or_eq_true, Bool.not_eq_true', beq_iff_eq] at h
  obtain ⟨ha, hb, hc, hd, h8, hs, he⟩ := h
  rw [w64 (by omega) (by omega)] at hs
  rw [Int.tmod_eq_emod_of_nonneg hd.1] at h8
  refine ⟨ha, hb, hc, hd, h8, hs, fun h => ?_⟩
  rcases he with he | he
  · rw [h] at he; cases he
  · exact he

/-! ### bl -/
theorem bl_inj {s t : ByteArray} (h : bytesOf s = bytesOf t) : s = t := by
  unfold bytesOf at h
  have h2 : s.data.toList = t.data.toList := by
    apply List.ext_getElem?
    intro i
    have h3 := congrArg (fun l => l[i]?) h
    simp only [List.getElem?_map] at h3
    cases h4 : s.data.toList[i]? <;> cases h5 : t.data.toList[i]? <;> rw [h4, h5] at h3 <;> simp at h3 ⊢
    exact UInt8.toNat_inj.1 (by omega)
  exact ByteArray.ext (by rw [← Array.toArray_toList (xs := s.data), h2])
theorem bl_empty : bytesOf (⟨#[]⟩ : ByteArray) = [] := rfl
theorem toList_nil {s : ByteArray} : s.toList = ([] : List UInt8) ↔ bytesOf s = [] := by
  rw [ByteArray.toList_eq]
  unfold bytesOf
  simp

/-! ### joinboth -/
/-! impl.JoinBits and spec.JoinBits answer alike -/
theorem rdi_at {l : List Int} {j : Nat} (h : j < l.length) : rd l (j : Int) = l[j] := by unfold rd; exact getD_at _ h
theorem first_at (p : Nat → Bool) : ∀ n, (∀ m, m < n → p m = false) ∨ ∃ j, j < n ∧ p j = true ∧ ∀ m, m < j → p m = false
  | 0 => .inl (fun m hm => absurd hm (Nat.not_lt_zero _))
  | n + 1 => by
    rcases first_at p n with h | ⟨j, hj, h1, h2⟩
    · cases hp : p n with
      | true => exact .inr ⟨n, Nat.lt_succ_self _, hp, h⟩
      | false =>
        refine .inl (fun m hm => ?_)
        by_cases he : m = n
        · rw [he]; exact hp
        · exact h m (by omega)
    · exact .inr ⟨j, by omega, h1, h2⟩
def tst {α : Type} (p : α → Bool) (l : List α) (j : Nat) : Bool := match l[j]? with | some x => p x | none => false
theorem tst_at {α : Type} {p : α → Bool} {l : List α} {j : Nat} (h : j < l.length) : tst p l j = p l[j] := by unfold tst; rw [List.getElem?_eq_getElem h]
theorem idx_both (l : List Int) (x : Int) (hl : l.length ≤ 2000000) (b : Int) (hb : (b = -1 ∧ ∀ m, m < l.length → tst (fun y => y == x) l m = false) ∨ ∃ j : Nat, j < l.length ∧ b = (j : Int) ∧ tst (fun y => y == x) l j = true ∧ ∀ m, m < j → tst (fun y => y == x) l m = false) :
    Ev (fun k => slices_Index_int_int.f k l x) b := by
  have key : ∀ (d j : Nat), l.length - j = d → j ≤ l.length → (∀ m, m < j → tst (fun y => y == x) l m = false) → Ev (fun k => slices_Index_int_int.l0 k l x (l.length : Int) (j : Int)) b := by
    intro d
    induction d with
    | zero =>
      intro j hd hj hn
      rcases hb with ⟨rfl, _⟩ | ⟨q, hq, _, h1, _⟩
      · exact Ev.step (f := fun _ => some (-1)) (fun k => by simp only [slices_Index_int_int.l0]; rw [if_neg (by omega)]) (Ev.now _)
      · rw [hn q (by omega)] at h1; cases h1
    | succ d ih =>
      intro j hd hj hn
      have hjl : j < l.length := by omega
      by_cases h : x = l[j]
      · have ht : tst (fun y => y == x) l j = true := by rw [tst_at hjl]; simp [← h]
        have hbj : b = (j : Int) := by
          rcases hb with ⟨_, h2⟩ | ⟨q, hq, hbq, h1, h2⟩
          · rw [h2 j hjl] at ht; cases ht
          · rcases Nat.lt_trichotomy q j with h3 | h3 | h3
            · rw [hn q h3] at h1; cases h1
            · rw [hbq, h3]
            · rw [h2 j h3] at ht; cases ht
        rw [hbj]
        exact Ev.step (f := fun _ => some (j : Int)) (fun k => by simp only [slices_Index_int_int.l0]; rw [if_pos (by omega), if_pos (by omega), if_pos (by omega), rdi_at hjl, if_pos h]) (Ev.now _)
      · have ht : tst (fun y => y == x) l j = false := by rw [tst_at hjl]; simp; exact fun e => h e.symm
        refine Ev.step (f := fun k => slices_Index_int_int.l0 k l x (l.length : Int) ((j + 1 : Nat) : Int)) (fun k => ?_) (ih (j + 1) (by omega) (by omega) (fun m hm => by
          by_cases he : m = j
          · rw [he]; exact ht
          · exact hn m (by omega)))
        simp only [slices_Index_int_int.l0]
        rw [if_pos (by omega), if_pos (by omega), if_pos (by omega), rdi_at hjl, if_neg h, w64 (by omega) (by omega)]
        rfl
  exact key l.length 0 (by omega) (by omega) (fun m hm => absurd hm (Nat.not_lt_zero _))
section
variable {a b u : Int} {X : List ByteArray} {L : List Int} {T : Int}
theorem inner_none (s : ByteArray) (r : Int) (hL : L.length ≤ 2000000) (q : ByteArray × Bool) (hq : Ev (fun k => spec_l11Whole.l0 k s (wrap64 (r + 1)) a b X L T u) q) :
    ∀ (d i : Nat), L.length - i = d → i ≤ L.length → (∀ m, i ≤ m → m < L.length → tst (fun y => y == (s.size : Int)) L m = true → ¬ m < X.length) → Ev (fun k => spec_l11Whole.l1 k s r (i : Int) a b X L T u) q := by
  intro d
  induction d with
  | zero =>
    intro i hd hi _
    exact Ev.step (fun k => by simp only [spec_l11Whole.l1]; rw [if_neg (by omega)]) hq
  | succ d ih =>
    intro i hd hi hn
    have hil : i < L.length := by omega
    have h := ih (i + 1) (by omega) (by omega) (fun m hm => hn m (by omega))
    refine Ev.step (f := fun k => spec_l11Whole.l1 k s r ((i + 1 : Nat) : Int) a b X L T u) (fun k => ?_) h
    simp only [spec_l11Whole.l1]
    rw [if_pos (by omega), if_pos (by omega), rdi_at hil, w64 (x := (i : Int) + 1) (by omega) (by omega)]
    by_cases he : L[i] = (s.size : Int)
    · have hx := hn i (Nat.le_refl _) hil (by rw [tst_at hil]; simp [he])
      rw [if_pos he, if_neg (by omega)]
      rfl
    · rw [if_neg he]
      rfl
theorem inner_some (s : ByteArray) (r : Int) (hL : L.length ≤ 2000000) {j : Nat} (hj : j < L.length) (hx : j < X.length) (ht : tst (fun y => y == (s.size : Int)) L j = true) (hsz : s.size + X[j].size ≤ 9223372036854775807) (q : ByteArray × Bool) (hq : Ev (fun k => spec_l11Whole.l0 k (s ++ X[j]) (wrap64 (r + 1)) a b X L T u) q) :
    ∀ (d i : Nat), j - i = d → i ≤ j → (∀ m, i ≤ m → m < j → tst (fun y => y == (s.size : Int)) L m = false) → Ev (fun k => spec_l11Whole.l1 k s r (i : Int) a b X L T u) q := by
  intro d
  induction d with
  | zero =>
    intro i hd hi _
    obtain rfl : i = j := by omega
    have he : L[i] = (s.size : Int) := by rw [tst_at hj] at ht; simpa using ht
    have hr : rdOf ByteArray.empty X (i : Int) = X[i] := rdS_at hx
    refine Ev.step (f := fun k => spec_l11Whole.l1 k (s ++ X[i]) r (wrap64 ((L.length : Int) + 1)) a b X L T u) (fun k => ?_) ?_
    · simp only [spec_l11Whole.l1]
      rw [if_pos (by omega), if_pos (by omega), rdi_at hj, if_pos he, if_pos (by omega), hr, if_pos hsz]
    · rw [w64 (x := (L.length : Int) + 1) (by omega) (by omega)]
      exact Ev.step (fun k => by simp only [spec_l11Whole.l1]; rw [if_neg (by omega)]) hq
  | succ d ih =>
    intro i hd hi hn
    have hil : i < L.length := by omega
    have h := ih (i + 1) (by omega) (by omega) (fun m hm => hn m (by omega))
    refine Ev.step (f := fun k => spec_l11Whole.l1 k s r ((i + 1 : Nat) : Int) a b X L T u) (fun k => ?_) h
    have he : ¬ L[i] = (s.size : Int) := by
      have := hn i (Nat.le_refl _) (by omega)
      rw [tst_at hil] at this
      simpa using this
    simp only [spec_l11Whole.l1]
    rw [if_pos (by omega), if_pos (by omega), rdi_at hil, w64 (x := (i : Int) + 1) (by omega) (by omega), if_neg he]
    rfl
theorem stuck (s : ByteArray) (hL : L.length ≤ 2000000) (hT : (s.size : Int) < T) (hs : s.size ≤ 9000000000000000000)
    (hst : (∀ m, m < L.length → tst (fun y => y == (s.size : Int)) L m = true → ¬ m < X.length) ∨ ∃ j, ∃ (hj : j < L.length) (hx : j < X.length), tst (fun y => y == (s.size : Int)) L j = true ∧ (∀ m, m < j → tst (fun y => y == (s.size : Int)) L m = false) ∧ X[j] = ⟨#[]⟩) :
    ∀ (d r : Nat), L.length + 1 - r = d → r ≤ L.length + 1 → Ev (fun k => spec_l11Whole.l0 k s (r : Int) a b X L T u) (s, false) := by
  intro d
  induction d with
  | zero =>
    intro r hd hr
    refine Ev.step (f := fun k => spec_l11Whole.j1 k s (r : Int) false a b X L T u) (fun k => by simp only [spec_l11Whole.l0]; rw [if_neg (by omega)]) ?_
    refine Ev.step (f := fun _ => some (s, false)) (fun k => ?_) (Ev.now _)
    simp only [spec_l11Whole.j1, Bool.false_eq_true, if_false]
    have hne : ((s.size : Int) == T) = false := by simp; omega
    rw [hne]
    split <;> rfl
  | succ d ih =>
    intro r hd hr
    have h := ih (r + 1) (by omega) (by omega)
    have hw : wrap64 ((r : Int) + 1) = ((r + 1 : Nat) : Int) := w64 (by omega) (by omega)
    refine Ev.step (f := fun k => spec_l11Whole.j1 k s (r : Int) true a b X L T u) (fun k => by simp only [spec_l11Whole.l0]; rw [if_pos (by omega), decide_eq_true hT]) ?_
    refine Ev.step (f := fun k => spec_l11Whole.l1 k s (r : Int) 0 a b X L T u) (fun k => by simp only [spec_l11Whole.j1, if_true]) ?_
    rcases hst with hn | ⟨j, hj, hx, ht, hf, he⟩
    · exact inner_none s (r : Int) hL _ (by rw [hw]; exact h) L.length 0 (by omega) (by omega) (fun m _ hm => hn m hm)
    · have hz : s ++ X[j] = s := by rw [he]; exact ByteArray.append_empty
      exact inner_some s (r : Int) hL hj hx ht (by rw [he]; show s.size + 0 ≤ _; omega) _ (by rw [hw, hz]; exact h) j 0 (by omega) (by omega) (fun m _ hm => hf m hm)
def cnt (L : List Int) (n : Int) : Nat := (L.filter (fun y => decide (y < n))).length
theorem cnt_lt (L : List Int) (n n' : Int) (h : n < n') (hm : n ∈ L) : cnt L n + 1 ≤ cnt L n' := by
  unfold cnt
  induction L with
  | nil => cases hm
  | cons y L ih =>
    have mono : ∀ M : List Int, (M.filter (fun y => decide (y < n))).length ≤ (M.filter (fun y => decide (y < n'))).length := by
      intro M
      induction M with
      | nil => exact Nat.le_refl _
      | cons z M ihM =>
        simp only [List.filter_cons]
        by_cases h1 : z < n
        · have h2 : z < n' := by omega
          simp only [h1, h2, decide_true, if_true, List.length_cons]
          omega
        · by_cases h2 : z < n'
          · simp only [h1, h2, decide_true, decide_false, Bool.false_eq_true, if_true, if_false, List.length_cons]
            omega
          · simp only [h1, h2, decide_false, Bool.false_eq_true, if_false]
            exact ihM
    simp only [List.filter_cons]
    rcases List.mem_cons.1 hm with rfl | hm
    · have h3 := mono L
      simp only [Int.lt_irrefl, h, decide_true, decide_false, Bool.false_eq_true, if_true, if_false, List.length_cons]
      omega
    · have h3 := ih hm
      by_cases h1 : y < n
      · have h2 : y < n' := by omega
        simp only [h1, h2, decide_true, if_true, List.length_cons]
        omega
      · by_cases h2 : y < n'
        · simp only [h1, h2, decide_true, decide_false, Bool.false_eq_true, if_true, if_false, List.length_cons]
          omega
        · simp only [h1, h2, decide_false, Bool.false_eq_true, if_false]
          exact h3
theorem cnt_le (L : List Int) (n : Int) : cnt L n ≤ L.length := List.length_filter_le _ _
theorem cnt_mem (L : List Int) (n : Int) (hm : n ∈ L) : cnt L n < L.length := by
  have := cnt_lt L n (n + 1) (by omega) hm
  have := cnt_le L (n + 1)
  omega
theorem r_le {r c n : Nat} (h : r ≤ c) (h2 : c < n) : (r : Int) ≤ (n : Int) := by omega
theorem whole_both_loop {B : Nat} (hB : B * 2000000 ≤ 9000000000000) (hB1 : B ≤ 9000000000000) (hL : L.length ≤ 2000000) (hX : ∀ s ∈ X, s.size ≤ B) (hTp : 0 < T) : ∀ (d : Nat) (s : ByteArray) (r : Nat), d ≤ L.length → L.length - cnt L (s.size : Int) ≤ d → r ≤ cnt L (s.size : Int) → s.size ≤ B * (L.length - d) →
    ∃ (p p' : ByteArray) (o : Bool), Ev (fun k => impl_whole.l0 k s a b X L T u) (p, o) ∧ Ev (fun k => spec_l11Whole.l0 k s (r : Int) a b X L T u) (p', o) ∧ (o = true → p = p') := by
  intro d
  induction d with
  | zero =>
    intro s r hdl hd hr hs
    have hsb : s.size ≤ 9000000000000 := by
      have h1 : B * (L.length - 0) ≤ B * 2000000 := Nat.mul_le_mul_left _ (by omega)
      exact Nat.le_trans hs (Nat.le_trans h1 hB)
    clear hs
    by_cases hlt : (s.size : Int) < T
    · -- no place is left
      have hno : ∀ m, m < L.length → tst (fun y => y == (s.size : Int)) L m = false := by
        intro m hm
        cases hc : tst (fun y => y == (s.size : Int)) L m with
        | false => rfl
        | true =>
          rw [tst_at hm] at hc
          have := cnt_mem L (s.size : Int) (by
            have he : L[m] = (s.size : Int) := by simpa using hc
            rw [← he]; exact List.getElem_mem _)
          omega
      refine ⟨⟨#[]⟩, s, false, ?_, stuck s hL hlt (by omega) (.inl (fun m hm h => by rw [hno m hm] at h; cases h)) _ r rfl (by have := cnt_le L (s.size : Int); omega), fun h => by cases h⟩
      refine Ev.step (f := fun k => impl_whole.j1 k s true a b X L T u) (fun k => by simp only [impl_whole.l0]; rw [if_pos hTp, decide_eq_true hlt]) ?_
      refine Ev.step (fun k => by simp only [impl_whole.j1, if_true]; rfl) ?_
      refine Ev.bind (idx_both L (s.size : Int) hL (-1) (.inl ⟨rfl, hno⟩)) ?_
      exact Ev.congr (f := fun _ => some ((⟨#[]⟩ : ByteArray), false)) (fun k => by rw [if_pos (by omega)]) (Ev.now _)
    · refine ⟨s, s, ((s.size : Int) == T), ?_, ?_, fun _ => rfl⟩
      · refine Ev.step (f := fun k => impl_whole.j1 k s false a b X L T u) (fun k => by simp only [impl_whole.l0]; rw [if_pos hTp, decide_eq_false hlt]) ?_
        exact Ev.step (f := fun _ => some (s, ((s.size : Int) == T))) (fun k => by simp only [impl_whole.j1, Bool.false_eq_true, if_false]; rw [if_pos hTp]) (Ev.now _)
      · refine Ev.step (f := fun k => spec_l11Whole.j1 k s (r : Int) false a b X L T u) (fun k => by simp only [spec_l11Whole.l0]; rw [decide_eq_false hlt]; split <;> rfl) ?_
        exact Ev.step (f := fun _ => some (s, ((s.size : Int) == T))) (fun k => by simp only [spec_l11Whole.j1, Bool.false_eq_true, if_false]; rw [if_pos (by omega)]) (Ev.now _)
  | succ d ih =>
    intro s r hdl hd hr hs
    have hcl := cnt_le L (s.size : Int)
    have hsb : s.size ≤ 9000000000000 := by
      have h1 : B * (L.length - (d + 1)) ≤ B * 2000000 := Nat.mul_le_mul_left _ (by omega)
      exact Nat.le_trans hs (Nat.le_trans h1 hB)
    by_cases hlt : (s.size : Int) < T
    · have hI : ∀ (v : ByteArray × Bool) (b0 : Int), Ev (fun k => slices_Index_int_int.f k L (s.size : Int)) b0 → Ev (fun k => if b0 < 0 then some ((⟨#[]⟩ : ByteArray), false) else if b0 ≥ (X.length : Int) then some ((⟨#[]⟩ : ByteArray), false) else if 0 ≤ b0 then if b0 < (X.length : Int) then if (rdOf ByteArray.empty X b0).toList = ([] : List UInt8) then some ((⟨#[]⟩ : ByteArray), false) else if s.size + (rdOf ByteArray.empty X b0).size ≤ 9223372036854775807 then impl_whole.l0 k (s ++ rdOf ByteArray.empty X b0) a b X L T u else none else none else none) v → Ev (fun k => impl_whole.l0 k s a b X L T u) v := by
        intro v b0 h1 h2
        refine Ev.step (f := fun k => impl_whole.j1 k s true a b X L T u) (fun k => by simp only [impl_whole.l0]; rw [if_pos hTp, decide_eq_true hlt]) ?_
        refine Ev.step (fun k => by simp only [impl_whole.j1, if_true]; rfl) ?_
        exact Ev.bind h1 h2
      rcases first_at (tst (fun y => y == (s.size : Int)) L) L.length with hno | ⟨j, hj, ht, hf⟩
      · refine ⟨⟨#[]⟩, s, false, hI _ (-1) (idx_both L _ hL (-1) (.inl ⟨rfl, hno⟩)) ?_, stuck s hL hlt (by omega) (.inl (fun m hm h => by rw [hno m hm] at h; cases h)) _ r rfl (by omega), fun h => by cases h⟩
        exact Ev.congr (f := fun _ => some ((⟨#[]⟩ : ByteArray), false)) (fun k => by rw [if_pos (by omega)]) (Ev.now _)
      · have hidx := idx_both L (s.size : Int) hL (j : Int) (.inr ⟨j, hj, rfl, ht, hf⟩)
        have hmem : (s.size : Int) ∈ L := by
          have := ht
          rw [tst_at hj] at this
          have he : L[j] = (s.size : Int) := by simpa using this
          rw [← he]; exact List.getElem_mem _
        have hcm := cnt_mem L (s.size : Int) hmem
        by_cases hx : j < X.length
        · have hr' : rdOf ByteArray.empty X (j : Int) = X[j] := rdS_at hx
          have hxs := hX X[j] (List.getElem_mem _)
          by_cases hz : X[j].toList = ([] : List UInt8)
          · have hz2 : X[j] = ⟨#[]⟩ := bl_inj ((toList_nil.1 hz).trans bl_empty.symm)
            refine ⟨⟨#[]⟩, s, false, hI _ (j : Int) hidx ?_, stuck s hL hlt (by omega) (.inr ⟨j, hj, hx, ht, hf, hz2⟩) _ r rfl (by omega), fun h => by cases h⟩
            exact Ev.congr (f := fun _ => some ((⟨#[]⟩ : ByteArray), false)) (fun k => by rw [if_neg (by omega), if_neg (by omega), if_pos (by omega), if_pos (by omega), hr', if_pos hz]) (Ev.now _)
          · have hz2 : 0 < X[j].size := by
              rcases Nat.eq_zero_or_pos X[j].size with h | h
              · exfalso
                apply hz
                have h2 : X[j] = ⟨#[]⟩ := ByteArray.size_eq_zero_iff.1 h
                exact toList_nil.2 (by rw [h2]; rfl)
              · exact h
            have hsz : (s ++ X[j]).size = s.size + X[j].size := ByteArray.size_append
            have hc2 := cnt_lt L (s.size : Int) ((s ++ X[j]).size : Int) (by rw [hsz]; omega) hmem
            obtain ⟨p, p', o, h1, h2, h3⟩ := ih (s ++ X[j]) (r + 1) (by omega) (by omega) (by omega) (by
              have e : L.length - d = L.length - (d + 1) + 1 := by omega
              rw [hsz, e, Nat.mul_add, Nat.mul_one]
              exact Nat.add_le_add hs hxs)
            refine ⟨p, p', o, hI _ (j : Int) hidx ?_, ?_, h3⟩
            · exact Ev.congr (f := fun k => impl_whole.l0 k (s ++ X[j]) a b X L T u) (fun k => by rw [if_neg (by omega), if_neg (by omega), if_pos (by omega), if_pos (by omega), hr', if_neg hz, if_pos (by omega)]) h1
            · have hw : wrap64 ((r : Int) + 1) = ((r + 1 : Nat) : Int) := w64 (by omega) (by omega)
              refine Ev.step (f := fun k => spec_l11Whole.j1 k s (r : Int) true a b X L T u) (fun k => by simp only [spec_l11Whole.l0]; rw [if_pos (r_le hr hcm), decide_eq_true hlt]) ?_
              refine Ev.step (f := fun k => spec_l11Whole.l1 k s (r : Int) 0 a b X L T u) (fun k => by simp only [spec_l11Whole.j1, if_true]) ?_
              exact inner_some s (r : Int) hL hj hx ht (by omega) _ (by rw [hw]; exact h2) j 0 (by omega) (by omega) (fun m _ hm => hf m hm)
        · refine ⟨⟨#[]⟩, s, false, hI _ (j : Int) hidx ?_, stuck s hL hlt (by omega) (.inl (fun m hm h => ?_)) _ r rfl (by omega), fun h => by cases h⟩
          · exact Ev.congr (f := fun _ => some ((⟨#[]⟩ : ByteArray), false)) (fun k => by rw [if_neg (by omega), if_pos (by omega)]) (Ev.now _)
          · intro hmx
            rw [hf m (by omega)] at h; cases h
    · refine ⟨s, s, ((s.size : Int) == T), ?_, ?_, fun _ => rfl⟩
      · refine Ev.step (f := fun k => impl_whole.j1 k s false a b X L T u) (fun k => by simp only [impl_whole.l0]; rw [if_pos hTp, decide_eq_false hlt]) ?_
        exact Ev.step (f := fun _ => some (s, ((s.size : Int) == T))) (fun k => by simp only [impl_whole.j1, Bool.false_eq_true, if_false]; rw [if_pos hTp]) (Ev.now _)
      · refine Ev.step (f := fun k => spec_l11Whole.j1 k s (r : Int) false a b X L T u) (fun k => by simp only [spec_l11Whole.l0]; rw [decide_eq_false hlt]; split <;> rfl) ?_
        exact Ev.step (f := fun _ => some (s, ((s.size : Int) == T))) (fun k => by simp only [spec_l11Whole.j1, Bool.false_eq_true, if_false]; rw [if_pos (by omega)]) (Ev.now _)
theorem whole_both (hL : L.length ≤ 2000000) (hX : ∀ s ∈ X, s.size ≤ 1050000) : ∃ (p p' : ByteArray) (o : Bool), Ev (fun k => impl_whole.f k a b X L T u) (p, o) ∧ Ev (fun k => spec_l11Whole.f k a b X L T u) (p', o) ∧ (o = true → p = p') := by
  unfold impl_whole.f spec_l11Whole.f
  by_cases hT : 0 < T
  · exact whole_both_loop (B := 1050000) (by decide) (by decide) hL hX hT (L.length - cnt L ((⟨#[]⟩ : ByteArray).size : Int)) ⟨#[]⟩ 0 (Nat.sub_le _ _) (Nat.le_refl _) (Nat.zero_le _) (Nat.zero_le _)
  · refine ⟨⟨#[]⟩, ⟨#[]⟩, false, ?_, ?_, fun h => by cases h⟩
    · refine Ev.step (f := fun k => impl_whole.j1 k ⟨#[]⟩ false a b X L T u) (fun k => by simp only [impl_whole.l0]; rw [if_neg (by omega)]) ?_
      exact Ev.step (f := fun _ => some ((⟨#[]⟩ : ByteArray), false)) (fun k => by simp only [impl_whole.j1, Bool.false_eq_true, if_false]; rw [if_neg (by omega)]) (Ev.now _)
    · have hlt : ¬ (((⟨#[]⟩ : ByteArray).size : Nat) : Int) < T := by show ¬ ((0 : Nat) : Int) < T; omega
      refine Ev.step (f := fun k => spec_l11Whole.j1 k ⟨#[]⟩ 0 false a b X L T u) (fun k => by simp only [spec_l11Whole.l0]; rw [decide_eq_false hlt]; split <;> rfl) ?_
      exact Ev.step (f := fun _ => some ((⟨#[]⟩ : ByteArray), false)) (fun k => by simp only [spec_l11Whole.j1, Bool.false_eq_true, if_false]; rw [if_neg (by omega)]) (Ev.now _)
end

/-! ### joinboth2 -/
abbrev RJ := List S82 × Int × Int × Int × Int × Bool × ByteArray × Bool
def hitB (a c : Int) (x : S82) : Bool := x.f0 == a && x.f1 == c
def Fnd {α : Type} (p : α → Bool) (l : List α) (n : Nat) (b : Int) : Prop := (b = -1 ∧ ∀ m, n ≤ m → m < l.length → tst p l m = false) ∨ ∃ j : Nat, n ≤ j ∧ j < l.length ∧ b = (j : Int) ∧ tst p l j = true ∧ ∀ m, n ≤ m → m < j → tst p l m = false
theorem Fnd.uniq {α : Type} {p : α → Bool} {l : List α} {n : Nat} {b b' : Int} (h : Fnd p l n b) (h' : Fnd p l n b') : b = b' := by
  rcases h with ⟨rfl, h⟩ | ⟨j, h1, h2, rfl, h3, h4⟩ <;> rcases h' with ⟨rfl, h'⟩ | ⟨j', h1', h2', rfl, h3', h4'⟩
  · rfl
  · rw [h j' h1' h2'] at h3'; cases h3'
  · rw [h' j h1 h2] at h3; cases h3
  · rcases Nat.lt_trichotomy j j' with hh | hh | hh
    · rw [h4' j h1 hh] at h3; cases h3
    · rw [hh]
    · rw [h4 j' h1' hh] at h3'; cases h3'
theorem Fnd.ex {α : Type} (p : α → Bool) (l : List α) : ∃ b, Fnd p l 0 b := by
  rcases first_at (tst p l) l.length with h | ⟨j, hj, h1, h2⟩
  · exact ⟨-1, .inl ⟨rfl, fun m _ hm => h m hm⟩⟩
  · exact ⟨j, .inr ⟨j, Nat.zero_le _, hj, rfl, h1, fun m _ hm => h2 m hm⟩⟩
theorem idxB_ok (l : List S82) (hl : l.length ≤ 2000000) (d0 d1 d2 d3 : Int) (d4 : Bool) (d5 : ByteArray) (b : Int) (hb : Fnd (hitB d0 d2) l 0 b) : Ev (fun k => impl_Bits_99.f k l d0 d1 d2 d3 d4 d5) b := by
  have key : ∀ (d j : Nat), l.length - j = d → j ≤ l.length → Fnd (hitB d0 d2) l j b → Ev (fun k => impl_Bits_99.l0 k l d0 d1 d2 d3 d4 d5 (j : Int)) b := by
    intro d
    induction d with
    | zero =>
      intro j hd hj hb
      rcases hb with ⟨rfl, _⟩ | ⟨q, h1, h2, _⟩
      · exact Ev.step (f := fun _ => some (-1)) (fun k => by simp only [impl_Bits_99.l0]; rw [if_neg (by omega)]) (Ev.now _)
      · omega
    | succ d ih =>
      intro j hd hj hb
      have hjl : j < l.length := by omega
      cases ht : tst (hitB d0 d2) l j with
      | true =>
        have hbj : b = (j : Int) := Fnd.uniq hb (.inr ⟨j, Nat.le_refl _, hjl, rfl, ht, fun m h1 h2 => absurd h2 (by omega)⟩)
        rw [hbj]
        rw [tst_at hjl] at ht
        unfold hitB at ht
        refine Ev.step (f := fun _ => some (j : Int)) (fun k => ?_) (Ev.now _)
        simp only [impl_Bits_99.l0]
        rw [if_pos (by omega), if_pos (by omega), rdB hjl, if_pos ht]
      | false =>
        have hb2 : Fnd (hitB d0 d2) l (j + 1) b := by
          rcases hb with ⟨h, h1⟩ | ⟨q, h1, h2, h3, h4, h5⟩
          · exact .inl ⟨h, fun m hm => h1 m (by omega)⟩
          · have : q ≠ j := by rintro rfl; rw [ht] at h4; cases h4
            exact .inr ⟨q, by omega, h2, h3, h4, fun m hm => h5 m (by omega)⟩
        rw [tst_at hjl] at ht
        unfold hitB at ht
        refine Ev.step (f := fun k => impl_Bits_99.l0 k l d0 d1 d2 d3 d4 d5 ((j + 1 : Nat) : Int)) (fun k => ?_) (ih (j + 1) (by omega) (by omega) hb2)
        simp only [impl_Bits_99.l0]
        rw [if_pos (by omega), if_pos (by omega), rdB hjl, if_neg (by rw [ht]; decide), w64 (by omega) (by omega)]
        rfl
  exact key l.length 0 (by omega) (by omega) hb
section
variable {a0 a1 a2 a3 : Int} {a4 : Bool} {a5 : ByteArray} {now : Int}
theorem spec_find (l : List S82) (hl : l.length ≤ 2000000) (q : RJ) (hq : ∀ b0, Fnd (hitB a0 a2) l 0 b0 → Ev (fun k => if b0 < 0 then (if l.length < 1759218604441 then spec_JoinBits.l1 k (l ++ [(⟨a0, a2, ([] : List ByteArray), ([] : List Int), 0, wrap64 (now + 10)⟩ : S82)]) a0 a1 a2 a3 a4 a5 else none) else spec_JoinBits.j5 k l b0 a0 a1 a2 a3 a4 a5) q) :
    ∀ (n : Nat) (b : Int), n ≤ l.length → Fnd (hitB a0 a2) l n b → Ev (fun k => spec_JoinBits.l0 k now l b ((n : Int) - 1) a0 a1 a2 a3 a4 a5) q := by
  intro n
  induction n with
  | zero =>
    intro b hn hb
    exact Ev.step (fun k => by simp only [spec_JoinBits.l0]; rw [if_neg (by omega)]) (hq b hb)
  | succ n ih =>
    intro b hn hb
    have hnl : n < l.length := by omega
    have hj : ∀ b', Fnd (hitB a0 a2) l n b' → Ev (fun k => spec_JoinBits.j3 k now l b' (n : Int) a0 a1 a2 a3 a4 a5) q := fun b' hb' =>
      Ev.step (f := fun k => spec_JoinBits.l0 k now l b' ((n : Int) - 1) a0 a1 a2 a3 a4 a5) (fun k => by simp only [spec_JoinBits.j3]; rw [w64 (by omega) (by omega)]) (ih b' (by omega) hb')
    have hidx : (((n + 1 : Nat) : Int) - 1) = (n : Int) := by omega
    rw [hidx]
    cases ht : tst (hitB a0 a2) l n with
    | true =>
      refine Ev.step (f := fun k => spec_JoinBits.j3 k now l (n : Int) (n : Int) a0 a1 a2 a3 a4 a5) (fun k => ?_) (hj _ (.inr ⟨n, Nat.le_refl _, hnl, rfl, ht, fun m h1 h2 => absurd h2 (by omega)⟩))
      rw [tst_at hnl] at ht
      unfold hitB at ht
      simp only [Bool.and_eq_true, beq_iff_eq] at ht
      simp only [spec_JoinBits.l0]
      rw [if_pos (by omega), if_pos (by omega), if_pos (by omega), rdB hnl, if_pos ht.1, if_pos ht.2]
    | false =>
      have hb2 : Fnd (hitB a0 a2) l n b := by
        rcases hb with ⟨h, h1⟩ | ⟨q, h1, h2, h3, h4, h5⟩
        · refine .inl ⟨h, fun m hm hml => ?_⟩
          by_cases he : m = n
          · rw [he]; exact ht
          · exact h1 m (by omega) hml
        · refine .inr ⟨q, by omega, h2, h3, h4, fun m hm hmq => ?_⟩
          by_cases he : m = n
          · rw [he]; exact ht
          · exact h5 m (by omega) hmq
      refine Ev.step (f := fun k => spec_JoinBits.j3 k now l b (n : Int) a0 a1 a2 a3 a4 a5) (fun k => ?_) (hj _ hb2)
      rw [tst_at hnl] at ht
      unfold hitB at ht
      simp only [spec_JoinBits.l0]
      rw [if_pos (by omega), if_pos (by omega), if_pos (by omega), rdB hnl]
      by_cases h1 : l[n].f0 = a0
      · have h2 : ¬ l[n].f1 = a2 := by
          intro h2
          rw [h1, h2] at ht
          simp at ht
        rw [if_pos h1, if_neg h2]
      · rw [if_neg h1]
theorem spec_cut (q : RJ) : ∀ (n : Nat) (z : List S82), z.length = n → n ≤ 2000000 → (∀ x ∈ z, x.f2.length ≤ 2000000 ∧ x.f3.length ≤ 2000000) → Ev (fun k => spec_JoinBits.j5 k (z.drop (n - 3)) (((z.drop (n - 3)).length : Int) - 1) a0 a1 a2 a3 a4 a5) q → Ev (fun k => spec_JoinBits.l1 k z a0 a1 a2 a3 a4 a5) q := by
  intro n
  induction n with
  | zero =>
    intro z hz hn _ h
    refine Ev.step (fun k => by simp only [spec_JoinBits.l1]; rw [if_neg (by omega), w64 (x := (z.length : Int) - 1) (by omega) (by omega)]) ?_
    simpa using h
  | succ n ih =>
    intro z hz hn hb h
    by_cases h3 : n + 1 > 3
    · refine Ev.step (f := fun k => (spec_l11CopyBits.f k (z.drop 1)).bind fun t => spec_JoinBits.l1 k t a0 a1 a2 a3 a4 a5) (fun k => by simp only [spec_JoinBits.l1]; rw [if_pos (by omega), if_pos (by omega)]) ?_
      refine Ev.bind (cqB_ok (z.drop 1) (by rw [List.length_drop]; omega) (fun x hx => hb x (List.mem_of_mem_drop hx))) (ih (z.drop 1) (by rw [List.length_drop]; omega) (by omega) (fun x hx => hb x (List.mem_of_mem_drop hx)) ?_)
      rw [List.drop_drop, show 1 + (n - 3) = n + 1 - 3 by omega]
      exact h
    · rw [show n + 1 - 3 = 0 by omega, List.drop_zero] at h
      exact Ev.step (fun k => by simp only [spec_JoinBits.l1]; rw [if_neg (by omega), w64 (x := (z.length : Int) - 1) (by omega) (by omega)]) h
theorem rd_set {l : List S82} {i : Nat} (h : i < l.length) (x : S82) : rd_T82 (l.set i x) (i : Int) = x := by
  rw [rdB (by rw [List.length_set]; exact h), List.getElem_set_self]
def finJ (a0 a1 a2 : Int) (L : List S82) (i : Nat) (p : ByteArray) (o : Bool) : RJ := if o = true then (L.eraseIdx i, a0, a1, a2, 0, false, p, true) else (L, 0, 0, 0, 0, false, ⟨#[]⟩, false)
theorem spec_end (L : List S82) (i : Nat) (hi : i < L.length) (hL : L.length ≤ 2000000) (hb : ∀ x ∈ L, bOk x) (p : ByteArray) (o : Bool) (p0 : ByteArray) (h0 : o = true → p0 = p) (hw : Ev (fun k => spec_l11Whole.f k L[i].f0 L[i].f1 L[i].f2 L[i].f3 L[i].f4 L[i].f5) (p, o)) :
    Ev (fun k => spec_JoinBits.j8 k L (i : Int) a0 a1 a2 a3 a4 a5) (finJ a0 a1 a2 L i p0 o) := by
  refine Ev.step (fun k => rfl) ?_
  simp only [spec_JoinBits.j8, if_pos (show (0 : Int) ≤ (i : Int) by omega), if_pos (show (i : Int) < (L.length : Int) by omega), rdB hi]
  refine Ev.bind hw ?_
  cases o with
  | false => exact Ev.congr (f := fun _ => some (L, 0, 0, 0, 0, false, ⟨#[]⟩, false)) (fun k => by simp) (Ev.now _)
  | true =>
    have hw1 : wrap64 ((i : Int) + 1) = ((i + 1 : Nat) : Int) := w64 (by omega) (by omega)
    have hlt : (L.take i).length = i := by rw [List.length_take]; omega
    have hld : (L.drop (i + 1)).length = L.length - (i + 1) := List.length_drop
    simp only [if_true, Option.bind_some, Int.toNat_natCast, if_pos (show (i : Int) ≤ (L.length : Int) by omega), List.length_nil, hlt, if_pos (show 0 + i < 1759218604441 by omega), List.nil_append, hw1, if_pos (show (0 : Int) ≤ ((i + 1 : Nat) : Int) by omega), if_pos (show ((i + 1 : Nat) : Int) ≤ (L.length : Int) by omega), hld, if_pos (show i + (L.length - (i + 1)) < 1759218604441 by omega)]
    rw [← List.eraseIdx_eq_take_drop_succ]
    refine Ev.bind (cqB_ok (L.eraseIdx i) (Nat.le_trans (List.length_eraseIdx_le _ _) hL) (fun x hx => by
      have := hb x (List.mem_of_mem_eraseIdx hx)
      exact ⟨by have := this.1; omega, by have := this.2.1; omega⟩)) ?_
    have hp := h0 rfl
    subst hp
    exact Ev.now _
theorem impl_end (L : List S82) (i n : Nat) (hn : n = L.length) (hi : i < L.length) (hL : L.length ≤ 2000000) (p : ByteArray) (o : Bool) (x : S82) (hx : x = L[i]) (hw : Ev (fun k => impl_whole.f k L[i].f0 L[i].f1 L[i].f2 L[i].f3 L[i].f4 L[i].f5) (p, o)) :
    Ev (fun k => (impl_whole.f k x.f0 x.f1 x.f2 x.f3 x.f4 x.f5).bind fun bt => (if bt.2 = true then (if (i : Int) ≤ (n : Int) then (if 0 ≤ (wrap64 ((i : Int) + 1)) then (if (wrap64 ((i : Int) + 1)) ≤ (n : Int) then (some ((L.eraseIdx (i : Int).toNat), a0, a1, a2, (0 : Int), false, bt.1, true)) else (none)) else (none)) else (none)) else (some (L, (0 : Int), (0 : Int), (0 : Int), (0 : Int), false, (⟨#[]⟩ : ByteArray), false)))) (finJ a0 a1 a2 L i p o) := by
  subst hx; subst hn
  refine Ev.bind hw ?_
  have hw1 : wrap64 ((i : Int) + 1) = ((i + 1 : Nat) : Int) := w64 (by omega) (by omega)
  cases o with
  | false => exact Ev.congr (f := fun _ => some (L, 0, 0, 0, 0, false, ⟨#[]⟩, false)) (fun k => by simp) (Ev.now _)
  | true =>
    simp only [if_true, hw1, if_pos (show (i : Int) ≤ (L.length : Int) by omega), if_pos (show (0 : Int) ≤ ((i + 1 : Nat) : Int) by omega), if_pos (show ((i + 1 : Nat) : Int) ≤ (L.length : Int) by omega), Int.toNat_natCast]
    exact Ev.now _
end

/-! ### joinboth3 -/
section
variable {a0 a1 a2 a3 : Int} {a4 : Bool} {a5 : ByteArray} {now : Int}
theorem has_both (l : List Int) (x : Int) (hl : l.length ≤ 2000000) (o : Bool) (ho : (o = false ∧ ∀ m, m < l.length → tst (fun y => y == x) l m = false) ∨ o = true ∧ ∃ j : Nat, j < l.length ∧ tst (fun y => y == x) l j = true ∧ ∀ m, m < j → tst (fun y => y == x) l m = false) :
    Ev (fun k => slices_Contains_int_int.f k l x) o := by
  unfold slices_Contains_int_int.f
  rcases ho with ⟨rfl, h⟩ | ⟨rfl, j, hj, h1, h2⟩
  · exact Ev.bind (idx_both l x hl (-1) (.inl ⟨rfl, h⟩)) (Ev.now _)
  · refine Ev.bind (idx_both l x hl (j : Int) (.inr ⟨j, hj, rfl, h1, h2⟩)) ?_
    rw [decide_eq_true (show (j : Int) ≥ 0 by omega)]
    exact Ev.now _
theorem spec_has (L : List S82) (i : Nat) (hi : i < L.length) (hf : L[i].f3.length ≤ 2000000) (o : Bool) (ho : (o = false ∧ ∀ m, m < L[i].f3.length → tst (fun y => y == a3) L[i].f3 m = false) ∨ o = true ∧ ∃ j : Nat, j < L[i].f3.length ∧ tst (fun y => y == a3) L[i].f3 j = true ∧ ∀ m, m < j → tst (fun y => y == a3) L[i].f3 m = false) (q : RJ)
    (hq : Ev (fun k => spec_JoinBits.l2 k L (i : Int) o ((L[i].f3.length : Nat) : Int) a0 a1 a2 a3 a4 a5) q) :
    ∀ (d j : Nat) (h : Bool), L[i].f3.length - j = d → j ≤ L[i].f3.length → ((h = false ∧ ∀ m, m < j → tst (fun y => y == a3) L[i].f3 m = false) ∨ h = true ∧ o = true) → Ev (fun k => spec_JoinBits.l2 k L (i : Int) h (j : Int) a0 a1 a2 a3 a4 a5) q := by
  intro d
  induction d with
  | zero =>
    intro j h hd hj hh
    obtain rfl : j = L[i].f3.length := by omega
    have : h = o := by
      rcases hh with ⟨rfl, hn⟩ | ⟨rfl, rfl⟩
      · rcases ho with ⟨rfl, _⟩ | ⟨_, q, hq, h1, _⟩
        · rfl
        · rw [hn q hq] at h1; cases h1
      · rfl
    rw [this]
    exact hq
  | succ d ih =>
    intro j h hd hj hh
    have hjl : j < L[i].f3.length := by omega
    have hw : wrap64 ((j : Int) + 1) = ((j + 1 : Nat) : Int) := w64 (by omega) (by omega)
    have hj7 : ∀ h', ((h' = false ∧ ∀ m, m < j + 1 → tst (fun y => y == a3) L[i].f3 m = false) ∨ h' = true ∧ o = true) → Ev (fun k => spec_JoinBits.j7 k L (i : Int) h' (j : Int) a0 a1 a2 a3 a4 a5) q := fun h' hh' =>
      Ev.step (f := fun k => spec_JoinBits.l2 k L (i : Int) h' ((j + 1 : Nat) : Int) a0 a1 a2 a3 a4 a5) (fun k => by simp only [spec_JoinBits.j7]; rw [hw]) (ih (j + 1) h' (by omega) (by omega) hh')
    cases h with
    | true =>
      have ho' : o = true := by rcases hh with ⟨h, _⟩ | ⟨_, h⟩; cases h; exact h
      refine Ev.step (f := fun k => spec_JoinBits.j7 k L (i : Int) true (j : Int) a0 a1 a2 a3 a4 a5) (fun k => ?_) (hj7 true (.inr ⟨rfl, ho'⟩))
      simp only [spec_JoinBits.l2]
      rw [if_pos (by omega), if_pos (by omega), rdB hi, if_pos (by omega), if_pos (by decide)]
    | false =>
      have hn : ∀ m, m < j → tst (fun y => y == a3) L[i].f3 m = false := by rcases hh with ⟨_, h⟩ | ⟨h, _⟩; exact h; cases h
      refine Ev.step (f := fun k => spec_JoinBits.j7 k L (i : Int) (L[i].f3[j] == a3) (j : Int) a0 a1 a2 a3 a4 a5) (fun k => ?_) (hj7 _ ?_)
      · simp only [spec_JoinBits.l2]
        rw [if_pos (by omega), if_pos (by omega), rdB hi, if_pos (by omega), if_neg (by decide), if_pos (by omega), rdi_at hjl]
      · have ht := tst_at (p := fun y => y == a3) hjl
        cases hc : (L[i].f3[j] == a3) with
        | false =>
          refine .inl ⟨rfl, fun m hm => ?_⟩
          by_cases he : m = j
          · rw [he, ht]; exact hc
          · exact hn m (by omega)
        | true =>
          refine .inr ⟨rfl, ?_⟩
          rcases ho with ⟨_, h⟩ | ⟨h, _⟩
          · have := h j hjl
            rw [ht, hc] at this
            cases this
          · exact h
def elJ (a3 : Int) (a4 : Bool) (a5 : ByteArray) (x : S82) : S82 := ⟨x.f0, x.f1, x.f2 ++ [a5], x.f3 ++ [a3], if a4 = true then x.f4 else if x.f4 = 0 then wrap64 (a3 + (a5.size : Int)) else x.f4, x.f5⟩
theorem bS.el {x : S82} (h : bS x) (ha : a5.size ≤ 1050000) : bOk (elJ a3 a4 a5 x) := by
  refine ⟨?_, ?_, fun s hs => ?_⟩
  · show (x.f2 ++ [a5]).length ≤ _; rw [List.length_append, List.length_singleton]; have := h.1; omega
  · show (x.f3 ++ [a3]).length ≤ _; rw [List.length_append, List.length_singleton]; have := h.2.1; omega
  · have hs' : s ∈ x.f2 ++ [a5] := hs
    rcases List.mem_append.1 hs' with h1 | h1
    · exact h.2.2 s h1
    · rw [List.mem_singleton.1 h1]; exact ha
def bN (n : Nat) (x : S82) : Prop := x.f2.length ≤ n ∧ x.f3.length ≤ n ∧ ∀ s ∈ x.f2, s.size ≤ 1050000
theorem bN.up {n m : Nat} {x : S82} (h : bN n x) (hm : n ≤ m) : bN m x := ⟨Nat.le_trans h.1 hm, Nat.le_trans h.2.1 hm, h.2.2⟩
theorem bN.el {n : Nat} {x : S82} (h : bN n x) (ha : a5.size ≤ 1050000) : bN (n + 1) (elJ a3 a4 a5 x) := by
  refine ⟨?_, ?_, fun s hs => ?_⟩
  · show (x.f2 ++ [a5]).length ≤ _; rw [List.length_append, List.length_singleton]; have := h.1; omega
  · show (x.f3 ++ [a3]).length ≤ _; rw [List.length_append, List.length_singleton]; have := h.2.1; omega
  · have hs' : s ∈ x.f2 ++ [a5] := hs
    rcases List.mem_append.1 hs' with h1 | h1
    · exact h.2.2 s h1
    · rw [List.mem_singleton.1 h1]; exact ha
theorem fin_sub (M : List S82) (i : Nat) (p : ByteArray) (o : Bool) : ∀ x ∈ (finJ a0 a1 a2 M i p o).1, x ∈ M := by
  unfold finJ
  cases o with
  | false => simp only [Bool.false_eq_true, if_false]; exact fun x h => h
  | true => simp only [if_true]; exact fun x hx => List.mem_of_mem_eraseIdx hx
theorem tail_both (L : List S82) (i : Nat) (hi : i < L.length) (hL : L.length ≤ 2000000) (hb : ∀ x ∈ L, bS x) (ha : a5.size ≤ 1050000) :
    ∃ r : RJ, Ev (fun k => impl_JoinBits.j2 k L (i : Int) a0 a1 a2 a3 a4 a5) r ∧ Ev (fun k => spec_JoinBits.j5 k L (i : Int) a0 a1 a2 a3 a4 a5) r ∧ r.1.length ≤ L.length ∧ (∀ x ∈ r.1, bOk x) ∧ (∀ n, (∀ x ∈ L, bN n x) → ∀ x ∈ r.1, bN (n + 1) x) := by
  have hx := hb _ (List.getElem_mem hi)
  have hf3 : L[i].f3.length ≤ 2000000 := Nat.le_trans hx.2.1 (by omega)
  have hf2 : L[i].f2.length ≤ 2000000 := Nat.le_trans hx.1 (by omega)
  have hfin : ∀ (M : List S82) (p : ByteArray) (o : Bool), M.length = L.length → (∀ x ∈ M, bOk x) → (finJ a0 a1 a2 M i p o).1.length ≤ L.length ∧ ∀ x ∈ (finJ a0 a1 a2 M i p o).1, bOk x := by
    intro M p o hM hMb
    unfold finJ
    cases o with
    | false => simp only [Bool.false_eq_true, if_false]; exact ⟨Nat.le_of_eq hM, hMb⟩
    | true => simp only [if_true]; exact ⟨by rw [← hM]; exact List.length_eraseIdx_le _ _, fun x hx => hMb x (List.mem_of_mem_eraseIdx hx)⟩
  have hs5 : ∀ (q : RJ), Ev (fun k => spec_JoinBits.l2 k L (i : Int) false 0 a0 a1 a2 a3 a4 a5) q → Ev (fun k => spec_JoinBits.j5 k L (i : Int) a0 a1 a2 a3 a4 a5) q := fun q hq => Ev.step (fun k => by simp only [spec_JoinBits.j5]) hq
  rcases first_at (tst (fun y => y == a3) L[i].f3) L[i].f3.length with hno | ⟨j, hj, h1, h2⟩
  · -- a new part
    have hel : elJ a3 a4 a5 L[i] = elJ a3 a4 a5 L[i] := rfl
    obtain ⟨M, hM⟩ : ∃ M, M = L.set i (elJ a3 a4 a5 L[i]) := ⟨_, rfl⟩
    have hMl : M.length = L.length := by rw [hM, List.length_set]
    have hiM : i < M.length := by omega
    have hMi : M[i] = elJ a3 a4 a5 L[i] := by subst hM; exact List.getElem_set_self _
    have hMb : ∀ x ∈ M, bOk x := by
      intro x hx
      rw [hM] at hx
      rcases List.mem_or_eq_of_mem_set hx with h | h
      · exact (hb x h).ok
      · rw [h]; exact bS.el (hb _ (List.getElem_mem hi)) ha
    have hMo : bOk M[i] := hMb _ (List.getElem_mem hiM)
    obtain ⟨p, p', o, w1, w2, w3⟩ := whole_both (a := M[i].f0) (b := M[i].f1) (u := M[i].f5) (X := M[i].f2) (L := M[i].f3) (T := M[i].f4) (by have := hMo.2.1; omega) hMo.2.2
    refine ⟨finJ a0 a1 a2 M i p o, ?_, hs5 _ (spec_has L i hi hf3 false (.inl ⟨rfl, hno⟩) _ ?_ _ 0 false rfl (Nat.zero_le _) (.inl ⟨rfl, fun m hm => absurd hm (Nat.not_lt_zero _)⟩)), (hfin M p o hMl hMb).1, (hfin M p o hMl hMb).2, fun n hn x hx => by
      have hxM := fin_sub M i p o x hx
      rw [hM] at hxM
      rcases List.mem_or_eq_of_mem_set hxM with h | h
      · exact (hn x h).up (Nat.le_succ n)
      · rw [h]; exact bN.el (hn _ (List.getElem_mem hi)) ha⟩
    · -- impl
      refine Ev.step (fun k => by simp only [impl_JoinBits.j2]; rw [if_pos (show (0 : Int) ≤ (i : Int) by omega), if_pos (show (i : Int) < (L.length : Int) by omega), rdB hi]) ?_
      refine Ev.bind (has_both L[i].f3 a3 hf3 false (.inl ⟨rfl, hno⟩)) ?_
      simp only [Bool.false_eq_true, if_false, if_pos (show L[i].f3.length < 17592186044416 by omega), Option.bind_some, Int.toNat_natCast, rd_set hi, if_pos (show L[i].f2.length < 8796093022208 by omega), List.set_set]
      have h3t : ∀ (N : List S82), N = L.set i ⟨L[i].f0, L[i].f1, L[i].f2 ++ [a5], L[i].f3 ++ [a3], L[i].f4, L[i].f5⟩ → M = N.set i ⟨L[i].f0, L[i].f1, L[i].f2 ++ [a5], L[i].f3 ++ [a3], wrap64 (a3 + (a5.size : Int)), L[i].f5⟩ → Ev (fun k => impl_JoinBits.j3 k N (i : Int) true a0 a1 a2 a3 a4 a5) (finJ a0 a1 a2 M i p o) := by
        intro N hN hMN
        have hNl : N.length = L.length := by rw [hN, List.length_set]
        have hiN : i < N.length := by omega
        have hNi : rd_T82 N (i : Int) = ⟨L[i].f0, L[i].f1, L[i].f2 ++ [a5], L[i].f3 ++ [a3], L[i].f4, L[i].f5⟩ := by rw [hN]; exact rd_set hi _
        refine Ev.step (fun k => by simp only [impl_JoinBits.j3, if_true]; rw [if_pos (show (0 : Int) ≤ (i : Int) by omega), if_pos (show (i : Int) < (N.length : Int) by omega), hNi, Option.bind_some, Int.toNat_natCast, ← hMN]) ?_
        exact impl_end M i N.length (by omega) hiM (by omega) p o _ (rdB hiM) w1
      have h3f : M = L.set i ⟨L[i].f0, L[i].f1, L[i].f2 ++ [a5], L[i].f3 ++ [a3], L[i].f4, L[i].f5⟩ → Ev (fun k => impl_JoinBits.j3 k (L.set i ⟨L[i].f0, L[i].f1, L[i].f2 ++ [a5], L[i].f3 ++ [a3], L[i].f4, L[i].f5⟩) (i : Int) false a0 a1 a2 a3 a4 a5) (finJ a0 a1 a2 M i p o) := by
        intro hN
        rw [← hN]
        refine Ev.step (fun k => by simp only [impl_JoinBits.j3, Bool.false_eq_true, if_false]; rw [if_pos (show (0 : Int) ≤ (i : Int) by omega), if_pos (show (i : Int) < (M.length : Int) by omega)]) ?_
        exact impl_end M i M.length rfl hiM (by omega) p o _ (rdB hiM) w1
      cases a4 with
      | true =>
        simp only [if_true]
        exact h3f (by rw [hM]; simp [elJ])
      | false =>
        simp only [Bool.false_eq_true, if_false]
        by_cases h4 : L[i].f4 = 0
        · rw [show (L[i].f4 == 0) = true by simp [h4]]
          refine h3t _ rfl ?_
          rw [hM, List.set_set]
          simp [elJ, h4]
        · rw [show (L[i].f4 == 0) = false by simp [h4]]
          exact h3f (by rw [hM]; simp [elJ, h4])
    · -- spec
      refine Ev.step (fun k => by simp only [spec_JoinBits.l2]; rw [if_pos (show (0 : Int) ≤ (i : Int) by omega), if_pos (show (i : Int) < (L.length : Int) by omega), rdB hi, if_neg (show ¬ ((L[i].f3.length : Nat) : Int) < (L[i].f3.length : Int) by omega), if_neg (by decide)]) ?_
      simp only [if_pos (show L[i].f3.length < 17592186044416 by omega), Option.bind_some, Int.toNat_natCast, rd_set hi, if_pos (show L[i].f2.length < 8796093022208 by omega), List.set_set]
      have he := spec_end (a0 := a0) (a1 := a1) (a2 := a2) (a3 := a3) (a4 := a4) (a5 := a5) M i hiM (by omega) hMb p' o p w3 w2
      cases a4 with
      | true =>
        simp only [if_true]
        rw [show L.set i ⟨L[i].f0, L[i].f1, L[i].f2 ++ [a5], L[i].f3 ++ [a3], L[i].f4, L[i].f5⟩ = M by rw [hM]; simp [elJ]]
        exact he
      | false =>
        simp only [Bool.false_eq_true, if_false]
        by_cases h4 : L[i].f4 = 0
        · simp only [if_pos h4]
          rw [show L.set i ⟨L[i].f0, L[i].f1, L[i].f2 ++ [a5], L[i].f3 ++ [a3], wrap64 (a3 + (a5.size : Int)), L[i].f5⟩ = M by rw [hM]; simp [elJ, h4]]
          exact he
        · simp only [if_neg h4]
          rw [show L.set i ⟨L[i].f0, L[i].f1, L[i].f2 ++ [a5], L[i].f3 ++ [a3], L[i].f4, L[i].f5⟩ = M by rw [hM]; simp [elJ, h4]]
          exact he
  · have hLb : ∀ x ∈ L, bOk x := fun x hx => (hb x hx).ok
    have hLo := hLb _ (List.getElem_mem hi)
    obtain ⟨p, p', o, w1, w2, w3⟩ := whole_both (a := L[i].f0) (b := L[i].f1) (u := L[i].f5) (X := L[i].f2) (L := L[i].f3) (T := L[i].f4) hf3 hLo.2.2
    refine ⟨finJ a0 a1 a2 L i p o, ?_, hs5 _ (spec_has L i hi hf3 true (.inr ⟨rfl, j, hj, h1, h2⟩) _ ?_ _ 0 false rfl (Nat.zero_le _) (.inl ⟨rfl, fun m hm => absurd hm (Nat.not_lt_zero _)⟩)), (hfin L p o rfl hLb).1, (hfin L p o rfl hLb).2, fun n hn x hx => (hn x (fin_sub L i p o x hx)).up (Nat.le_succ n)⟩
    · refine Ev.step (fun k => by simp only [impl_JoinBits.j2]; rw [if_pos (show (0 : Int) ≤ (i : Int) by omega), if_pos (show (i : Int) < (L.length : Int) by omega), rdB hi]) ?_
      refine Ev.bind (has_both L[i].f3 a3 hf3 true (.inr ⟨rfl, j, hj, h1, h2⟩)) ?_
      simp only [if_true]
      exact impl_end L i L.length rfl hi hL p o _ rfl w1
    · refine Ev.step (f := fun k => spec_JoinBits.j8 k L (i : Int) a0 a1 a2 a3 a4 a5) (fun k => by simp only [spec_JoinBits.l2]; rw [if_pos (show (0 : Int) ≤ (i : Int) by omega), if_pos (show (i : Int) < (L.length : Int) by omega), rdB hi, if_neg (show ¬ ((L[i].f3.length : Nat) : Int) < (L[i].f3.length : Int) by omega), if_pos (by decide)]) ?_
      exact spec_end L i hi hL hLb p' o p w3 w2
end

/-! ### joinboth4 -/
section
variable {a0 a1 a2 a3 : Int} {a4 : Bool} {a5 : ByteArray} {now : Int}
theorem mx_len {n : Nat} (h : n ≤ 2000000) : (mx 0 (wrap64 ((n : Int) - 3))).toNat = n - 3 := by
  rw [w64 (by omega) (by omega)]
  unfold mx
  split <;> omega
theorem join_both (l : List S82) (hl : l.length ≤ 1048576) (hb : ∀ x ∈ l, bS x) :
    ∃ r : RJ, Ev (fun k => impl_JoinBits.f k l a0 a1 a2 a3 a4 a5 now) r ∧ Ev (fun k => spec_JoinBits.f k l a0 a1 a2 a3 a4 a5 now) r ∧ r.1.length ≤ l.length + 1 ∧ (∀ x ∈ r.1, bOk x) ∧ (l.length ≤ 3 → r.1.length ≤ 3) ∧ (∀ n, (∀ x ∈ l, bN n x) → ∀ x ∈ r.1, bN (n + 1) x) := by
  have hcp : ∀ x ∈ l, x.f2.length ≤ 2000000 ∧ x.f3.length ≤ 2000000 := fun x hx => ⟨Nat.le_trans (hb x hx).1 (by omega), Nat.le_trans (hb x hx).2.1 (by omega)⟩
  have c1 := cpB_ok l (by omega) hcp
  have c2 := cqB_ok l (by omega) hcp
  have hlo : ∀ x ∈ l, bOk x := fun x hx => (hb x hx).ok
  -- behind the tests
  have hgo : ∀ (v : Bool) (r : RJ), Ev (fun k => impl_JoinBits.j0 k now l v a0 a1 a2 a3 a4 a5) r → Ev (fun k => spec_JoinBits.j0 k now l v a0 a1 a2 a3 a4 a5) r → (v = !(dgB a0 a1 a2 a3 a4 a5 && rng now 0 999999990)) → Ev (fun k => impl_JoinBits.f k l a0 a1 a2 a3 a4 a5 now) r ∧ Ev (fun k => spec_JoinBits.f k l a0 a1 a2 a3 a4 a5 now) r := by
    intro v r h1 h2 hv
    unfold impl_JoinBits.f spec_JoinBits.f
    refine ⟨Ev.bind c1 ?_, Ev.bind c2 ?_⟩
    · simp only [impl_dgB, within_eq, Option.bind_some]
      cases hd : dgB a0 a1 a2 a3 a4 a5 with
      | false => rw [hd] at hv; simp at hv; subst hv; simpa using h1
      | true => rw [hd] at hv; simp at hv; subst hv; simpa using h1
    · simp only [spec_dgB, in_eq, Option.bind_some]
      cases hd : dgB a0 a1 a2 a3 a4 a5 with
      | false => rw [hd] at hv; simp at hv; subst hv; simpa using h2
      | true => rw [hd] at hv; simp at hv; subst hv; simpa using h2
  by_cases hok : (dgB a0 a1 a2 a3 a4 a5 && rng now 0 999999990) = true
  · have hd : dgB a0 a1 a2 a3 a4 a5 = true := by simp at hok; exact hok.1
    have ha5 : a5.size ≤ 1050000 := by have := (dgB_iff hd).2.2.2.2.2.1.2; have := (dgB_iff hd).2.2.2.1; omega
    -- whole at once, or a part
    have h01 : ∀ (v : Bool) (r : RJ), Ev (fun k => impl_JoinBits.j1 k now l v a0 a1 a2 a3 a4 a5) r → Ev (fun k => spec_JoinBits.j1 k now l v a0 a1 a2 a3 a4 a5) r → (v = (decide (a3 = 0) && !a4)) → Ev (fun k => impl_JoinBits.f k l a0 a1 a2 a3 a4 a5 now) r ∧ Ev (fun k => spec_JoinBits.f k l a0 a1 a2 a3 a4 a5 now) r := by
      intro v r h1 h2 hv
      refine hgo false r ?_ ?_ (by rw [hok]; rfl)
      · refine Ev.step (f := fun k => impl_JoinBits.j1 k now l v a0 a1 a2 a3 a4 a5) (fun k => ?_) h1
        simp only [impl_JoinBits.j0, Bool.false_eq_true, if_false]
        by_cases h3 : a3 = 0
        · rw [if_pos h3, hv]; simp [h3]
        · rw [if_neg h3, hv]; simp [h3]
      · refine Ev.step (f := fun k => spec_JoinBits.j1 k now l v a0 a1 a2 a3 a4 a5) (fun k => ?_) h2
        simp only [spec_JoinBits.j0, Bool.false_eq_true, if_false]
        by_cases h3 : a3 = 0
        · rw [if_pos h3, hv]; simp [h3]
        · rw [if_neg h3, hv]; simp [h3]
    cases hv : (decide (a3 = 0) && !a4) with
    | true =>
      obtain ⟨e1, e2⟩ := h01 true (l, a0, a1, a2, a3, a4, a5, true) (Ev.step (f := fun _ => some (l, a0, a1, a2, a3, a4, a5, true)) (fun k => by simp only [impl_JoinBits.j1, if_true]) (Ev.now _)) (Ev.step (f := fun _ => some (l, a0, a1, a2, a3, a4, a5, true)) (fun k => by simp only [spec_JoinBits.j1, if_true]) (Ev.now _)) hv.symm
      exact ⟨_, e1, e2, Nat.le_succ _, hlo, fun h => h, fun n hn x hx => (hn x hx).up (Nat.le_succ n)⟩
    | false =>
      obtain ⟨b, hbF⟩ := Fnd.ex (hitB a0 a2) l
      have hi := idxB_ok l (by omega) a0 a1 a2 a3 a4 a5 b hbF
      have hsp : ∀ (r : RJ), Ev (fun k => if b < 0 then (if l.length < 1759218604441 then spec_JoinBits.l1 k (l ++ [(⟨a0, a2, ([] : List ByteArray), ([] : List Int), 0, wrap64 (now + 10)⟩ : S82)]) a0 a1 a2 a3 a4 a5 else none) else spec_JoinBits.j5 k l b a0 a1 a2 a3 a4 a5) r → Ev (fun k => spec_JoinBits.j1 k now l false a0 a1 a2 a3 a4 a5) r := by
        intro r hr
        refine Ev.step (f := fun k => spec_JoinBits.l0 k now l (-1) ((l.length : Int) - 1) a0 a1 a2 a3 a4 a5) (fun k => by simp only [spec_JoinBits.j1, Bool.false_eq_true, if_false]; rw [w64 (by omega) (by omega)]) ?_
        refine spec_find l (by omega) r (fun b0 hb0 => ?_) l.length (-1) (Nat.le_refl _) (.inl ⟨rfl, fun m h1 h2 => absurd h2 (by omega)⟩)
        have e := Fnd.uniq hb0 hbF
        subst e
        exact hr
      by_cases hneg : b < 0
      · obtain ⟨z, hz⟩ : ∃ z, z = l ++ [(⟨a0, a2, ([] : List ByteArray), ([] : List Int), 0, wrap64 (now + 10)⟩ : S82)] := ⟨_, rfl⟩
        have hzl : z.length = l.length + 1 := by rw [hz, List.length_append]; rfl
        have hzb : ∀ x ∈ z, bS x := by
          intro x hx
          rw [hz] at hx
          rcases List.mem_append.1 hx with h | h
          · exact hb x h
          · rw [List.mem_singleton.1 h]
            exact ⟨Nat.zero_le _, Nat.zero_le _, fun s hs => by cases hs⟩
        obtain ⟨y, hy⟩ : ∃ y, y = z.drop (z.length - 3) := ⟨_, rfl⟩
        have hyl : y.length = z.length - (z.length - 3) := by rw [hy, List.length_drop]
        obtain ⟨r, t1, t2, t3, t4, t5⟩ := tail_both (a0 := a0) (a1 := a1) (a2 := a2) (a3 := a3) (a4 := a4) (a5 := a5) y (y.length - 1) (by omega) (by omega) (fun x hx => hzb x (by rw [hy] at hx; exact List.mem_of_mem_drop hx)) ha5
        have hyi : (((y.length - 1 : Nat)) : Int) = (y.length : Int) - 1 := by omega
        rw [hyi] at t1 t2
        obtain ⟨e1, e2⟩ := h01 false r (by
          refine Ev.step (f := fun k => (impl_Bits_99.f k l a0 a1 a2 a3 a4 a5).bind fun t => if t < 0 then impl_JoinBits.j2 k y ((y.length : Int) - 1) a0 a1 a2 a3 a4 a5 else impl_JoinBits.j2 k l t a0 a1 a2 a3 a4 a5) (fun k => ?_) (Ev.bind hi (Ev.congr (f := fun k => impl_JoinBits.j2 k y ((y.length : Int) - 1) a0 a1 a2 a3 a4 a5) (fun k => if_pos hneg) t1))
          simp only [impl_JoinBits.j1, Bool.false_eq_true, if_false, if_pos (show l.length < 1759218604441 by omega), Option.bind_some, ← hz, mx_len (show z.length ≤ 2000000 by omega), ← hy, w64 (x := (y.length : Int) - 1) (by omega) (by omega)]) (hsp r (by
          refine Ev.congr (f := fun k => spec_JoinBits.l1 k z a0 a1 a2 a3 a4 a5) (fun k => by rw [if_pos hneg, if_pos (by omega), hz]) ?_
          refine spec_cut r z.length z rfl (by omega) (fun x hx => ⟨Nat.le_trans (hzb x hx).1 (by omega), Nat.le_trans (hzb x hx).2.1 (by omega)⟩) ?_
          rw [← hy]
          exact t2)) hv.symm
        exact ⟨r, e1, e2, by omega, t4, fun _ => by omega, fun n hn => t5 n (fun x hx => by
          rw [hy] at hx
          have hx := List.mem_of_mem_drop hx
          rw [hz] at hx
          rcases List.mem_append.1 hx with h | h
          · exact hn x h
          · rw [List.mem_singleton.1 h]
            exact ⟨Nat.zero_le _, Nat.zero_le _, fun s hs => by cases hs⟩)⟩
      · obtain ⟨j, hjl, hbj⟩ : ∃ j : Nat, j < l.length ∧ b = (j : Int) := by
          rcases hbF with ⟨h, _⟩ | ⟨j, _, h1, h2, _⟩
          · omega
          · exact ⟨j, h1, h2⟩
        obtain ⟨r, t1, t2, t3, t4, t5⟩ := tail_both (a0 := a0) (a1 := a1) (a2 := a2) (a3 := a3) (a4 := a4) (a5 := a5) l j hjl (by omega) hb ha5
        rw [← hbj] at t1 t2
        obtain ⟨e1, e2⟩ := h01 false r (by
          refine Ev.step (fun k => by simp only [impl_JoinBits.j1, Bool.false_eq_true, if_false]; rfl) ?_
          refine Ev.bind hi ?_
          exact Ev.congr (f := fun k => impl_JoinBits.j2 k l b a0 a1 a2 a3 a4 a5) (fun k => if_neg hneg) t1) (hsp r (Ev.congr (f := fun k => spec_JoinBits.j5 k l b a0 a1 a2 a3 a4 a5) (fun k => by rw [if_neg hneg]) t2)) hv.symm
        exact ⟨r, e1, e2, by omega, t4, fun _ => by omega, t5⟩
  · have hok' : (dgB a0 a1 a2 a3 a4 a5 && rng now 0 999999990) = false := by simpa using hok
    obtain ⟨e1, e2⟩ := hgo true (l, 0, 0, 0, 0, false, ⟨#[]⟩, false) (Ev.step (f := fun _ => some (l, 0, 0, 0, 0, false, ⟨#[]⟩, false)) (fun k => by simp only [impl_JoinBits.j0, if_true]) (Ev.now _)) (Ev.step (f := fun _ => some (l, 0, 0, 0, 0, false, ⟨#[]⟩, false)) (fun k => by simp only [spec_JoinBits.j0, if_true]) (Ev.now _)) (by rw [hok']; rfl)
    exact ⟨_, e1, e2, Nat.le_succ _, hlo, fun h => h, fun n hn x hx => (hn x hx).up (Nat.le_succ n)⟩
end

/-! ### draw -/
def Cur (b : List Int) (i : Int) : Prop := 0 ≤ i ∧ i ≤ (b.length : Int)
theorem new_loop (b : List Int) : ∀ (d : Nat) (i x : Int), 0 ≤ i → i ≤ 4000 → 4000 - i ≤ d → ∃ h, ∀ k, d < k → spec_l01New.l0 k b x i = some (b, 0, h) := by
  intro d
  induction d with
  | zero =>
    intro i x h0 h1 hd
    refine ⟨x, fun k hk => ?_⟩
    obtain ⟨k, rfl⟩ : ∃ m, k = m + 1 := ⟨k - 1, by omega⟩
    simp only [spec_l01New.l0]
    by_cases hl : i < (b.length : Int)
    · rw [if_pos hl, if_neg (by omega)]
    · rw [if_neg hl]
  | succ d ih =>
    intro i x h0 h1 hd
    by_cases hl : i < (b.length : Int) ∧ i < 4000
    · obtain ⟨h, ih⟩ := ih (i + 1) (Go.bits .and .i64 (wrap64 ((wrap64 ((wrap64 (x * 131)) + (wrap64 (rd b i)))) + 7)) 1073741823) (by omega) (by omega) (by omega)
      refine ⟨h, fun k hk => ?_⟩
      obtain ⟨k, rfl⟩ : ∃ m, k = m + 1 := ⟨k - 1, by omega⟩
      simp only [spec_l01New.l0]
      rw [if_pos hl.1, if_pos hl.2, if_pos h0, w64 (x := i + 1) (by omega) (by omega)]
      exact ih k (by omega)
    · refine ⟨x, fun k hk => ?_⟩
      obtain ⟨k, rfl⟩ : ∃ m, k = m + 1 := ⟨k - 1, by omega⟩
      simp only [spec_l01New.l0]
      by_cases hl2 : i < (b.length : Int)
      · rw [if_pos hl2, if_neg (by omega)]
      · rw [if_neg hl2]
theorem new_ok (b : List Int) : ∃ h, Ev (fun k => spec_l01New.f k b) (b, 0, h) := by
  obtain ⟨h, hk⟩ := new_loop b 4000 0 (wrap64 (37401 + (b.length : Int))) (by omega) (by omega) (by omega)
  exact ⟨h, 4001, fun k h1 => hk k (by omega)⟩
theorem cur_zero (b : List Int) : Cur b 0 := ⟨by omega, by omega⟩
theorem byte_ok {b : List Int} {i : Int} (h : Int) (hb : b.length ≤ 1048576) (hi : Cur b i) : ∃ v i' h', spec_l01Byte.f b i h = some (v, i', h') ∧ (0 ≤ v ∧ v ≤ 255) ∧ Cur b i' := by
  obtain ⟨h0, h1⟩ := hi
  unfold spec_l01Byte.f
  by_cases hl : i < (b.length : Int)
  · rw [if_pos hl, if_pos h0]
    refine ⟨_, _, _, rfl, ?_, ?_⟩
    · rw [and255]; omega
    · rw [w64 (by omega) (by omega)]; exact ⟨by omega, by omega⟩
  · rw [if_neg hl]
    refine ⟨_, _, _, rfl, ?_, h0, h1⟩
    rw [and255]; omega
theorem tmod_below {x n : Int} (hx : 0 ≤ x) (hn : 0 < n) : 0 ≤ Int.tmod x n ∧ Int.tmod x n < n := by
  rw [Int.tmod_eq_emod_of_nonneg hx]
  exact ⟨Int.emod_nonneg _ (by omega), Int.emod_lt_of_pos _ hn⟩
theorem below_ok {b : List Int} {i : Int} (h n : Int) (hb : b.length ≤ 1048576) (hi : Cur b i) : ∃ v i' h', spec_l01Below.f b i h n = some (v, i', h') ∧ (0 ≤ v ∧ (0 < n → v < n) ∧ (n ≤ 0 → v = 0)) ∧ Cur b i' := by
  unfold spec_l01Below.f
  by_cases hn : n ≤ 0
  · rw [if_pos hn]
    exact ⟨0, i, h, rfl, ⟨by omega, fun h => by omega, fun _ => rfl⟩, hi⟩
  · rw [if_neg hn]
    by_cases hs : n ≤ 256
    · rw [if_pos hs]
      obtain ⟨v, i', h', e, hv, hi'⟩ := byte_ok h hb hi
      rw [e]
      simp only [Option.bind_some]
      rw [if_neg (by omega)]
      have := tmod_below hv.1 (show 0 < n by omega)
      exact ⟨_, _, _, rfl, ⟨this.1, fun _ => this.2, fun h => absurd h hn⟩, hi'⟩
    · rw [if_neg hs]
      obtain ⟨v1, i1, h1, e1, hv1, hi1⟩ := byte_ok h hb hi
      rw [e1]
      simp only [Option.bind_some]
      obtain ⟨v2, i2, h2, e2, hv2, hi2⟩ := byte_ok h1 hb hi1
      rw [e2]
      simp only [Option.bind_some]
      obtain ⟨v3, i3, h3, e3, hv3, hi3⟩ := byte_ok h2 hb hi2
      rw [e3]
      simp only [Option.bind_some]
      obtain ⟨v4, i4, h4, e4, hv4, hi4⟩ := byte_ok h3 hb hi3
      rw [e4]
      simp only [Option.bind_some]
      rw [if_neg (by omega)]
      rw [w64 (x := v1 * 16777216) (by omega) (by omega), w64 (x := v2 * 65536) (by omega) (by omega), w64 (x := v3 * 256) (by omega) (by omega), w64 (x := v1 * 16777216 + v2 * 65536) (by omega) (by omega),
        w64 (x := v1 * 16777216 + v2 * 65536 + v3 * 256) (by omega) (by omega), w64 (x := v1 * 16777216 + v2 * 65536 + v3 * 256 + v4) (by omega) (by omega)]
      have := tmod_below (show 0 ≤ v1 * 16777216 + v2 * 65536 + v3 * 256 + v4 by omega) (show 0 < n by omega)
      exact ⟨_, _, _, rfl, ⟨this.1, fun _ => this.2, fun h => absurd h hn⟩, hi4⟩
theorem big_eq (b : List Int) : laws_big.f b = some (decide ((b.length : Int) > 1048576)) := rfl

/-! ### tot -/
def Tot {α : Type} (g : Nat → Option α) (P : α → Prop) : Prop := ∃ r, Ev g r ∧ P r
theorem Tot.bind {α β : Type} {g : Nat → Option α} {f : Nat → α → Option β} {P : α → Prop} {Q : β → Prop} (h : Tot g P) (h2 : ∀ r, P r → Tot (fun k => f k r) Q) : Tot (fun k => (g k).bind (f k)) Q := by
  obtain ⟨r, e, hr⟩ := h
  obtain ⟨q, e2, hq⟩ := h2 r hr
  exact ⟨q, Ev.bind e e2, hq⟩
theorem Tot.ret {α : Type} {P : α → Prop} (r : α) (h : P r) : Tot (fun _ => some r) P := ⟨r, Ev.now _, h⟩
theorem Tot.step {α : Type} {F f : Nat → Option α} {P : α → Prop} (hs : ∀ k, F (k + 1) = f k) (h : Tot f P) : Tot F P := by
  obtain ⟨r, e, hr⟩ := h
  exact ⟨r, Ev.step hs e, hr⟩
theorem Tot.mono {α : Type} {g : Nat → Option α} {P Q : α → Prop} (h : Tot g P) (hpq : ∀ r, P r → Q r) : Tot g Q := by
  obtain ⟨r, e, hr⟩ := h
  exact ⟨r, e, hpq r hr⟩
theorem Tot.of_some {α : Type} {o : Option α} {P : α → Prop} (r : α) (e : o = some r) (h : P r) : Tot (fun _ => o) P := ⟨r, ⟨0, fun _ _ => e⟩, h⟩
theorem tByte {b : List Int} {i : Int} (h : Int) (hb : b.length ≤ 1048576) (hi : Cur b i) : Tot (fun _ => spec_l01Byte.f b i h) (fun r => (0 ≤ r.1 ∧ r.1 ≤ 255) ∧ Cur b r.2.1) := by
  obtain ⟨v, i', h', e, hv, hi'⟩ := byte_ok h hb hi
  exact Tot.of_some _ e ⟨hv, hi'⟩
theorem tBelow {b : List Int} {i : Int} (h n : Int) (hb : b.length ≤ 1048576) (hi : Cur b i) : Tot (fun _ => spec_l01Below.f b i h n) (fun r => (0 ≤ r.1 ∧ (0 < n → r.1 < n) ∧ (n ≤ 0 → r.1 = 0)) ∧ Cur b r.2.1) := by
  obtain ⟨v, i', h', e, hv, hi'⟩ := below_ok h n hb hi
  exact Tot.of_some _ e ⟨hv, hi'⟩
theorem rd_mem {l : List Int} {i : Int} (h0 : 0 ≤ i) (h1 : i < (l.length : Int)) : rd l i ∈ l := by
  unfold rd
  rw [List.getD_eq_getElem?_getD, List.getElem?_eq_getElem (by omega), Option.getD_some]
  exact List.getElem_mem _
theorem tPick {b : List Int} {i : Int} (h : Int) (l : List Int) (hb : b.length ≤ 1048576) (hi : Cur b i) (hl : 0 < l.length) : Tot (fun _ => spec_l01PickInt.f b i h l) (fun r => r.1 ∈ l ∧ Cur b r.2.1) := by
  obtain ⟨v, i', h', e, hv, hi'⟩ := below_ok h (l.length : Int) hb hi
  have h1 := hv.2.1 (by omega)
  refine Tot.of_some (rd l v, i', h') ?_ ⟨rd_mem hv.1 h1, hi'⟩
  unfold spec_l01PickInt.f
  rw [e]
  simp only [Option.bind_some]
  rw [if_pos hv.1, if_pos h1]
theorem tOnce {b : List Int} {i : Int} (h n : Int) (hb : b.length ≤ 1048576) (hi : Cur b i) : Tot (fun _ => spec_l01Once.f b i h n) (fun r => Cur b r.2.1) := by
  obtain ⟨v, i', h', e, _, hi'⟩ := below_ok h n hb hi
  refine Tot.of_some (v == 0, i', h') ?_ hi'
  unfold spec_l01Once.f
  rw [e]
  rfl

/-! ### text -/
theorem text_loop {b : List Int} (hb : b.length ≤ 1048576) (n : Int) (hn : n ≤ 5000) : ∀ (d : Nat) (acc : List Int) (j : Int) (i h : Int), Cur b i → (acc.length : Int) = j → n - j ≤ d → (j ≤ n ∨ j = 0) →
    Tot (fun k => spec_l01Text.l0 k n acc j b i h) (fun r => (r.1.size : Int) = mx 0 n ∧ Cur b r.2.1) := by
  intro d
  induction d with
  | zero =>
    intro acc j i h hi hl hd hj
    refine Tot.step (f := fun _ => some (strOfNums acc, i, h)) (fun k => by simp only [spec_l01Text.l0]; rw [if_neg (by omega)]) (Tot.ret _ ⟨?_, hi⟩)
    rw [strOfNums_size]
    unfold mx
    split <;> omega
  | succ d ih =>
    intro acc j i h hi hl hd hj
    by_cases hjn : j < n
    · refine Tot.step (fun k => rfl) ?_
      simp only [spec_l01Text.l0, if_pos hjn]
      refine Tot.bind (tByte h hb hi) fun r hr => ?_
      have hlen : acc.length < 140737488355328 := by omega
      simp only [if_pos hlen]
      rw [w64 (by omega) (by omega)]
      exact ih (acc ++ [r.1 % 256]) (j + 1) r.2.1 r.2.2 hr.2 (by rw [List.length_append, List.length_singleton]; omega) (by omega) (by omega)
    · refine Tot.step (f := fun _ => some (strOfNums acc, i, h)) (fun k => by simp only [spec_l01Text.l0]; rw [if_neg hjn]) (Tot.ret _ ⟨?_, hi⟩)
      rw [strOfNums_size]
      unfold mx
      split <;> omega
theorem tText {b : List Int} {i : Int} (h n : Int) (hb : b.length ≤ 1048576) (hi : Cur b i) : Tot (fun k => spec_l01Text.f k b i h n) (fun r => r.1.size ≤ 5000 ∧ (0 ≤ n → n ≤ 5000 → (r.1.size : Int) = n) ∧ Cur b r.2.1) := by
  unfold spec_l01Text.f
  by_cases hn : n > 5000
  · simp only [if_pos hn]
    refine Tot.step (f := fun k => spec_l01Text.l0 k 5000 [] 0 b i h) (fun k => rfl) ((text_loop hb 5000 (by omega) 5000 [] 0 i h hi rfl (by omega) (by omega)).mono fun r hr => ⟨?_, fun h0 h1 => absurd h1 (by omega), hr.2⟩)
    have := hr.1
    unfold mx at this
    rw [if_pos (by omega)] at this
    omega
  · simp only [if_neg hn]
    refine Tot.step (f := fun k => spec_l01Text.l0 k n [] 0 b i h) (fun k => rfl) ((text_loop hb n (by omega) 5000 [] 0 i h hi rfl (by omega) (by omega)).mono fun r hr => ?_)
    have h2 := hr.1
    unfold mx at h2
    refine ⟨?_, fun h0 h1 => ?_, hr.2⟩
    · split at h2 <;> omega
    · split at h2 <;> omega
theorem long_loop (n c : Int) (hn : n ≤ 1000000) : ∀ (d : Nat) (j : Int) (l : List Int), (l.length : Int) = n → 0 ≤ j → n - j ≤ d → j ≤ n → Tot (fun k => spec_l01Long.l0 k n c l j) (fun r => (r.size : Int) = n) := by
  intro d
  induction d with
  | zero =>
    intro j l hl h0 hd hj
    refine Tot.step (f := fun _ => some (strOfNums l)) (fun k => by simp only [spec_l01Long.l0]; rw [if_neg (by omega)]) (Tot.ret _ (by rw [strOfNums_size]; exact hl))
  | succ d ih =>
    intro j l hl h0 hd hj
    by_cases hjn : j < n
    · refine Tot.step (fun k => by simp only [spec_l01Long.l0]; rw [if_pos hjn, if_pos h0, if_pos (by omega), w64 (by omega) (by omega)]) ?_
      exact ih (j + 1) (l.set j.toNat c) (by rw [List.length_set]; exact hl) (by omega) (by omega) (by omega)
    · refine Tot.step (f := fun _ => some (strOfNums l)) (fun k => by simp only [spec_l01Long.l0]; rw [if_neg hjn]) (Tot.ret _ (by rw [strOfNums_size]; exact hl))
theorem tLong (n c : Int) (h0 : 0 ≤ n) (hn : n ≤ 1000000) : Tot (fun k => spec_l01Long.f k n c) (fun r => (r.size : Int) = n) := by
  unfold spec_l01Long.f
  simp only [if_pos h0, if_pos (show n.toNat ≤ 281474976710656 by omega)]
  exact long_loop n c hn n.toNat 0 _ (by rw [List.length_replicate]; omega) (by omega) (by omega) (by omega)

/-! ### dgdraw -/
theorem tDgram {b : List Int} {i : Int} (h : Int) (hb : b.length ≤ 1048576) (hi : Cur b i) : Tot (fun k => spec_l11Dgram.f k b i h) (fun r => r.2.2.2.2.2.1.size ≤ 5000 ∧ Cur b r.2.2.2.2.2.2.1) := by
  unfold spec_l11Dgram.f
  refine Tot.bind (tBelow h 3 hb hi) fun r hr => ?_
  refine Tot.bind (tBelow r.2.2 3 hb hr.2) fun r2 hr2 => ?_
  refine Tot.bind (tBelow r2.2.2 4 hb hr2.2) fun r3 hr3 => ?_
  refine Tot.bind (tBelow r3.2.2 30 hb hr3.2) fun r4 hr4 => ?_
  refine Tot.bind (tText r4.2.2 _ hb hr4.2) fun r5 hr5 => ?_
  refine Tot.bind (tOnce r5.2.2 4 hb hr5.2.2) fun r6 hr6 => ?_
  by_cases h6 : r6.1 = true
  · simp only [if_pos h6]
    refine Tot.bind (tPick r6.2.2 [1, 8, 64, 100, 160] hb hr6 (by simp)) fun r7 hr7 => ?_
    have h7 : 0 ≤ r7.1 ∧ r7.1 ≤ 160 := by have := hr7.1; simp at this; omega
    refine Tot.bind (tLong r7.1 66 h7.1 (by omega)) fun r8 hr8 => ?_
    exact Tot.ret _ ⟨by show r8.size ≤ 5000; omega, hr7.2⟩
  · simp only [if_neg h6]
    exact Tot.ret _ ⟨hr5.1, hr6⟩
theorem tAnyDg {b : List Int} {i : Int} (h : Int) (hb : b.length ≤ 1048576) (hi : Cur b i) : Tot (fun k => spec_l11Any.f k b i h) (fun r => r.2.2.2.2.2.1.size ≤ 5000 ∧ Cur b r.2.2.2.2.2.2.1) := by
  unfold spec_l11Any.f
  refine Tot.bind (tDgram h hb hi) fun r hr => ?_
  refine Tot.bind (tBelow _ 16 hb hr.2) fun q hq => ?_
  by_cases h0 : q.1 = 0
  · simp only [if_pos h0]
    refine Tot.bind (tPick q.2.2 _ hb hq.2 (by simp)) fun u hu => ?_
    exact Tot.ret _ ⟨hr.1, hu.2⟩
  · simp only [if_neg h0]
    by_cases h1 : q.1 = 1
    · simp only [if_pos h1]
      refine Tot.bind (tPick q.2.2 _ hb hq.2 (by simp)) fun u hu => ?_
      exact Tot.ret _ ⟨hr.1, hu.2⟩
    · simp only [if_neg h1]
      by_cases h2 : q.1 = 2
      · simp only [if_pos h2]
        refine Tot.bind (tPick q.2.2 _ hb hq.2 (by simp)) fun u hu => ?_
        exact Tot.ret _ ⟨hr.1, hu.2⟩
      · simp only [if_neg h2]
        by_cases h3 : q.1 = 3
        · simp only [if_pos h3]
          exact Tot.ret _ ⟨hr.1, hq.2⟩
        · simp only [if_neg h3]
          by_cases h4 : q.1 = 4
          · simp only [if_pos h4]
            refine Tot.bind (tPick q.2.2 [0, 160, 161] hb hq.2 (by simp)) fun u hu => ?_
            have hu1 : 0 ≤ u.1 ∧ u.1 ≤ 161 := by have := hu.1; simp at this; omega
            refine Tot.bind (tLong u.1 67 hu1.1 (by omega)) fun v hv => ?_
            exact Tot.ret _ ⟨by show v.size ≤ 5000; omega, hu.2⟩
          · simp only [if_neg h4]
            exact Tot.ret _ ⟨hr.1, hq.2⟩

/-! ### bitsdraw -/
theorem cutS_loop (a b c d : Int) (e : Bool) (s : ByteArray) (st : Int) (h8 : 8 ≤ st) (hst : st ≤ 160) (hs : s.size ≤ 160) : ∀ (n : Nat) (j : Int) (acc : List S62), 0 ≤ j → j ≤ 400 → (s.size : Int) - j ≤ n → acc.length + n ≤ 1000 →
    ∃ l : List S62, (acc.length ≤ l.length ∧ (j < (s.size : Int) → acc.length < l.length)) ∧ Ev (fun k => spec_CutDgram.l0 k st acc j a b c d e s) (l, true) := by
  intro n
  induction n with
  | zero =>
    intro j acc h0 h4 hn ha
    exact ⟨acc, ⟨Nat.le_refl _, fun h => absurd h (by omega)⟩, Ev.step (f := fun _ => some (acc, true)) (fun k => by simp only [spec_CutDgram.l0]; rw [if_neg (by omega)]) (Ev.now _)⟩
  | succ n ih =>
    intro j acc h0 h4 hn ha
    by_cases hj : j < (s.size : Int)
    · have hw : wrap64 (j + st) = j + st := w64 (by omega) (by omega)
      by_cases hg : j + st ≥ (s.size : Int)
      · obtain ⟨l, hl, h⟩ := ih (j + st) (acc ++ [(⟨a, b, c, wrap64 (d + j), e, s.extract (j : Int).toNat ((s.size : Int) : Int).toNat⟩ : S62)]) (by omega) (by omega) (by omega) (by rw [List.length_append, List.length_singleton]; omega)
        rw [List.length_append, List.length_singleton] at hl
        refine ⟨l, ⟨by omega, fun _ => by omega⟩, Ev.step (fun k => ?_) h⟩
        simp only [spec_CutDgram.l0, hw]
        rw [if_pos hj, if_pos hg, if_pos h0, if_pos (by omega), if_pos (by omega), if_pos (by omega)]
      · obtain ⟨l, hl, h⟩ := ih (j + st) (acc ++ [(⟨a, b, c, wrap64 (d + j), true, s.extract (j : Int).toNat ((j + st) : Int).toNat⟩ : S62)]) (by omega) (by omega) (by omega) (by rw [List.length_append, List.length_singleton]; omega)
        rw [List.length_append, List.length_singleton] at hl
        refine ⟨l, ⟨by omega, fun _ => by omega⟩, Ev.step (fun k => ?_) h⟩
        simp only [spec_CutDgram.l0, hw]
        rw [if_pos hj, if_neg hg, if_pos h0, if_pos (by omega), if_pos (by omega), if_pos (by omega)]
    · exact ⟨acc, ⟨Nat.le_refl _, fun h => absurd h (by omega)⟩, Ev.step (f := fun _ => some (acc, true)) (fun k => by simp only [spec_CutDgram.l0]; rw [if_neg hj]) (Ev.now _)⟩
theorem tCut (a b c d : Int) (e : Bool) (s : ByteArray) (n : Int) : Tot (fun k => spec_CutDgram.f k a b c d e s n) (fun r => r.2 = true → 0 < r.1.length) := by
  have hno : Ev (fun k => spec_CutDgram.j0 k n true a b c d e s) (([] : List S62), false) := Ev.step (f := fun _ => some (([] : List S62), false)) (fun k => by simp only [spec_CutDgram.j0, if_true]) (Ev.now _)
  cases hb : dgB a b c d e s with
  | false =>
    refine ⟨([], false), ?_, fun h => by cases h⟩
    unfold spec_CutDgram.f
    simp only [spec_dgB, hb, Option.bind_some, Bool.false_eq_true, if_false]
    exact hno
  | true =>
    obtain ⟨_, _, _, _, h1, hs, _⟩ := dgB_iff hb
    cases hn : rng n 8 160 with
    | false =>
      refine ⟨([], false), ?_, fun h => by cases h⟩
      unfold spec_CutDgram.f
      simp only [spec_dgB, hb, in_eq, hn, Option.bind_some, if_true, Bool.not_false]
      exact hno
    | true =>
      have hr := rng_iff.1 hn
      have hst : wrap64 ((wrap64 (Int.tdiv n 8)) * 8) = n / 8 * 8 := by
        rw [Int.tdiv_eq_ediv_of_nonneg (by omega), w64 (x := n / 8) (by omega) (by omega), w64 (by omega) (by omega)]
      obtain ⟨l, hl, h⟩ := cutS_loop a b c d e s (n / 8 * 8) (by omega) (by omega) (by omega) 160 0 [] (by omega) (by omega) (by omega) (by simp)
      refine ⟨(l, true), ?_, fun _ => Nat.lt_of_le_of_lt (Nat.zero_le _) (hl.2 (by omega))⟩
      unfold spec_CutDgram.f
      simp only [spec_dgB, hb, in_eq, hn, Option.bind_some, if_true, Bool.not_true]
      refine Ev.step (fun k => by simp only [spec_CutDgram.j0, Bool.false_eq_true, if_false, hst]) h
theorem bN.S {n : Nat} {x : S82} (h : bN n x) (hn : n ≤ 1049000) : bS x := ⟨Nat.le_trans h.1 hn, Nat.le_trans h.2.1 hn, h.2.2⟩
theorem tPlaceB {b : List Int} {i : Int} (h n : Int) (hb : b.length ≤ 1048576) (hi : Cur b i) : Tot (fun _ => spec_l01Place.f b i h n) (fun r => Cur b r.2.1) := by
  unfold spec_l01Place.f
  refine Tot.bind (tOnce h 15 hb hi) fun r hr => ?_
  by_cases h1 : r.1 = true
  · simp only [if_pos h1]
    refine Tot.bind (tPick _ _ hb hr (by simp)) fun q hq => ?_
    exact Tot.ret _ hq.2
  · simp only [if_neg h1]
    refine Tot.bind (tBelow _ n hb hr) fun q hq => ?_
    exact Tot.ret _ hq.2
def PB (b : List Int) (r : List S82 × Int × Int) : Prop := r.1.length ≤ 3 ∧ (∀ x ∈ r.1, bN 7 x) ∧ Cur b r.2.1
theorem tBits_exit {b : List Int} {i : Int} (h : Int) (l : List S82) (hb : b.length ≤ 1048576) (hi : Cur b i) (hl : l.length ≤ 3) (hx : ∀ x ∈ l, bN 7 x) :
    Tot (fun _ => if (l.length : Int) > 0 then ((spec_l01Once.f b i h 10).bind fun bt355 => (if bt355.1 = true then ((spec_l01PickInt.f b bt355.2.1 bt355.2.2 (([(-1), 8, 500] : List Int))).bind fun bt361 => (if 0 < (l.length : Int) then (some ((l.set (0 : Int).toNat (⟨(rd_T82 l 0).f0, (rd_T82 l 0).f1, (rd_T82 l 0).f2, (rd_T82 l 0).f3, bt361.1, (rd_T82 l 0).f5⟩ : S82)), bt361.2.1, bt361.2.2)) else (none))) else (some (l, bt355.2.1, bt355.2.2)))) else (some (l, i, h))) (PB b) := by
  by_cases h0 : (l.length : Int) > 0
  · simp only [if_pos h0]
    refine Tot.bind (tOnce h 10 hb hi) fun r hr => ?_
    by_cases h1 : r.1 = true
    · simp only [if_pos h1]
      refine Tot.bind (tPick _ [-1, 8, 500] hb hr (by simp)) fun q hq => ?_
      refine Tot.ret _ ⟨?_, ?_, hq.2⟩
      · show (l.set _ _).length ≤ 3
        rw [List.length_set]; exact hl
      · intro x hxm
        have h00 : 0 < l.length := by omega
        have hr0 : rd_T82 l 0 = l[0] := rdB (j := 0) h00
        rcases List.mem_or_eq_of_mem_set (show x ∈ l.set _ _ from hxm) with h | h
        · exact hx x h
        · have := hx _ (List.getElem_mem h00)
          rw [h, hr0]
          exact this
    · simp only [if_neg h1]
      exact Tot.ret _ ⟨hl, hx, hr⟩
  · simp only [if_neg h0]
    exact Tot.ret _ ⟨hl, hx, hi⟩
theorem tBits_loop {b : List Int} (hb : b.length ≤ 1048576) : ∀ (d n : Nat) (l : List S82) (i h : Int), 7 - n = d → n ≤ 7 → Cur b i → l.length ≤ 3 → (∀ x ∈ l, bN n x) → Tot (fun k => spec_l11Bits.l0 k l (n : Int) b i h) (PB b) := by
  intro d
  induction d with
  | zero =>
    intro n l i h hd hn hi hl hx
    refine Tot.step (fun k => rfl) ?_
    simp only [spec_l11Bits.l0]
    refine Tot.bind (tBelow h 7 hb hi) fun r hr => ?_
    have h1 := hr.1.2.1 (by omega)
    simp only [if_neg (show ¬ (n : Int) < r.1 by omega)]
    exact tBits_exit _ l hb hr.2 hl (fun x h => (hx x h).up hn)
  | succ d ih =>
    intro n l i h hd hn hi hl hx
    refine Tot.step (fun k => rfl) ?_
    simp only [spec_l11Bits.l0]
    refine Tot.bind (tBelow h 7 hb hi) fun r hr => ?_
    by_cases hj : (n : Int) < r.1
    · simp only [if_pos hj, w64 (x := (n : Int) + 1) (by omega) (by omega)]
      refine Tot.bind (tDgram r.2.2 hb hr.2) fun r2 hr2 => ?_
      refine Tot.bind (tBelow r2.2.2.2.2.2.2.2 2 hb hr2.2) fun r3 hr3 => ?_
      refine Tot.bind (tCut _ _ _ _ _ _ _) fun r4 hr4 => ?_
      by_cases h4 : r4.2 = true
      · simp only [if_pos h4]
        have h4l := hr4 h4
        refine Tot.bind (tBelow r3.2.2 (r4.1.length : Int) hb hr3.2) fun r5 hr5 => ?_
        have h5 := hr5.1.2.1 (by omega)
        simp only [if_pos hr5.1.1, if_pos h5]
        refine Tot.bind (tBelow r5.2.2 20 hb hr5.2) fun r6 hr6 => ?_
        obtain ⟨q, _, hq2, _, _, hq5, hq6⟩ := join_both (a0 := (rd_T62 r4.1 r5.1).f0) (a1 := (rd_T62 r4.1 r5.1).f1) (a2 := (rd_T62 r4.1 r5.1).f2) (a3 := (rd_T62 r4.1 r5.1).f3) (a4 := (rd_T62 r4.1 r5.1).f4) (a5 := (rd_T62 r4.1 r5.1).f5) (now := r6.1) l (by omega) (fun x h => (hx x h).S (by omega))
        refine Tot.bind (show Tot _ (fun z => z = q) from ⟨q, hq2, rfl⟩) fun q' hq' => ?_
        subst hq'
        exact ih (n + 1) q'.1 _ _ (by omega) (by omega) hr6.2 (hq5 hl) (hq6 n hx)
      · simp only [if_neg h4]
        exact ih (n + 1) l _ _ (by omega) (by omega) hr3.2 hl (fun x h => (hx x h).up (Nat.le_succ n))
    · simp only [if_neg hj]
      exact tBits_exit _ l hb hr.2 hl (fun x h => (hx x h).up hn)
theorem tBits {b : List Int} {i : Int} (h : Int) (hb : b.length ≤ 1048576) (hi : Cur b i) : Tot (fun k => spec_l11Bits.f k b i h) (PB b) := by
  unfold spec_l11Bits.f
  exact tBits_loop hb 7 0 [] i h (by omega) (by omega) hi (by simp) (fun x h => by cases h)
def PJ (r : List S82 × Int × Int × Int × Int × Bool × ByteArray × Int) : Prop := r.1.length ≤ 3 ∧ ∀ x ∈ r.1, bN 7 x
theorem tDrawJoin {b : List Int} (hb : b.length ≤ 1048576) : Tot (fun k => spec_DrawJoinBits.f k b) PJ := by
  unfold spec_DrawJoinBits.f
  obtain ⟨h, hn⟩ := new_ok b
  refine Tot.bind (P := fun r => r = (b, 0, h)) ⟨_, hn, rfl⟩ fun r hr => ?_
  subst hr
  refine Tot.bind (tBits h hb (cur_zero b)) fun r1 hr1 => ?_
  obtain ⟨hl, hx, hc⟩ := hr1
  refine Tot.bind (tAnyDg _ hb hc) fun r2 hr2 => ?_
  refine Tot.bind (tDgram _ hb hr2.2) fun r3 hr3 => ?_
  refine Tot.bind (tCut _ _ _ _ _ _ _) fun r4 hr4 => ?_
  have j2 : ∀ (o : Bool) (i h d0 d1 d2 d3 : Int) (d4 : Bool) (d5 : ByteArray), Cur b i → (o = true → 0 < r1.1.length) → Tot (fun k => spec_DrawJoinBits.j2 k r1.1 o b i h d0 d1 d2 d3 d4 d5) PJ := by
    intro o i h d0 d1 d2 d3 d4 d5 hi ho
    refine Tot.step (fun k => rfl) ?_
    simp only [spec_DrawJoinBits.j2]
    by_cases h1 : o = true
    · simp only [if_pos h1]
      have hl0 := ho h1
      refine Tot.bind (tBelow h (r1.1.length : Int) hb hi) fun q hq => ?_
      have hq1 := hq.1.2.1 (by omega)
      simp only [if_pos hq.1.1, if_pos hq1]
      refine Tot.bind (tBelow _ 4 hb hq.2) fun q2 hq2 => ?_
      refine Tot.bind (tOnce _ 2 hb hq2.2) fun q3 hq3 => ?_
      refine Tot.bind (tPlaceB _ 30 hb hq3) fun q4 hq4 => ?_
      exact Tot.ret _ ⟨hl, hx⟩
    · simp only [if_neg h1]
      refine Tot.bind (tPlaceB _ 30 hb hi) fun q4 hq4 => ?_
      exact Tot.ret _ ⟨hl, hx⟩
  have j1 : ∀ (i h d0 d1 d2 d3 : Int) (d4 : Bool) (d5 : ByteArray), Cur b i → Tot (fun k => spec_DrawJoinBits.j1 k r1.1 b i h d0 d1 d2 d3 d4 d5) PJ := by
    intro i h d0 d1 d2 d3 d4 d5 hi
    refine Tot.step (fun k => rfl) ?_
    simp only [spec_DrawJoinBits.j1]
    by_cases h1 : (r1.1.length : Int) > 0
    · simp only [if_pos h1]
      refine Tot.bind (tOnce _ 3 hb hi) fun q hq => ?_
      exact j2 _ _ _ _ _ _ _ _ _ hq (fun _ => by omega)
    · simp only [if_neg h1]
      exact j2 _ _ _ _ _ _ _ _ _ hi (fun h => by cases h)
  have j0 : ∀ (o : Bool) (i h d0 d1 d2 d3 : Int) (d4 : Bool) (d5 : ByteArray), Cur b i → (o = true → 0 < r4.1.length) → Tot (fun k => spec_DrawJoinBits.j0 k r1.1 r4.1 o b i h d0 d1 d2 d3 d4 d5) PJ := by
    intro o i h d0 d1 d2 d3 d4 d5 hi ho
    refine Tot.step (fun k => rfl) ?_
    simp only [spec_DrawJoinBits.j0]
    by_cases h1 : o = true
    · simp only [if_pos h1]
      have hl0 := ho h1
      refine Tot.bind (tBelow h (r4.1.length : Int) hb hi) fun q hq => ?_
      have hq1 := hq.1.2.1 (by omega)
      simp only [if_pos hq.1.1, if_pos hq1]
      exact j1 _ _ _ _ _ _ _ _ hq.2
    · simp only [if_neg h1]
      exact j1 _ _ _ _ _ _ _ _ hi
  by_cases h4 : r4.2 = true
  · simp only [if_pos h4]
    refine Tot.bind (tOnce _ 2 hb hr3.2) fun q hq => ?_
    exact j0 _ _ _ _ _ _ _ _ _ hq (fun _ => hr4 h4)
  · simp only [if_neg h4]
    exact j0 _ _ _ _ _ _ _ _ _ hr3.2 (fun h => by cases h)

/-! ### FnBits -/
def stay (a : Int) (b : S82) : Bool := !late a b
section
variable {x3 : List S82} {x5 : Int} {x6 : List S82} {o : Bool} {x9 : List S82} {x12 : List S82} {a b c d : Int} {e : Bool} {f : ByteArray}
theorem bits_l0 (h6 : x6.length ≤ 2000000) (q : Bool) (hq : Ev (fun k => laws_FnBits.l1 k x3 x5 x6 o x9 o x12 (((x6.filter (stay (wrap64 (x5 + 5)))).length : Nat) : Int) 0 a b c d e f a b c d e f) q) :
    ∀ (n j : Nat), x6.length - j = n → j ≤ x6.length → Ev (fun k => laws_FnBits.l0 k x3 x5 x6 o x9 o x12 ((((x6.take j).filter (stay (wrap64 (x5 + 5)))).length : Nat) : Int) (j : Int) a b c d e f a b c d e f) q := by
  intro n
  induction n with
  | zero =>
    intro j hn hj
    rw [List.take_of_length_le (by omega)]
    exact Ev.step (fun k => by simp only [laws_FnBits.l0]; rw [if_neg (by omega)]) hq
  | succ n ih =>
    intro j hn hj
    have hjl : j < x6.length := by omega
    have h := ih (j + 1) (by omega) (by omega)
    have hle := List.length_filter_le (stay (wrap64 (x5 + 5))) (x6.take j)
    rw [List.length_take] at hle
    rw [List.take_succ_eq_append_getElem hjl, List.filter_append, List.length_append] at h
    refine Ev.step (fun k => rfl) ?_
    simp only [laws_FnBits.l0, if_pos (show (j : Int) < (x6.length : Int) by omega), if_pos (show (0 : Int) ≤ (j : Int) by omega), rdB hjl, w64 (x := (j : Int) + 1) (by omega) (by omega), w64 (x := ((((x6.take j).filter (stay (wrap64 (x5 + 5)))).length : Nat) : Int) + 1) (by omega) (by omega)]
    generalize wrap64 (x5 + 5) = u at *
    by_cases hc : x6[j].f5 > u
    · have hp : stay u x6[j] = true := by unfold stay late; simp; omega
      simp only [if_pos hc]
      simp only [List.filter_cons, hp, if_true, List.filter_nil, List.length_singleton] at h
      exact h
    · have hp : stay u x6[j] = false := by unfold stay late; simp; omega
      simp only [if_neg hc]
      simp only [List.filter_cons, hp, Bool.false_eq_true, if_false, List.filter_nil, List.length_nil, Nat.add_zero] at h
      exact h
theorem bits_l1 (h12 : x12.length ≤ 2000000) (hs : ∀ x ∈ x12, stay (wrap64 (x5 + 5)) x = true) (h69 : x6.length = x9.length) (h3 : x3.length ≤ 3) (h63 : x6.length ≤ 3) (hle : x6.length ≤ x3.length + 1) :
    ∀ (n j : Nat), x12.length - j = n → j ≤ x12.length → Ev (fun k => laws_FnBits.l1 k x3 x5 x6 o x9 o x12 ((x12.length : Nat) : Int) (j : Int) a b c d e f a b c d e f) true := by
  intro n
  induction n with
  | zero =>
    intro j hn hj
    refine Ev.step (f := fun _ => some true) (fun k => ?_) (Ev.now _)
    simp only [laws_FnBits.l1, beq_self_eq_true, Bool.and_self, if_true]
    rw [if_neg (by omega), if_pos (by omega), w64 (by omega) (by omega), if_pos (by omega), if_neg (by omega), decide_eq_true (by omega)]
  | succ n ih =>
    intro j hn hj
    have hjl : j < x12.length := by omega
    have h := ih (j + 1) (by omega) (by omega)
    have hp := hs _ (List.getElem_mem hjl)
    refine Ev.step (fun k => rfl) ?_
    simp only [laws_FnBits.l1, if_pos (show (j : Int) < (x12.length : Int) by omega), if_pos (show (0 : Int) ≤ (j : Int) by omega), rdB hjl, w64 (x := (j : Int) + 1) (by omega) (by omega)]
    generalize wrap64 (x5 + 5) = u at *
    have hc : ¬ x12[j].f5 ≤ u := by unfold stay late at hp; simp at hp; omega
    simp only [if_neg hc]
    exact h
end
theorem FnBits : StFnBits.Pure := by
  intro l
  intros
  by_cases hbig : (l.length : Int) > 1048576
  · exact ⟨0, by unfold laws_FnBits.f; rw [big_eq]; simp [hbig]⟩
  · have hbl : l.length ≤ 1048576 := by omega
    obtain ⟨⟨li, a, b, c, d, e, f, now⟩, he, hl, hx⟩ := tDrawJoin hbl
    have hl' : li.length ≤ 3 := hl
    have hx' : ∀ x ∈ li, bN 7 x := hx
    obtain ⟨⟨g0, g1, g2, g3, g4, g5, g6, g7⟩, h1, h2, h3, h4, h5, h6⟩ := join_both (a0 := a) (a1 := b) (a2 := c) (a3 := d) (a4 := e) (a5 := f) (now := now) li (by omega) (fun x h => (hx' x h).S (by omega))
    have k3 : g0.length ≤ li.length + 1 := h3
    have k5 : g0.length ≤ 3 := h5 hl'
    have k4 : ∀ x ∈ g0, bOk x := h4
    have ht := tidy_impl g0 (wrap64 (now + 5)) (by omega) (fun x h => ⟨Nat.le_trans (k4 x h).1 (by omega), Nat.le_trans (k4 x h).2.1 (by omega)⟩)
    have hft := List.length_filter_le (stay (wrap64 (now + 5))) g0
    refine Ev.ex ?_ (r := true)
    unfold laws_FnBits.f
    rw [big_eq]
    simp only [Option.bind_some, hbig, decide_false, Bool.false_eq_true, if_false]
    refine Ev.bind he ?_
    refine Ev.bind h1 ?_
    refine Ev.bind h2 ?_
    refine Ev.bind ht ?_
    refine bits_l0 (x6 := g0) (show g0.length ≤ 2000000 by omega) true ?_ g0.length 0 rfl (Nat.zero_le _)
    exact bits_l1 (by show (g0.filter (stay (wrap64 (now + 5)))).length ≤ 2000000; omega) (fun x h => (List.mem_filter.1 h).2) rfl hl' k5 k3 _ 0 rfl (Nat.zero_le _)

end Go.Proofs.Ytmknnoeggkgkgaa.Pure
