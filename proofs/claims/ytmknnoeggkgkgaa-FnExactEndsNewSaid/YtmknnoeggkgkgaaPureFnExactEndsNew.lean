/- The pure statement of the law 'FnExactEndsNew', proved: over numbers, lists and texts alone. No condition. -/
import Derived.Test.YtmknnoeggkgkgaaStFnExactEndsNew
import Derived.Laws.BitsLemmas
namespace Go.Proofs.Ytmknnoeggkgkgaa.Pure
open Go.RowKit Go.Proofs.Ytmknnoeggkgkgaa.QFnExactEndsNew Go.Proofs.YtmknnoeggkgkgaaW.PrintWords Go.Proofs.YtmknnoeggkgkgaaW.PrintLast Go.Proofs.YtmknnoeggkgkgaaW.PrintMore Go.Proofs.Ytmknnoeggkgkgaa.StFnExactEndsNew Go.Proofs.Ytmknnoeggkgkgaa.Opens
set_option linter.unusedVariables false
set_option linter.unusedSimpArgs false

/-! ### base -/
theorem w64 {x : Int} (h0 : -9223372036854775808 ≤ x) (h1 : x ≤ 9223372036854775807) : wrap64 x = x := by unfold wrap64; omega
def rng (a b c : Int) : Bool := decide (b ≤ a) && decide (a ≤ c)
theorem in_eq (a b c : Int) : spec_l01In.f a b c = some (rng a b c) := by
  unfold spec_l01In.f rng
  by_cases h : b ≤ a
  · rw [if_pos h]; simp [h]
  · rw [if_neg h]; simp [h]
theorem within_eq (a b c : Int) : impl_within.f a b c = some (rng a b c) := by
  unfold impl_within.f rng
  by_cases h : b ≤ a
  · rw [if_pos h]; simp [h]
  · rw [if_neg h]; simp [h]

/-! ### loops -/
def mt (n : Int) : ByteArray := (laws_markText.f 20 n).getD ⟨#[]⟩
theorem streamNew_same (a : Int) (b : Bool) : ∃ s0 s1 s2 ok, spec_StreamNew.f a b = some (s0, s1, s2, 0, (⟨#[]⟩ : ByteArray), 0, 0, false, (⟨#[]⟩ : ByteArray), ([] : List S143), false, 0, 0, ok) ∧
    impl_StreamNew.f a b = some (s0, s1, s2, 0, (⟨#[]⟩ : ByteArray), 0, 0, false, (⟨#[]⟩ : ByteArray), ([] : List S143), false, 0, 0, ok) := by
  unfold spec_StreamNew.f impl_StreamNew.f impl_isWord.f
  simp only [in_eq, within_eq, Option.bind_some]
  cases rng a 0 65535
  · exact ⟨_, _, _, _, rfl, rfl⟩
  · cases b
    · exact ⟨_, _, _, _, rfl, rfl⟩
    · exact ⟨_, _, _, _, rfl, rfl⟩
def newS (a b c : Int) : S39 := ⟨a, b, c, 0, (⟨#[]⟩ : ByteArray), 0, 0, false, (⟨#[]⟩ : ByteArray), ([] : List S143), false, 0, 0⟩
theorem spec_ends (a b : Int) : (∃ s0 s1 s2 t0 t1 t2, spec_EndsNew.f a b = some ([newS s0 s1 s2, newS t0 t1 t2], [[], []], [0, 0], [], 0, true) ∧ impl_EndsNew.f a b = some ([newS s0 s1 s2, newS t0 t1 t2], [[], []], [0, 0], [], 0, true)) ∨
    (spec_EndsNew.f a b = some ([], [], [], [], 0, false) ∧ impl_EndsNew.f a b = some ([], [], [], [], 0, false)) := by
  obtain ⟨s0, s1, s2, ok, e1, e2⟩ := streamNew_same a true
  obtain ⟨t0, t1, t2, ok', e3, e4⟩ := streamNew_same b false
  unfold spec_EndsNew.f impl_EndsNew.f
  rw [e1, e2]
  simp only [Option.bind_some]
  rw [e3, e4]
  simp only [Option.bind_some]
  cases ok
  · exact .inr ⟨rfl, rfl⟩
  · cases ok'
    · exact .inr ⟨rfl, rfl⟩
    · exact .inl ⟨s0, s1, s2, t0, t1, t2, rfl, rfl⟩
theorem eqS_new (k : Nat) (a b c : Int) : laws_eqStream.f (k + 1) a b c 0 (⟨#[]⟩ : ByteArray) 0 0 false (⟨#[]⟩ : ByteArray) ([] : List S143) false 0 0 a b c 0 (⟨#[]⟩ : ByteArray) 0 0 false (⟨#[]⟩ : ByteArray) ([] : List S143) false 0 0 = some true := by
  have e : laws_eqLateS.f (k + 1) [] [] = some true := by
    unfold laws_eqLateS.f
    rw [if_pos rfl]
    simp only [laws_eqLateS.l0]
    rw [if_neg (by decide)]
  unfold laws_eqStream.f
  rw [e]
  simp
theorem eqSS_new (k : Nat) (s0 s1 s2 t0 t1 t2 : Int) : laws_eqStreamS.f (k + 4) [newS s0 s1 s2, newS t0 t1 t2] [newS s0 s1 s2, newS t0 t1 t2] = some true := by
  have r0 : rd_T39 [newS s0 s1 s2, newS t0 t1 t2] 0 = newS s0 s1 s2 := rfl
  have r1 : rd_T39 [newS s0 s1 s2, newS t0 t1 t2] 1 = newS t0 t1 t2 := rfl
  have w1 : wrap64 (0 + 1) = 1 := (w64 (x := 0 + 1) (by omega) (by omega)).trans (by omega)
  have w2 : wrap64 (1 + 1) = 2 := (w64 (x := 1 + 1) (by omega) (by omega)).trans (by omega)
  have l2 : (([newS s0 s1 s2, newS t0 t1 t2] : List S39).length : Int) = 2 := rfl
  have q1 : laws_eqStream.f (k + 3) (newS s0 s1 s2).f0 (newS s0 s1 s2).f1 (newS s0 s1 s2).f2 (newS s0 s1 s2).f3 (newS s0 s1 s2).f4 (newS s0 s1 s2).f5 (newS s0 s1 s2).f6 (newS s0 s1 s2).f7 (newS s0 s1 s2).f8 (newS s0 s1 s2).f9 (newS s0 s1 s2).f10 (newS s0 s1 s2).f11 (newS s0 s1 s2).f12 (newS s0 s1 s2).f0 (newS s0 s1 s2).f1 (newS s0 s1 s2).f2 (newS s0 s1 s2).f3 (newS s0 s1 s2).f4 (newS s0 s1 s2).f5 (newS s0 s1 s2).f6 (newS s0 s1 s2).f7 (newS s0 s1 s2).f8 (newS s0 s1 s2).f9 (newS s0 s1 s2).f10 (newS s0 s1 s2).f11 (newS s0 s1 s2).f12 = some true := eqS_new (k + 2) s0 s1 s2
  have q2 : laws_eqStream.f (k + 2) (newS t0 t1 t2).f0 (newS t0 t1 t2).f1 (newS t0 t1 t2).f2 (newS t0 t1 t2).f3 (newS t0 t1 t2).f4 (newS t0 t1 t2).f5 (newS t0 t1 t2).f6 (newS t0 t1 t2).f7 (newS t0 t1 t2).f8 (newS t0 t1 t2).f9 (newS t0 t1 t2).f10 (newS t0 t1 t2).f11 (newS t0 t1 t2).f12 (newS t0 t1 t2).f0 (newS t0 t1 t2).f1 (newS t0 t1 t2).f2 (newS t0 t1 t2).f3 (newS t0 t1 t2).f4 (newS t0 t1 t2).f5 (newS t0 t1 t2).f6 (newS t0 t1 t2).f7 (newS t0 t1 t2).f8 (newS t0 t1 t2).f9 (newS t0 t1 t2).f10 (newS t0 t1 t2).f11 (newS t0 t1 t2).f12 = some true := eqS_new (k + 1) t0 t1 t2
  unfold laws_eqStreamS.f
  rw [if_pos rfl]
  rw [laws_eqStreamS.l0, l2, if_pos (by decide), if_pos (by decide), if_pos (by decide), r0, q1]
  simp only [Option.bind_some, if_true]
  rw [w1, laws_eqStreamS.l0, l2, if_pos (by decide), if_pos (by decide), if_pos (by decide), r1, q2]
  simp only [Option.bind_some, if_true]
  rw [w2, laws_eqStreamS.l0, l2, if_neg (by decide)]
theorem eqE_new (s0 s1 s2 t0 t1 t2 : Int) (k : Nat) (hk : k = 60 ∨ k = 61 ∨ k = 62) : laws_eqEnds.f k [newS s0 s1 s2, newS t0 t1 t2] [[], []] [0, 0] [] 0 [newS s0 s1 s2, newS t0 t1 t2] [[], []] [0, 0] [] 0 = some true := by
  have e2 : laws_eqBitsSS.f k [[], []] [[], []] = some true := by rcases hk with rfl | rfl | rfl <;> kernel_rfl
  have e3 : laws_eqIntS.f k [0, 0] [0, 0] = some true := by rcases hk with rfl | rfl | rfl <;> kernel_rfl
  have e4 : laws_eqStringS.f k [] [] = some true := by rcases hk with rfl | rfl | rfl <;> kernel_rfl
  have e1 : laws_eqStreamS.f k [newS s0 s1 s2, newS t0 t1 t2] [newS s0 s1 s2, newS t0 t1 t2] = some true := by
    rcases hk with rfl | rfl | rfl
    · exact eqSS_new 56 ..
    · exact eqSS_new 57 ..
    · exact eqSS_new 58 ..
  unfold laws_eqEnds.f
  rw [e1]
  simp only [Option.bind_some, if_true]
  rw [e2]
  simp only [Option.bind_some, if_true]
  rw [e3]
  simp only [Option.bind_some, if_true]
  rw [e4]
  simp only [Option.bind_some, if_true]
def mkS (c : Int) : S39 := ⟨c, c + 1, c + 2, c + 3, mt (c + 4), c + 5, c + 6, false, mt (c + 8), [], false, c + 10, c + 11⟩
theorem mark_new (s0 s1 s2 t0 t1 t2 : Int) : laws_markEnds.f 61 [newS s0 s1 s2, newS t0 t1 t2] [[], []] [0, 0] [] 0 1 = some (27, [mkS 1, mkS 13], [25, 26], []) := by kernel_rfl
theorem held_new (k : Nat) (hk : k = 60 ∨ k = 61) : laws_heldEnds.f k [mkS 1, mkS 13] [[], []] [25, 26] [] 0 1 = some 27 := by rcases hk with rfl | rfl <;> kernel_rfl
theorem FnExactEndsNew : StFnExactEndsNew.Pure := by
  intro a b _ _
  refine ⟨62, ?_⟩
  rcases spec_ends a b with ⟨s0, s1, s2, t0, t1, t2, e1, e2⟩ | ⟨e1, e2⟩
  · unfold laws_FnExactEndsNew.f
    rw [e1]
    simp only [Option.bind_some]
    rw [e2]
    simp only [Option.bind_some]
    rw [eqE_new _ _ _ _ _ _ 62 (by simp)]
    simp only [Option.bind_some, if_true]
    show laws_FnExactEndsNew.j0 (61 + 1) _ _ _ _ _ _ _ _ _ _ _ _ _ _ = _
    simp only [laws_FnExactEndsNew.j0]
    rw [if_neg (by simp), mark_new]
    simp only [Option.bind_some]
    rw [held_new 61 (by simp)]
    simp only [Option.bind_some]
    rw [if_neg (by decide), e2]
    simp only [Option.bind_some, if_true]
    rw [eqE_new _ _ _ _ _ _ 61 (by simp)]
    simp only [Option.bind_some, if_true]
    show laws_FnExactEndsNew.j1 (60 + 1) _ _ _ _ _ _ _ = _
    simp only [laws_FnExactEndsNew.j1]
    rw [if_neg (by simp), held_new 60 (by simp)]
    simp only [Option.bind_some]
    rw [if_neg (by decide)]
    simp
  · unfold laws_FnExactEndsNew.f
    rw [e1]
    simp only [Option.bind_some]
    rw [e2]
    simp only [Option.bind_some]
    rw [show laws_eqEnds.f 62 [] [] [] [] 0 [] [] [] [] 0 = some true by kernel_rfl]
    simp only [Option.bind_some, if_true]
    show laws_FnExactEndsNew.j0 (61 + 1) _ _ _ _ _ _ _ _ _ _ _ _ _ _ = _
    simp only [laws_FnExactEndsNew.j0]
    rw [if_neg (by simp), show laws_markEnds.f 61 [] [] [] [] 0 1 = some (1, [], [], []) by kernel_rfl]
    simp only [Option.bind_some]
    rw [show laws_heldEnds.f 61 [] [] [] [] 0 1 = some 1 by kernel_rfl]
    simp only [Option.bind_some]
    rw [if_neg (by decide), e2]
    simp only [Option.bind_some, if_true]
    rw [show laws_eqEnds.f 61 [] [] [] [] 0 [] [] [] [] 0 = some true by kernel_rfl]
    simp only [Option.bind_some, if_true]
    show laws_FnExactEndsNew.j1 (60 + 1) _ _ _ _ _ _ _ = _
    simp only [laws_FnExactEndsNew.j1]
    rw [if_neg (by simp), show laws_heldEnds.f 60 [] [] [] [] 0 1 = some 1 by kernel_rfl]
    simp only [Option.bind_some]
    rw [if_neg (by decide)]
    simp

end Go.Proofs.Ytmknnoeggkgkgaa.Pure
