/- More short words for a printed walk. No condition. -/
import Derived.Test.YtmknnoeggkgkgaaVFnBitshort7
import Derived.Test.YtmknnoeggkgkgaaVFnBitshort4
import Derived.Test.YtmknnoeggkgkgaaVFnBitsLast
namespace Go.Proofs.Ytmknnoeggkgkgaa.Short
open Go.RowKit Go.Proofs.YtmknnoeggkgkgaaW.PrintWords Go.Proofs.YtmknnoeggkgkgaaW.PrintLast Go.Proofs.YtmknnoeggkgkgaaW.PrintMore
theorem sp {α : Type} {p : Prop} {i : Decidable p} {x y : Option α} {r : α} (h : @ite _ p i x y = some r) : (p ∧ x = some r) ∨ (¬p ∧ y = some r) := by
  by_cases c : p
  · rw [if_pos c] at h; exact .inl ⟨c, h⟩
  · rw [if_neg c] at h; exact .inr ⟨c, h⟩
theorem sd {α : Type} {p : Prop} [i : Decidable p] {x y : Option α} {r : α} (h : @ite _ p i x y = some r) : (decide p = true ∧ x = some r) ∨ (decide p = false ∧ y = some r) := (sp h).imp (fun h => ⟨decide_eq_true h.1, h.2⟩) fun h => ⟨decide_eq_false h.1, h.2⟩
theorem sb {α : Type} {b : Bool} {i : Decidable (b = true)} {x y : Option α} {r : α} (h : @ite _ (b = true) i x y = some r) : (b = true ∧ x = some r) ∨ (b = false ∧ y = some r) := (sp h).imp id fun h => ⟨Bool.eq_false_iff.mpr h.1, h.2⟩
theorem yn {α : Type} {p : Prop} {i : Decidable p} {x : Option α} {r : α} (h : @ite _ p i x none = some r) : p ∧ x = some r := (sp h).elim id fun h => nomatch h.2
theorem yd {α : Type} {p : Prop} [i : Decidable p] {x : Option α} {r : α} (h : @ite _ p i x none = some r) : decide p = true ∧ x = some r := ⟨decide_eq_true (yn h).1, (yn h).2⟩
theorem ya {α : Type} {p : Prop} {i : Decidable p} {x : Option α} {r : α} (h : @ite _ p i x none = some r) : Aside0 p ∧ x = some r := ⟨⟨(yn h).1⟩, (yn h).2⟩
theorem ye {α : Type} {p : Prop} [i : Decidable p] {x : Option α} {r : α} (h : @ite _ p i x none = some r) : (p = True) ∧ decide p = true ∧ x = some r := ⟨eq_true (yn h).1, decide_eq_true (yn h).1, (yn h).2⟩
theorem hq {α β : Type} {y e : α} {f : α → Option β} {r : β} (hy : y = e) (h : (some e).bind f = some r) : f y = some r := by rw [hy]; exact h
theorem s2 {T0 T1 : Type} {a0 b0 : T0} {a1 b1 : T1} (h : some (a0, a1) = some (b0, b1)) : a0 = b0 ∧ a1 = b1 := by
  simp only [Option.some.injEq, Prod.mk.injEq] at h; exact h
theorem s3 {T0 T1 T2 : Type} {a0 b0 : T0} {a1 b1 : T1} {a2 b2 : T2} (h : some (a0, a1, a2) = some (b0, b1, b2)) : a0 = b0 ∧ a1 = b1 ∧ a2 = b2 := by
  simp only [Option.some.injEq, Prod.mk.injEq] at h; exact h
theorem s4 {T0 T1 T2 T3 : Type} {a0 b0 : T0} {a1 b1 : T1} {a2 b2 : T2} {a3 b3 : T3} (h : some (a0, a1, a2, a3) = some (b0, b1, b2, b3)) : a0 = b0 ∧ a1 = b1 ∧ a2 = b2 ∧ a3 = b3 := by
  simp only [Option.some.injEq, Prod.mk.injEq] at h; exact h
theorem s5 {T0 T1 T2 T3 T4 : Type} {a0 b0 : T0} {a1 b1 : T1} {a2 b2 : T2} {a3 b3 : T3} {a4 b4 : T4} (h : some (a0, a1, a2, a3, a4) = some (b0, b1, b2, b3, b4)) : a0 = b0 ∧ a1 = b1 ∧ a2 = b2 ∧ a3 = b3 ∧ a4 = b4 := by
  simp only [Option.some.injEq, Prod.mk.injEq] at h; exact h
theorem s8 {T0 T1 T2 T3 T4 T5 T6 T7 : Type} {a0 b0 : T0} {a1 b1 : T1} {a2 b2 : T2} {a3 b3 : T3} {a4 b4 : T4} {a5 b5 : T5} {a6 b6 : T6} {a7 b7 : T7} (h : some (a0, a1, a2, a3, a4, a5, a6, a7) = some (b0, b1, b2, b3, b4, b5, b6, b7)) : a0 = b0 ∧ a1 = b1 ∧ a2 = b2 ∧ a3 = b3 ∧ a4 = b4 ∧ a5 = b5 ∧ a6 = b6 ∧ a7 = b7 := by
  simp only [Option.some.injEq, Prod.mk.injEq] at h; exact h
section
variable {P : Program} {ops : Array Oper} {Q : Exit → Act → World → Prop} {S : World → Prop} {md : Region.Mode} {ds : List Nat} {T : Bool × List (List Nat × List Nat)} {B : List Nat}
theorem nm_ {fuel : Nat} {l : Array Bool} {a a' : Act} {w : World} (h : wpAnyLast P md ops Q S ds fuel l a' w) (ha : a = a' := by (show Act.put _ (some _) _ = _); simp only [Act.put, List.setIfInBounds_toArray, List.set_cons_zero, List.set_cons_succ, i64_w, i32_w]; rfl) : wpAnyLast P md ops Q S ds fuel l a w := norm_ ha h
theorem gM {rest : List Oper} {oi : Oper} {a : Act} {w : World} {V : Value} {R : World → Prop} (N : Option Tmp) {f : FuncId} {fn : Func} {as : Array Operand} {ts : Array TypeId} {args : Array Value} (hf : P.funcs[f]? = some fn) (hc : Calls P f args w fun e w' => e = .returned V ∧ R w') (h : ∀ w', R w' → wpList P ops Q rest (a.put N V) w') (hd : oi.dst = N := by rfl) (hg : oi.guard = none := by rfl) (hname : (fn.name == "runtime.NumGoroutine") = false := by kernel_rfl) (hb : fn.body.isSome = true := by rfl) (hop : oi.op = .call { callee := .value (.func f), args := as, argTypes := ts } := by rfl) (hargs : as.map a.eval = args := by (try simp only [List.map_toArray, List.map_cons, List.map_nil]); first | done | rfl | (simp only [List.length_drop, List.length_take]; rfl)) : wpList P ops Q (oi :: rest) a w := goesL_ N hd hg hf hname hb args hop hargs (hc.mono (by rintro e w' ⟨rfl, hr⟩; exact ⟨_, rfl, h w' hr⟩))
end
theorem Ab {p q : Prop} (x : Aside0 q) (h : q → p := by intro q_; (with_reducible repeat (first | refine blk_drewN ?_ _ | refine blk_drew ?_ | refine blk_alloc ?_ _)); exact q_) : p := h x.out
theorem Ap0 {p q : Prop} (x : Aside0 q) (h : q → p := by intro q_; (repeat (with_reducible (first | exact q_ | apply blk_drewN | apply blk_drew | apply blk_alloc | apply blk_put))); repeat (first | exact q_ | (simp only [List.setIfInBounds_toArray, List.set_cons_zero, List.set_cons_succ]; with_reducible rfl) | rfl)) : p := h x.out
theorem Ap1 {p q r0 : Prop} (x : Aside0 q) (z0 : Aside0 r0) (h : q → r0 → p := by intro q_ y0_; (repeat (with_reducible (first | exact q_ | apply blk_drewN | apply blk_drew | apply blk_alloc | apply blk_put | apply bf y0_))); repeat (first | exact q_ | (simp only [List.setIfInBounds_toArray, List.set_cons_zero, List.set_cons_succ]; with_reducible rfl) | rfl)) : p := h x.out z0.out
theorem wAp0 {p q : Prop} (x : Aside0 q) (h : q → p := by intro q_; rw [hw]; (repeat (with_reducible (first | exact q_ | apply blk_drewN | apply blk_drew | apply blk_alloc | apply blk_put))); repeat (first | exact q_ | (simp only [List.setIfInBounds_toArray, List.set_cons_zero, List.set_cons_succ]; with_reducible rfl) | rfl)) : p := h x.out
theorem wAp1 {p q r0 : Prop} (x : Aside0 q) (z0 : Aside0 r0) (h : q → r0 → p := by intro q_ y0_; rw [hw]; (repeat (with_reducible (first | exact q_ | apply blk_drewN | apply blk_drew | apply blk_alloc | apply blk_put | apply bf y0_))); repeat (first | exact q_ | (simp only [List.setIfInBounds_toArray, List.set_cons_zero, List.set_cons_succ]; with_reducible rfl) | rfl)) : p := h x.out z0.out
theorem Ae0 {p q : Prop} (x : Aside0 q) (h : q → p := by intro q_; repeat (first | (with_reducible first | exact q_ | apply below_alloc | apply pw_below_drewN | apply below_drew1) | exact q_)) : p := h x.out
theorem Ae1 {p q r0 : Prop} (x : Aside0 q) (z0 : Aside0 r0) (h : q → r0 → p := by intro q_ y0_; repeat (first | (with_reducible first | exact q_ | apply below_alloc | apply pw_below_drewN | apply below_drew1 | refine below_set ?_ y0_) | exact q_)) : p := h x.out z0.out
theorem Ae2 {p q r0 r1 : Prop} (x : Aside0 q) (z0 : Aside0 r0) (z1 : Aside0 r1) (h : q → r0 → r1 → p := by intro q_ y0_ y1_; repeat (first | (with_reducible first | exact q_ | apply below_alloc | apply pw_below_drewN | apply below_drew1 | refine below_set ?_ y0_ | refine below_set ?_ y1_) | exact q_)) : p := h x.out z0.out z1.out
theorem Ae3 {p q r0 r1 r2 : Prop} (x : Aside0 q) (z0 : Aside0 r0) (z1 : Aside0 r1) (z2 : Aside0 r2) (h : q → r0 → r1 → r2 → p := by intro q_ y0_ y1_ y2_; repeat (first | (with_reducible first | exact q_ | apply below_alloc | apply pw_below_drewN | apply below_drew1 | refine below_set ?_ y0_ | refine below_set ?_ y1_ | refine below_set ?_ y2_) | exact q_)) : p := h x.out z0.out z1.out z2.out
theorem wAe1 {p q r0 : Prop} (x : Aside0 q) (z0 : Aside0 r0) (h : q → r0 → p := by intro q_ y0_; rw [hw]; repeat (first | (with_reducible first | exact q_ | apply below_alloc | apply pw_below_drewN | apply below_drew1 | refine below_set ?_ y0_) | exact q_)) : p := h x.out z0.out
theorem wAe2 {p q r0 r1 : Prop} (x : Aside0 q) (z0 : Aside0 r0) (z1 : Aside0 r1) (h : q → r0 → r1 → p := by intro q_ y0_ y1_; rw [hw]; repeat (first | (with_reducible first | exact q_ | apply below_alloc | apply pw_below_drewN | apply below_drew1 | refine below_set ?_ y0_ | refine below_set ?_ y1_) | exact q_)) : p := h x.out z0.out z1.out
theorem Ak0 {p q : Prop} (x : Aside0 q) (h : q → p := by intro q_; repeat (first | (with_reducible first | exact q_ | apply KeepBut.set_ | apply keep_drewN | apply keep_drew | apply keep_alloc) | exact q_)) : p := h x.out
theorem Ak1 {p q r0 : Prop} (x : Aside0 q) (z0 : Aside0 r0) (h : q → r0 → p := by intro q_ y0_; repeat (first | (with_reducible first | exact q_ | apply KeepBut.set_ | apply keep_drewN | apply keep_drew | apply keep_alloc | refine keep_far ?_ y0_ _) | exact q_)) : p := h x.out z0.out
theorem Ak2 {p q r0 r1 : Prop} (x : Aside0 q) (z0 : Aside0 r0) (z1 : Aside0 r1) (h : q → r0 → r1 → p := by intro q_ y0_ y1_; repeat (first | (with_reducible first | exact q_ | apply KeepBut.set_ | apply keep_drewN | apply keep_drew | apply keep_alloc | refine keep_far ?_ y0_ _ | refine keep_far ?_ y1_ _) | exact q_)) : p := h x.out z0.out z1.out
theorem Ar {p q : Prop} (x : Aside0 q) (h : q → p := by intro q_; (with_reducible repeat (first | apply Kd.R_alloc | apply Kd.R_drewN | apply Kd.R_drew)); exact q_) : p := h x.out
theorem As {p q : Prop} (x : Aside0 q) (h : q → p := by intro q_; (with_reducible repeat (first | apply Kd.S_alloc | apply Kd.S_drewN | apply Kd.S_drew)); exact q_) : p := h x.out
section
variable {P : Program} {ops : Array Oper} {Q : Exit → Act → World → Prop} {Kc : Act → World → Prop} {o : Oper} {rest : List Oper} {a : Act} {α : Type} {S : World → Prop} {ds : List Nat} {T : Bool × List (List Nat × List Nat)} {B : List Nat}
end
end Go.Proofs.Ytmknnoeggkgkgaa.Short
