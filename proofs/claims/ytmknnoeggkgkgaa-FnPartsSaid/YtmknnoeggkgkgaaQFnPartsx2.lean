/- Functions that a law reaches, as functions of Lean, and the walks that show that the calls come to their answers: written by a program of this project out of the translation. No condition. -/
import Derived.Test.YtmknnoeggkgkgaaQFnPartsx0
import Derived.Test.YtmknnoeggkgkgaaShort4
import Derived.Test.YtmknnoeggkgkgaaShort3
import Derived.Test.YtmknnoeggkgkgaaShort2
import Derived.Test.YtmknnoeggkgkgaaShort
import Derived.Test.YtmknnoeggkgkgaaShort5
namespace Go.Proofs.Ytmknnoeggkgkgaa.QFnParts
open Go.RowKit Go.Proofs.YtmknnoeggkgkgaaW.PrintWords Go.Proofs.YtmknnoeggkgkgaaW.PrintLast Go.Proofs.YtmknnoeggkgkgaaW.PrintMore Go.Proofs.Ytmknnoeggkgkgaa.Short
attribute [local go_sem] max2_int min2_int max_two min_two max_three min_three max_four min_four   -- for this text's walks alone
set_option linter.unusedVariables false
set_option linter.unusedSimpArgs false

theorem B2x0_ {p : Prop} (h : p := by repeat (first | (with_reducible first | exact HI0.out | apply IsS159.alloc | apply IsS159.drewN | apply IsS159.drew | apply IsS159.set_1 | apply IsS159.set_2) | exact HI0.out)) : p := h
theorem B2x4_ {p : Prop} (h : p := by repeat (first | (with_reducible first | exact HI0.out | apply IsS159.alloc | apply IsS159.drewN | apply IsS159.drew | apply IsS159.set_1 | apply IsS159.set_2 | refine IsS159.far ?_ NB0_137.out _ | refine IsS159.far ?_ NB0_153.out _) | exact HI0.out)) : p := h
theorem B2x6_ {p : Prop} (h : p := by repeat (first | (with_reducible first | exact HI0.out | apply IsS159.alloc | apply IsS159.drewN | apply IsS159.drew | apply IsS159.set_1 | apply IsS159.set_2 | refine IsS159.far ?_ NB0_137.out _) | exact HI0.out)) : p := h
theorem B2x11_ {p : Prop} (h : p := by first | rfl | (simp [errW_none, errW_some] <;> rfl) | (simp [*, errW_none, errW_some] <;> rfl)) : p := h
theorem B2x19_ {p : Prop} (h : p := by repeat (first | (with_reducible first | exact HI171.out | apply IsS159.alloc | apply IsS159.drewN | apply IsS159.drew | apply IsS159.set_1 | apply IsS159.set_2 | refine IsS159.far ?_ NB171_167.out _) | exact HI171.out)) : p := h
theorem B2x24_ {p : Prop} (h : p := by rw [hw]; exact B2x4_) : p := h
theorem B2x25_ {p : Prop} (h : p := by rw [hw]; exact (te3 HB.out (IsS159.ge HI0.out) GE137.out GE153.out)) : p := h
theorem B2x26_ {p : Prop} (h : p := by rw [hw]; exact (tk2 HK.out GW137.out GW153.out)) : p := h
/-! ### laws_big: function 33 -/
def laws_big.f (l0 : List Int) : Option (Bool) := some (decide ((l0.length : Int) > 1048576))
set_option maxHeartbeats 8000000 in
set_option maxRecDepth 100000 in
theorem laws_big.calls (A0 : Option Addr) (c0 : Nat) (l0 : List Int) (r : Bool) (w : World) (hr0 : Kd.C (Kd.int .u8) w A0 l0.length l0) (hc0 : l0.length ≤ c0) (h : laws_big.f l0 = some r) :
  Calls Try.prog 33 #[.slice A0 l0.length c0] w fun e w' => e = .returned (.bool r) ∧ Drawn0 w w' := by
 have HR0 := am hr0
 have HC0 := am hc0
 clear hr0 hc0
 have H : (some (decide ((l0.length : Int) > 1048576))) = some r := h
 clear h
 obtain rfl := Option.some.inj H
 go_enter Try.func33, Try.ntmps33
 go_wp2
 go_ret
 exact ⟨gr_, gd_⟩

/-- A state of type 159 at block g of W; what its slices lead to came in by w0. -/
def IsS159 (w0 W : World) (g : Nat) (f0 : List Int) (f1 : Int) (f2 : Int) : Prop := ∃ A0 c0, W.heap[g]? = some (.cells #[.slice A0 f0.length c0, .int .i64 f1, .int .i64 f2] 159 (0, 0)) ∧ w0.heap.size ≤ g ∧ Kd.C (Kd.int .u8) w0 A0 f0.length f0
theorem IsS159.grown {w0 W : World} {g : Nat} {f0 : List Int} {f1 : Int} {f2 : Int} {W1 : World} {row : Option Nat} (h : IsS159 w0 W g f0 f1 f2) (hw : W.grownBy W1 row) (hne : some g ≠ row) : IsS159 w0 W1 g f0 f1 f2 := by
 obtain ⟨A0, c0, hb, hg, hr0⟩ := h
 exact ⟨A0, c0, blk_grown hb hw hne, hg, hr0⟩
theorem IsS159.own_neN {w0 W : World} {g : Nat} {f0 : List Int} {f1 : Int} {f2 : Int} {α : Type} {d : Kd α} {e : Nat} {base : Nat} {ok : Nat → Prop} {v : Value} {xs : List α} (h : IsS159 w0 W g f0 f1 f2) (ho : Kd.N d e W base ok v xs) (ht : e ≠ 159) : some g ≠ v.ownBlock := by
 obtain ⟨A0, c0, hb, hg, hr0⟩ := h
 exact Kd.N_ne ho hb ht
theorem IsS159.fresh {w0 W : World} {g : Nat} {f0 : List Int} {f1 : Int} {f2 : Int} (h : IsS159 w0 W g f0 f1 f2) : ∀ k, W.heap.size ≤ k → k ≠ g := by
 obtain ⟨A0, c0, hb, hg, hr0⟩ := h
 exact Kd.freshB hb
theorem IsS159.kept {w0 W : World} {g : Nat} {f0 : List Int} {f1 : Int} {f2 : Int} {W1 : World} {S : Nat → Prop} (h : IsS159 w0 W g f0 f1 f2) (hk : Kept W W1 S) (hne : ¬ S g) : IsS159 w0 W1 g f0 f1 f2 := by
 obtain ⟨A0, c0, hb, hg, hr0⟩ := h
 exact ⟨A0, c0, blk_kept hb hk hne, hg, hr0⟩
theorem IsS159.below {w0 W : World} {g : Nat} {f0 : List Int} {f1 : Int} {f2 : Int} {W1 : World} (h : IsS159 w0 W g f0 f1 f2) (hw : Below W.heap.size W W1) : IsS159 w0 W1 g f0 f1 f2 := h.grown (grown_of_below hw none) (by simp)
theorem IsS159.alloc {w0 W : World} {g : Nat} {f0 : List Int} {f1 : Int} {f2 : Int} (h : IsS159 w0 W g f0 f1 f2) (o : Obj) : IsS159 w0 (W.alloc o) g f0 f1 f2 := h.below (below_alloc (Below.refl _ _) o)
theorem IsS159.drewN {w0 W : World} {g : Nat} {f0 : List Int} {f1 : Int} {f2 : Int} (h : IsS159 w0 W g f0 f1 f2) (m : Nat) : IsS159 w0 (W.drewN m) g f0 f1 f2 := h
theorem IsS159.drew {w0 W : World} {g : Nat} {f0 : List Int} {f1 : Int} {f2 : Int} (h : IsS159 w0 W g f0 f1 f2) : IsS159 w0 W.drew g f0 f1 f2 := h
theorem IsS159.at_ {w0 W : World} {g : Nat} {f0 : List Int} {f1 : Int} {f2 : Int} {w' : World} {m : Nat} (hq : W.drewN m = w') (h : IsS159 w0 W g f0 f1 f2) : IsS159 w0 w' g f0 f1 f2 := by subst hq; exact IsS159.drewN h m
theorem IsS159.apart {w0 W : World} {g : Nat} {f0 : List Int} {f1 : Int} {f2 : Int} {α : Type} {d : Kd α} {e : Nat} {base : Nat} {ok : Nat → Prop} {v : Value} {xs : List α} (h : IsS159 w0 W g f0 f1 f2) (ho : d.R e W base ok v xs) (ht : ∀ q, q ∈ e :: d.E → q ≠ 159) : d.R e W base (fun k => ok k ∧ k ≠ g) v xs := by
 obtain ⟨A0, c0, hb, hg, hr0⟩ := h
 exact Kd.R_types ho hb ht
theorem IsS159.own_ne {w0 W : World} {g : Nat} {f0 : List Int} {f1 : Int} {f2 : Int} {α : Type} {d : Kd α} {e : Nat} {base : Nat} {ok : Nat → Prop} {v : Value} {xs : List α} (h : IsS159 w0 W g f0 f1 f2) (ho : d.R e W base ok v xs) (ht : e ≠ 159) : some g ≠ v.ownBlock := by
 obtain ⟨A0, c0, hb, hg, hr0⟩ := h
 exact Kd.R_ne ho hb ht
theorem IsS159.apartQ {w0 W : World} {g : Nat} {f0 : List Int} {f1 : Int} {f2 : Int} {α : Type} {d : Kd α} {e : Nat} {base : Nat} {ok : Nat → Prop} {v : Value} {xs : List α} (h : IsS159 w0 W g f0 f1 f2) (ho : d.Q e W base ok v xs) (ht : ∀ q, q ∈ e :: d.E → q ≠ 159) : d.Q e W base (fun k => ok k ∧ k ≠ g) v xs := by
 obtain ⟨A0, c0, hb, hg, hr0⟩ := h
 exact Kd.Q_types ho hb ht
theorem IsS159.own_neQ {w0 W : World} {g : Nat} {f0 : List Int} {f1 : Int} {f2 : Int} {α : Type} {d : Kd α} {e : Nat} {base : Nat} {ok : Nat → Prop} {v : Value} {xs : List α} (h : IsS159 w0 W g f0 f1 f2) (ho : d.Q e W base ok v xs) (ht : e ≠ 159) : some g ≠ v.ownBlock := by
 obtain ⟨A0, c0, hb, hg, hr0⟩ := h
 exact Kd.Q_ne ho hb ht
theorem IsS159.apartS {w0 W : World} {g : Nat} {f0 : List Int} {f1 : Int} {f2 : Int} {α : Type} {d : Kd α} {e : Nat} {base : Nat} {ok : Nat → Prop} {v : Value} {xs : List α} (h : IsS159 w0 W g f0 f1 f2) (ho : d.S e W base ok v xs) (ht : ∀ q, q ∈ e :: d.E → q ≠ 159) : d.S e W base (fun k => ok k ∧ k ≠ g) v xs := by
 obtain ⟨A0, c0, hb, hg, hr0⟩ := h
 exact Kd.S_types ho hb ht
theorem IsS159.own_neS {w0 W : World} {g : Nat} {f0 : List Int} {f1 : Int} {f2 : Int} {α : Type} {d : Kd α} {e : Nat} {base : Nat} {ok : Nat → Prop} {v : Value} {xs : List α} (h : IsS159 w0 W g f0 f1 f2) (ho : d.S e W base ok v xs) (ht : e ≠ 159) : some g ≠ v.ownBlock := by
 obtain ⟨A0, c0, hb, hg, hr0⟩ := h
 exact Kd.S_ne ho hb ht
theorem IsS159.lt {w0 W : World} {g : Nat} {f0 : List Int} {f1 : Int} {f2 : Int} (h : IsS159 w0 W g f0 f1 f2) : g < W.heap.size := by
 obtain ⟨A0, c0, hb, hg, hr0⟩ := h
 exact blk_lt hb
theorem IsS159.ge {w0 W : World} {g : Nat} {f0 : List Int} {f1 : Int} {f2 : Int} (h : IsS159 w0 W g f0 f1 f2) : w0.heap.size ≤ g := by
 obtain ⟨A0, c0, hb, hg, hr0⟩ := h
 exact hg
theorem IsS159.ne_blk {w0 W : World} {g : Nat} {f0 : List Int} {f1 : Int} {f2 : Int} {a : Nat} {cs : Array Value} {t : TypeId} {fr : Nat × Nat} (h : IsS159 w0 W g f0 f1 f2) (hb2 : W.heap[a]? = some (.cells cs t fr)) (ht : t ≠ 159) : g ≠ a := by
 obtain ⟨A0, c0, hb, hg, hr0⟩ := h
 rintro rfl
 rw [hb] at hb2
 injection hb2 with hb2
 injection hb2 with _ ht2
 exact ht ht2.symm
theorem IsS159.far {w0 W : World} {g : Nat} {f0 : List Int} {f1 : Int} {f2 : Int} {p : Addr} (h : IsS159 w0 W g f0 f1 f2) (hne : g ≠ p.block) (u : Value) : IsS159 w0 (W.setCell p u) g f0 f1 f2 := by
 obtain ⟨A0, c0, hb, hg, hr0⟩ := h
 exact ⟨A0, c0, blk_far hb hne u, hg, hr0⟩
theorem cellS159_0 {W : World} {g : Nat} {A0 : Option Addr} {c0 : Nat} {f0 : List Int} {f1 : Int} {f2 : Int} (h : W.heap[g]? = some (.cells #[.slice A0 f0.length c0, .int .i64 f1, .int .i64 f2] 159 (0, 0))) : W.cell? ⟨g, 0, none⟩ = some (.slice A0 f0.length c0) := (blk_cell h 0).trans rfl
theorem cellS159_1 {W : World} {g : Nat} {A0 : Option Addr} {c0 : Nat} {f0 : List Int} {f1 : Int} {f2 : Int} (h : W.heap[g]? = some (.cells #[.slice A0 f0.length c0, .int .i64 f1, .int .i64 f2] 159 (0, 0))) : W.cell? ⟨g, 1, none⟩ = some (.int .i64 f1) := (blk_cell h 1).trans rfl
theorem IsS159.set_1 {w0 W : World} {g : Nat} {f0 : List Int} {f1 : Int} {f2 : Int} (h : IsS159 w0 W g f0 f1 f2) (x : Int) : IsS159 w0 (W.setCell ⟨g, 1, none⟩ (.int .i64 x)) g f0 x f2 := by
 obtain ⟨A0, c0, hb, hg, hr0⟩ := h
 exact ⟨A0, c0, (by simpa using blk_set hb 1 (.int .i64 x)), hg, hr0⟩
theorem cellS159_2 {W : World} {g : Nat} {A0 : Option Addr} {c0 : Nat} {f0 : List Int} {f1 : Int} {f2 : Int} (h : W.heap[g]? = some (.cells #[.slice A0 f0.length c0, .int .i64 f1, .int .i64 f2] 159 (0, 0))) : W.cell? ⟨g, 2, none⟩ = some (.int .i64 f2) := (blk_cell h 2).trans rfl
theorem IsS159.set_2 {w0 W : World} {g : Nat} {f0 : List Int} {f1 : Int} {f2 : Int} (h : IsS159 w0 W g f0 f1 f2) (x : Int) : IsS159 w0 (W.setCell ⟨g, 2, none⟩ (.int .i64 x)) g f0 f1 x := by
 obtain ⟨A0, c0, hb, hg, hr0⟩ := h
 exact ⟨A0, c0, (by simpa using blk_set hb 2 (.int .i64 x)), hg, hr0⟩
theorem IsS159.new (w0 W : World) (A0 : Option Addr) (c0 : Nat) (f0 : List Int) (f1 : Int) (f2 : Int) (hB : Below w0.heap.size w0 W) (hr0 : Kd.C (Kd.int .u8) w0 A0 f0.length f0) : IsS159 w0 (W.alloc (.cells #[.slice A0 f0.length c0, .int .i64 f1, .int .i64 f2] 159)) W.heap.size f0 f1 f2 := ⟨A0, c0, (by simpa using heap_alloc_new W _), hB.size, hr0⟩

/-! ### spec_l01Byte: function 93 -/
def spec_l01Byte.f (s0_0 : List Int) (s0_1 : Int) (s0_2 : Int) : Option (Int × Int × Int) := if s0_1 < (s0_0.length : Int) then (if 0 ≤ s0_1 then (some (Go.bits .and .i64 (wrap64 ((Go.bits .and .i64 (Go.bits .xor .i64 ((wrap64 ((wrap64 (s0_2 * 6364136223846793005)) + 1442695040888963407)) / 8589934592) ((wrap64 ((wrap64 (s0_2 * 6364136223846793005)) + 1442695040888963407)) / 35184372088832)) 255) + (wrap64 (rd s0_0 s0_1)))) 255, wrap64 (s0_1 + 1), wrap64 ((wrap64 (s0_2 * 6364136223846793005)) + 1442695040888963407))) else (none)) else (some (Go.bits .and .i64 (Go.bits .xor .i64 ((wrap64 ((wrap64 (s0_2 * 6364136223846793005)) + 1442695040888963407)) / 8589934592) ((wrap64 ((wrap64 (s0_2 * 6364136223846793005)) + 1442695040888963407)) / 35184372088832)) 255, s0_1, wrap64 ((wrap64 (s0_2 * 6364136223846793005)) + 1442695040888963407)))
set_option maxHeartbeats 8000000 in
set_option maxRecDepth 100000 in
theorem spec_l01Byte.calls (g : Nat) (s0_0 : List Int) (s0_1 : Int) (s0_2 : Int) (r1 : Int) (r2 : Int) (r3 : Int) (w0 w : World) (hI : IsS159 w0 w g s0_0 s0_1 s0_2) (hB : Below w0.heap.size w0 w) (h : spec_l01Byte.f s0_0 s0_1 s0_2 = some (r1, r2, r3)) :
  Calls Try.prog 93 #[.pointer (some ⟨g, 0, none⟩)] w fun e w' => e = .returned (.int .i64 r1) ∧ IsS159 w0 w' g s0_0 r2 r3 ∧ Below w0.heap.size w0 w' ∧ KeepBut w w' g none := by
 have HI0 := am hI
 have HK := am (KeepBut.refl w g none)
 have HL := am hB.size
 clear hI
 have HW0 := am hB.size
 have HB := am hB
 clear hB
 have H : (if s0_1 < (s0_0.length : Int) then (if 0 ≤ s0_1 then (some (Go.bits .and .i64 (wrap64 ((Go.bits .and .i64 (Go.bits .xor .i64 ((wrap64 ((wrap64 (s0_2 * 6364136223846793005)) + 1442695040888963407)) / 8589934592) ((wrap64 ((wrap64 (s0_2 * 6364136223846793005)) + 1442695040888963407)) / 35184372088832)) 255) + (wrap64 (rd s0_0 s0_1)))) 255, wrap64 (s0_1 + 1), wrap64 ((wrap64 (s0_2 * 6364136223846793005)) + 1442695040888963407))) else (none)) else (some (Go.bits .and .i64 (Go.bits .xor .i64 ((wrap64 ((wrap64 (s0_2 * 6364136223846793005)) + 1442695040888963407)) / 8589934592) ((wrap64 ((wrap64 (s0_2 * 6364136223846793005)) + 1442695040888963407)) / 35184372088832)) 255, s0_1, wrap64 ((wrap64 (s0_2 * 6364136223846793005)) + 1442695040888963407)))) = some (r1, r2, r3) := h
 clear h
 by_cases c2 : s0_1 < (s0_0.length : Int)
 ·rw [if_pos c2] at H
  have c2b0 : decide (s0_1 < (s0_0.length : Int)) = true := decide_eq_true c2
  clear c2
  by_cases c3 : 0 ≤ s0_1
  rotate_left
  ·rw [if_neg c3] at H; exact absurd H (by simp)
  rw [if_pos c3] at H
  have c3b0 : decide (0 ≤ s0_1) = true := decide_eq_true c3
  clear c3; simp only [Option.some.injEq, Prod.mk.injEq] at H; obtain ⟨rfl, rfl, rfl⟩ := H; obtain ⟨ASz4_0, cSz4_0, HGz4, hgz4, HSz4_0⟩ := HI0.out; have hcz4_0 := cellS159_0 HGz4; have hcz4_1 := cellS159_1 HGz4; have hcz4_2 := cellS159_2 HGz4; have hfz4_1 := blk_frozen HGz4 1; have hfz4_2 := blk_frozen HGz4 2; clear HGz4 hgz4
  have p101 : 0 ≤ (s0_1 : Int) := dga
  have q101 : s0_1 < (s0_0.length : Int) := dga
  obtain ⟨ad101, e101, hx101_0⟩ := Kd.at_int HSz4_0 s0_1 p101 q101; cases e101
  have hn101_0 : ad101.block ≠ g := Nat.ne_of_lt (Nat.lt_of_lt_of_le (by have := World.block_lt_of_cell? _ _ hx101_0; first | rwa [add_block] at this | exact this) (IsS159.ge HI0.out))
  replace hx101_0 := pw_cell_below HB.out hx101_0; replace hx101_0 := (cell_far (p := ⟨g, 2, none⟩) (by first | (rw [add_block]; exact hn101_0) | (show (Addr.add _ _).block ≠ _; rw [add_block]; exact hn101_0) | exact hn101_0) (.int .i64 (wrap64 ((wrap64 (s0_2 * 6364136223846793005)) + 1442695040888963407)))).trans hx101_0; (try have hy101_0 := fun (n_ : Nat) => (show (((w.drewN n_).setCell ⟨g, 2, none⟩ (.int .i64 (wrap64 ((wrap64 (s0_2 * 6364136223846793005)) + 1442695040888963407))))).cell? _ = some _ from hx101_0)); clear hn101_0; replace p101 := eq_true p101; replace q101 := eq_true q101; go_enter Try.func93, Try.ntmps93
  go_wp2
  repeat (go_quiet (fail); try go_wp2)
  go_ret; exact ⟨B2x11_, B2x0_, (te1 HB.out (IsS159.ge HI0.out)), (tk0 HK.out)⟩
 ·rw [if_neg c2] at H
  have c2b0 : decide (s0_1 < (s0_0.length : Int)) = false := decide_eq_false c2
  clear c2; simp only [Option.some.injEq, Prod.mk.injEq] at H; obtain ⟨rfl, rfl, rfl⟩ := H; obtain ⟨ASz5_0, cSz5_0, HGz5, hgz5, HSz5_0⟩ := HI0.out; have hcz5_0 := cellS159_0 HGz5; have hcz5_1 := cellS159_1 HGz5; have hcz5_2 := cellS159_2 HGz5; have hfz5_1 := blk_frozen HGz5 1; have hfz5_2 := blk_frozen HGz5 2; clear HGz5 hgz5; go_enter Try.func93, Try.ntmps93
  go_wp2
  repeat (go_quiet (fail); try go_wp2)
  go_ret; exact ⟨B2x11_, B2x0_, (te1 HB.out (IsS159.ge HI0.out)), (tk0 HK.out)⟩

/-! ### spec_l01Below: function 94 -/
def spec_l01Below.f (s0_0 : List Int) (s0_1 : Int) (s0_2 : Int) (a1 : Int) : Option (Int × Int × Int) := if a1 ≤ 0 then (some (0, s0_1, s0_2)) else (if a1 ≤ 256 then ((spec_l01Byte.f s0_0 s0_1 s0_2).bind fun bt102 => (if a1 = 0 then (none) else (some (Int.tmod bt102.1 a1, bt102.2.1, bt102.2.2)))) else ((spec_l01Byte.f s0_0 s0_1 s0_2).bind fun bt105 => ((spec_l01Byte.f s0_0 bt105.2.1 bt105.2.2).bind fun bt108 => ((spec_l01Byte.f s0_0 bt108.2.1 bt108.2.2).bind fun bt111 => ((spec_l01Byte.f s0_0 bt111.2.1 bt111.2.2).bind fun bt114 => (if a1 = 0 then (none) else (some (Int.tmod (wrap64 ((wrap64 ((wrap64 ((wrap64 (bt105.1 * 16777216)) + (wrap64 (bt108.1 * 65536)))) + (wrap64 (bt111.1 * 256)))) + bt114.1)) a1, bt114.2.1, bt114.2.2))))))))
set_option maxHeartbeats 8000000 in
set_option maxRecDepth 100000 in
theorem spec_l01Below.calls (g : Nat) (s0_0 : List Int) (s0_1 : Int) (s0_2 : Int) (a1 : Int) (r1 : Int) (r2 : Int) (r3 : Int) (w0 w : World) (hI : IsS159 w0 w g s0_0 s0_1 s0_2) (hB : Below w0.heap.size w0 w) (h : spec_l01Below.f s0_0 s0_1 s0_2 a1 = some (r1, r2, r3)) :
  Calls Try.prog 94 #[.pointer (some ⟨g, 0, none⟩), .int .i64 a1] w fun e w' => e = .returned (.int .i64 r1) ∧ IsS159 w0 w' g s0_0 r2 r3 ∧ Below w0.heap.size w0 w' ∧ KeepBut w w' g none := by
 have HI0 := am hI
 have HK := am (KeepBut.refl w g none)
 have HL := am hB.size
 clear hI
 have HW0 := am hB.size
 have HB := am hB
 clear hB
 have H : (if a1 ≤ 0 then (some (0, s0_1, s0_2)) else (if a1 ≤ 256 then ((spec_l01Byte.f s0_0 s0_1 s0_2).bind fun bt102 => (if a1 = 0 then (none) else (some (Int.tmod bt102.1 a1, bt102.2.1, bt102.2.2)))) else ((spec_l01Byte.f s0_0 s0_1 s0_2).bind fun bt105 => ((spec_l01Byte.f s0_0 bt105.2.1 bt105.2.2).bind fun bt108 => ((spec_l01Byte.f s0_0 bt108.2.1 bt108.2.2).bind fun bt111 => ((spec_l01Byte.f s0_0 bt111.2.1 bt111.2.2).bind fun bt114 => (if a1 = 0 then (none) else (some (Int.tmod (wrap64 ((wrap64 ((wrap64 ((wrap64 (bt105.1 * 16777216)) + (wrap64 (bt108.1 * 65536)))) + (wrap64 (bt111.1 * 256)))) + bt114.1)) a1, bt114.2.1, bt114.2.2))))))))) = some (r1, r2, r3) := h
 clear h
 by_cases c3 : a1 ≤ 0
 ·rw [if_pos c3] at H
  have c3b0 : decide (a1 ≤ 0) = true := decide_eq_true c3
  clear c3; simp only [Option.some.injEq, Prod.mk.injEq] at H; obtain ⟨rfl, rfl, rfl⟩ := H; go_enter Try.func94, Try.ntmps94
  go_wp2
  go_ret; exact ⟨B2x11_, B2x0_, (te1 HB.out (IsS159.ge HI0.out)), (tk0 HK.out)⟩
 ·rw [if_neg c3] at H
  have c3b0 : decide (a1 ≤ 0) = false := decide_eq_false c3
  clear c3
  by_cases c4 : a1 ≤ 256
  ·rw [if_pos c4] at H
   have c4b0 : decide (a1 ≤ 256) = true := decide_eq_true c4
   clear c4; replace H := bsi H; obtain ⟨⟨t102, t103, t104⟩, A5, H⟩ := H; (try dsimp only at H)
   by_cases c6 : a1 = 0
   ·rw [if_pos c6] at H; exact absurd H (by simp)
   rw [if_neg c6] at H; have c6b0 := beq_eq_false_iff_ne.mpr c6; have c6b1 := bne_iff_ne.mpr c6; simp only [Option.some.injEq, Prod.mk.injEq] at H; obtain ⟨rfl, rfl, rfl⟩ := H; go_enter Try.func94, Try.ntmps94
   go_wp2_with (first | ((with_reducible refine gate_callee (f := 93) rfl ?_); refine goesL_ (some 14) rfl rfl Try.func93 gk_ rfl #[.pointer (some ⟨g, 0, none⟩)] rfl gm_ ?_; (with_reducible refine (spec_l01Byte.calls g s0_0 s0_1 s0_2 t102 t103 t104 w0 _ ?side1 ?side2 A5.out).mono ?_); (case side1 => exact B2x0_); (case side2 => exact (te1 HB.out (IsS159.ge HI0.out))); rintro e w7 ⟨rfl, hi, hb, hk⟩; refine ⟨_, rfl, ?_⟩; replace HK := am (KeepBut.trans (tk0 HK.out) hk (.inl rfl)); replace HB := am (hb); replace HI0 := am (hi); (try clear hb); (try clear hb2); (try clear hk hi); (try clear hl)))
   go_ret; exact ⟨B2x11_, B2x0_, (te1 HB.out (IsS159.ge HI0.out)), (tk0 HK.out)⟩
  ·rw [if_neg c4] at H
   have c4b0 : decide (a1 ≤ 256) = false := decide_eq_false c4
   clear c4; replace H := bsi H; obtain ⟨⟨t105, t106, t107⟩, A8, H⟩ := H; (try dsimp only at H); replace H := bsi H; obtain ⟨⟨t108, t109, t110⟩, A9, H⟩ := H; (try dsimp only at H); replace H := bsi H; obtain ⟨⟨t111, t112, t113⟩, A10, H⟩ := H; (try dsimp only at H); replace H := bsi H; obtain ⟨⟨t114, t115, t116⟩, A11, H⟩ := H; (try dsimp only at H)
   by_cases c12 : a1 = 0
   ·rw [if_pos c12] at H; exact absurd H (by simp)
   rw [if_neg c12] at H; have c12b0 := beq_eq_false_iff_ne.mpr c12; have c12b1 := bne_iff_ne.mpr c12; simp only [Option.some.injEq, Prod.mk.injEq] at H; obtain ⟨rfl, rfl, rfl⟩ := H; go_enter Try.func94, Try.ntmps94
   go_wp2_with (first | ((with_reducible refine gate_callee (f := 93) rfl ?_); refine goesL_ (some 18) rfl rfl Try.func93 gk_ rfl #[.pointer (some ⟨g, 0, none⟩)] rfl gm_ ?_; (with_reducible refine (spec_l01Byte.calls g s0_0 s0_1 s0_2 t105 t106 t107 w0 _ ?side1 ?side2 A8.out).mono ?_); (case side1 => exact B2x0_); (case side2 => exact (te1 HB.out (IsS159.ge HI0.out))); rintro e w13 ⟨rfl, hi, hb, hk⟩; refine ⟨_, rfl, ?_⟩; replace HK := am (KeepBut.trans (tk0 HK.out) hk (.inl rfl)); replace HB := am (hb); replace HI0 := am (hi); (try clear hb); (try clear hb2); (try clear hk hi); (try clear hl)) | ((with_reducible refine gate_callee (f := 93) rfl ?_); refine goesL_ (some 20) rfl rfl Try.func93 gk_ rfl #[.pointer (some ⟨g, 0, none⟩)] rfl gm_ ?_; (with_reducible refine (spec_l01Byte.calls g s0_0 t106 t107 t108 t109 t110 w0 _ ?side1 ?side2 A9.out).mono ?_); (case side1 => exact B2x0_); (case side2 => exact (te1 HB.out (IsS159.ge HI0.out))); rintro e w14 ⟨rfl, hi, hb, hk⟩; refine ⟨_, rfl, ?_⟩; replace HK := am (KeepBut.trans (tk0 HK.out) hk (.inl rfl)); replace HB := am (hb); replace HI0 := am (hi); (try clear hb); (try clear hb2); (try clear hk hi); (try clear hl)) | ((with_reducible refine gate_callee (f := 93) rfl ?_); refine goesL_ (some 22) rfl rfl Try.func93 gk_ rfl #[.pointer (some ⟨g, 0, none⟩)] rfl gm_ ?_; (with_reducible refine (spec_l01Byte.calls g s0_0 t109 t110 t111 t112 t113 w0 _ ?side1 ?side2 A10.out).mono ?_); (case side1 => exact B2x0_); (case side2 => exact (te1 HB.out (IsS159.ge HI0.out))); rintro e w15 ⟨rfl, hi, hb, hk⟩; refine ⟨_, rfl, ?_⟩; replace HK := am (KeepBut.trans (tk0 HK.out) hk (.inl rfl)); replace HB := am (hb); replace HI0 := am (hi); (try clear hb); (try clear hb2); (try clear hk hi); (try clear hl)) | ((with_reducible refine gate_callee (f := 93) rfl ?_); refine goesL_ (some 24) rfl rfl Try.func93 gk_ rfl #[.pointer (some ⟨g, 0, none⟩)] rfl gm_ ?_; (with_reducible refine (spec_l01Byte.calls g s0_0 t112 t113 t114 t115 t116 w0 _ ?side1 ?side2 A11.out).mono ?_); (case side1 => exact B2x0_); (case side2 => exact (te1 HB.out (IsS159.ge HI0.out))); rintro e w16 ⟨rfl, hi, hb, hk⟩; refine ⟨_, rfl, ?_⟩; replace HK := am (KeepBut.trans (tk0 HK.out) hk (.inl rfl)); replace HB := am (hb); replace HI0 := am (hi); (try clear hb); (try clear hb2); (try clear hk hi); (try clear hl)))
   go_ret; exact ⟨B2x11_, B2x0_, (te1 HB.out (IsS159.ge HI0.out)), (tk0 HK.out)⟩

/-! ### spec_l01Once: function 111 -/
def spec_l01Once.f (s0_0 : List Int) (s0_1 : Int) (s0_2 : Int) (a1 : Int) : Option (Bool × Int × Int) := (spec_l01Below.f s0_0 s0_1 s0_2 a1).bind fun bt117 => (some ((bt117.1 == 0), bt117.2.1, bt117.2.2))
set_option maxHeartbeats 8000000 in
set_option maxRecDepth 100000 in
theorem spec_l01Once.calls (g : Nat) (s0_0 : List Int) (s0_1 : Int) (s0_2 : Int) (a1 : Int) (r1 : Bool) (r2 : Int) (r3 : Int) (w0 w : World) (hI : IsS159 w0 w g s0_0 s0_1 s0_2) (hB : Below w0.heap.size w0 w) (h : spec_l01Once.f s0_0 s0_1 s0_2 a1 = some (r1, r2, r3)) :
  Calls Try.prog 111 #[.pointer (some ⟨g, 0, none⟩), .int .i64 a1] w fun e w' => e = .returned (.bool r1) ∧ IsS159 w0 w' g s0_0 r2 r3 ∧ Below w0.heap.size w0 w' ∧ KeepBut w w' g none := by
 have HI0 := am hI
 have HK := am (KeepBut.refl w g none)
 have HL := am hB.size
 clear hI
 have HW0 := am hB.size
 have HB := am hB
 clear hB
 have H : ((spec_l01Below.f s0_0 s0_1 s0_2 a1).bind fun bt117 => (some ((bt117.1 == 0), bt117.2.1, bt117.2.2))) = some (r1, r2, r3) := h
 clear h
 replace H := bsi H
 obtain ⟨⟨t117, t118, t119⟩, A3, H⟩ := H
 (try dsimp only at H)
 simp only [Option.some.injEq, Prod.mk.injEq] at H
 obtain ⟨rfl, rfl, rfl⟩ := H
 go_enter Try.func111, Try.ntmps111
 go_wp2_with (first | ((with_reducible refine gate_callee (f := 94) rfl ?_); refine goesL_ (some 7) rfl rfl Try.func94 gk_ rfl #[.pointer (some ⟨g, 0, none⟩), .int .i64 a1] rfl gm_ ?_; (with_reducible refine (spec_l01Below.calls g s0_0 s0_1 s0_2 a1 t117 t118 t119 w0 _ ?side1 ?side2 A3.out).mono ?_); (case side1 => exact B2x0_); (case side2 => exact (te1 HB.out (IsS159.ge HI0.out))); rintro e w4 ⟨rfl, hi, hb, hk⟩; refine ⟨_, rfl, ?_⟩; replace HK := am (KeepBut.trans (tk0 HK.out) hk (.inl rfl)); replace HB := am (hb); replace HI0 := am (hi); (try clear hb); (try clear hb2); (try clear hk hi); (try clear hl)))
 go_ret
 exact ⟨B2x11_, B2x0_, (te1 HB.out (IsS159.ge HI0.out)), (tk0 HK.out)⟩

/-! ### spec_l01Long: function 115 -/
def spec_l01Long.l0 : Nat → Int → Int → List Int → Int → Option (ByteArray)
 | 0, _, _, _, _ => none
 | k + 1, x0, x1, x5, x6 => if x6 < x0 then (if 0 ≤ x6 then (if x6 < (x5.length : Int) then (spec_l01Long.l0 k x0 x1 (x5.set (x6 : Int).toNat x1) (wrap64 (x6 + 1))) else (none)) else (none)) else (some (strOfNums x5))
def spec_l01Long.f (k : Nat) (a0 : Int) (a1 : Int) : Option (ByteArray) := if 0 ≤ a0 then (if (a0 : Int).toNat ≤ 281474976710656 then (spec_l01Long.l0 k a0 a1 (List.replicate (a0 : Int).toNat 0) 0) else (none)) else (none)
theorem spec_l01Long.mono_l : ∀ k, (∀ y0 y1 y2 y3, LeO (spec_l01Long.l0 k y0 y1 y2 y3) (spec_l01Long.l0 (k + 1) y0 y1 y2 y3))
 | 0 => fun _ _ _ _ r h => by simp [spec_l01Long.l0] at h
 | k + 1 => by
  have ih0 := spec_l01Long.mono_l k
  ·intro y0 y1 y2 y3
   unfold spec_l01Long.l0
   repeat' (with_reducible first | exact ih0 .. | exact LeO.refl _ | exact LeO.none _ | refine LeO.ite ?_ ?_ | refine LeO.bind ?_ (fun _ => ?_))
theorem spec_l01Long.mono : ∀ a0 a1 k, LeO (spec_l01Long.f k a0 a1) (spec_l01Long.f (k + 1) a0 a1) := by
 intro a0 a1 k
 have ih0 := spec_l01Long.mono_l k
 unfold spec_l01Long.f
 repeat' (with_reducible first | exact ih0 .. | exact LeO.refl _ | exact LeO.none _ | refine LeO.ite ?_ ?_ | refine LeO.bind ?_ (fun _ => ?_))
set_option maxHeartbeats 8000000 in
set_option maxRecDepth 100000 in
theorem spec_l01Long.calls (k : Nat) (a0 : Int) (a1 : Int) (r : ByteArray) (w : World) (h : spec_l01Long.f k a0 a1 = some r) :
  Calls Try.prog 115 #[.int .i64 a0, .int .u8 a1] w fun e w' => e = .returned (.string r) ∧ Below w.heap.size w w' := by
 have HB := am (Below.refl w.heap.size w)
 have H : (if 0 ≤ a0 then (if (a0 : Int).toNat ≤ 281474976710656 then (spec_l01Long.l0 k a0 a1 (List.replicate (a0 : Int).toNat 0) 0) else (none)) else (none)) = some r := h
 clear h
 by_cases c3 : 0 ≤ a0
 rotate_left
 ·rw [if_neg c3] at H; exact absurd H (by simp)
 rw [if_pos c3] at H
 have c3b0 := eq_true c3
 have c3b1 : decide (0 ≤ a0) = true := decide_eq_true c3
 clear c3
 by_cases c4 : (a0 : Int).toNat ≤ 281474976710656
 rotate_left
 ·rw [if_neg c4] at H; exact absurd H (by simp)
 rw [if_pos c4] at H
 have c4b0 := eq_true c4
 have c4b1 : decide ((a0 : Int).toNat ≤ 281474976710656) = true := decide_eq_true c4
 clear c4
 obtain ⟨y120, hy120⟩ : ∃ y_ : List Int, y_ = (List.replicate (a0 : Int).toNat 0) := ⟨_, rfl⟩
 replace H : (spec_l01Long.l0 k a0 a1 y120 0) = some r := by first | (rw [hy120]; with_reducible exact H) | (have H2_ := (Option.bind_some _ _).symm.trans H; rw [hy120]; with_reducible exact H2_) | (have H2_ := (Option.bind_some _ _).symm.trans H; with_reducible exact H2_) | with_reducible exact H | (rw [hy120]; exact H) | exact H
 have Ny120 := am hy120
 clear hy120
 have H' := am H
 clear H
 go_enter Try.func115, Try.ntmps115
 go_wp2_with (first | ((with_reducible refine gate_dst (N := 8) rfl ?_); refine Kd.R_make (Kd.int .u8) _ 5 rfl (N := 8) rfl 59 _ _ rfl a0 rfl rfl Try.underlying59 (.int .u8 0) 1 info5 rfl (by decide) (by omega) 0 (ok := fun _ => True) (okp := fun _ => True) rfl (fun _ hk => hk) trivial (dga) (Nat.le_trans (Nat.mul_le_mul_right _ (dga : a0.toNat ≤ 281474976710656)) (by omega)) (Below.refl _ _) (Nat.le_refl _) ?_; intro v121 w5 ho6 hb hg_ hnew_; clear hg_ hnew_; (first | rw [← Ny120.out] at ho6 | (simp only [Int.reduceToNat] at ho6; rw [← Ny120.out] at ho6)); have HO122 := am (Kd.R_lower ho6 (below_size (te0 HB.out))); replace HB := am (below_step (te0 HB.out) hb); clear hb ho6))
 go_loopg [6] k (fun kq v6 w' => ∃ (x5_1 : List Int) (x6_1 : Int), v6 = .int .i64 x6_1 ∧ Aside0 (spec_l01Long.l0 kq a0 a1 x5_1 x6_1 = some r) ∧ Aside0 (kq ≤ k) ∧ Aside0 (Kd.R (Kd.int .u8) 5 w' w.heap.size (fun _ => True) v121 x5_1) ∧ Aside0 (Below w.heap.size w w'))
 case atStart => exact ⟨(y120), (0), (be_), H', ⟨Nat.le_refl _⟩, ⟨(tr HO122.out)⟩, ⟨(te0 HB.out)⟩⟩
 case round =>
  clear H'
  try clear c3
  try clear c3b0
  try clear c3b1
  try clear c4
  try clear c4b0
  try clear c4b1
  obtain ⟨x5_1, x6_1, rfl, HA, HK1, HO_5, HB⟩ := hrel
  cases gk with
  | zero => exact absurd HA.out (by simp [spec_l01Long.l0])
  | succ k1 =>
   have H := HA.out; clear HA; simp only [spec_l01Long.l0] at H
   by_cases c7 : x6_1 < a0
   ·rw [if_pos c7] at H
    have c7b0 : decide (x6_1 < a0) = true := decide_eq_true c7
    clear c7
    by_cases c8 : 0 ≤ x6_1
    rotate_left
    ·rw [if_neg c8] at H; exact absurd H (by simp)
    rw [if_pos c8] at H
    have c8b0 : decide (0 ≤ x6_1) = true := decide_eq_true c8
    clear c8
    by_cases c9 : x6_1 < (x5_1.length : Int)
    rotate_left
    ·rw [if_neg c9] at H; exact absurd H (by simp)
    rw [if_pos c9] at H
    have c9b0 : decide (x6_1 < (x5_1.length : Int)) = true := decide_eq_true c9
    clear c9; obtain ⟨y123, hy123⟩ : ∃ y_ : List Int, y_ = (x5_1.set (x6_1 : Int).toNat a1) := ⟨_, rfl⟩
    replace H : (spec_l01Long.l0 k1 a0 a1 y123 (wrap64 (x6_1 + 1))) = some r := by first | (rw [hy123]; with_reducible exact H) | (have H2_ := (Option.bind_some _ _).symm.trans H; rw [hy123]; with_reducible exact H2_) | (have H2_ := (Option.bind_some _ _).symm.trans H; with_reducible exact H2_) | with_reducible exact H | (rw [hy123]; exact H) | exact H
    have Ny123 := am hy123; clear hy123
    have H' := am H
    clear H
    have p10 : 0 ≤ (x6_1 : Int) := dga
    have q10 : (x6_1 : Int) < ((x5_1.length : Int) : Int) := dga
    obtain ⟨go10, co10, eo10, gb10, gl10, cl10, HG10⟩ := Kd.R_form HO_5.out (by omega)
    (first | cases eo10 | (injection eo10 with ea_ en_ ec_; (first | subst ea_ | (injection ea_ with ea_; subst ea_)); subst ec_; clear en_))
    have GB10 := am gb10; have GG10 := am HG10; clear gb10 gl10 HG10; obtain ⟨hx10_0, hf10_0⟩ := Kd.R_celln 0 HO_5.out (x6_1 : Int) p10 q10; replace p10 := eq_true p10; replace q10 := eq_true q10; have HP11 := Kd.R_putg HO_5.out (x6_1 : Int) a1
    go_wp2_with (first | ((with_reducible refine gate_store (t := 5) (p := 17) rfl ?_); refine store_event (t := 5) (p := 17) (v := ?vo_w12) (w1 := (wr.setCell ⟨go10, (x6_1 : Int).toNat, none⟩ (.int .u8 a1))) ?hg ?ho ?hn ?hr ?_; (case ho => rfl); (case hg => rfl); (case hn => rfl); (case hr => exact gs_); intro w12 hw; have hg : wr.grownBy w12 (some go10) := (by rw [hw]; exact HP11.2); have hp_ : Kd.R (Kd.int .u8) 5 w12 w.heap.size (fun _ => True) (.slice (some ⟨go10, 0, none⟩) x5_1.length co10) y123 := (by rw [hw, Ny123.out]; exact HP11.1); clear HP11; replace HO_5 := am (hp_); replace HB := am ((by rw [hw]; exact below_set (HB.out) GB10.out : Below w.heap.size w w12)); clear hg hw hp_))
    go_roundg k1
    case measure => have := HK1.out; omega
    case rel => exact ⟨(y123), (wrap64 (x6_1 + 1)), (be_), H', ⟨(by have := HK1.out; omega)⟩, ⟨(tr HO_5.out)⟩, ⟨(te0 HB.out)⟩⟩
   ·rw [if_neg c7] at H
    have c7b0 : decide (x6_1 < a0) = false := decide_eq_false c7
    clear c7; obtain rfl := Option.some.inj H; have hcv13 := own_string (P := Try.prog) Try.underlying59 Try.underlying5 Try.underlying9 (Kd.own_of_R HO_5.out)
    go_wp2
    go_ret; exact ⟨B2x11_, (te0 HB.out)⟩

/-! ### spec_l01PickInt: function 116 -/
def spec_l01PickInt.f (s0_0 : List Int) (s0_1 : Int) (s0_2 : Int) (l1 : List Int) : Option (Int × Int × Int) := (spec_l01Below.f s0_0 s0_1 s0_2 (l1.length : Int)).bind fun bt124 => (if 0 ≤ bt124.1 then (if bt124.1 < (l1.length : Int) then (some (rd l1 bt124.1, bt124.2.1, bt124.2.2)) else (none)) else (none))
set_option maxHeartbeats 8000000 in
set_option maxRecDepth 100000 in
theorem spec_l01PickInt.calls (g : Nat) (s0_0 : List Int) (s0_1 : Int) (s0_2 : Int) (A1 : Option Addr) (c1 : Nat) (l1 : List Int) (r1 : Int) (r2 : Int) (r3 : Int) (w0 w : World) (hI : IsS159 w0 w g s0_0 s0_1 s0_2) (hB : Below w0.heap.size w0 w) (hr1 : Kd.C (Kd.int .i64) w A1 l1.length l1) (hc1 : l1.length ≤ c1) (hf1 : ∀ ad, A1 = some ad → 0 < l1.length → ad.block ≠ g) (h : spec_l01PickInt.f s0_0 s0_1 s0_2 l1 = some (r1, r2, r3)) :
  Calls Try.prog 116 #[.pointer (some ⟨g, 0, none⟩), .slice A1 l1.length c1] w fun e w' => e = .returned (.int .i64 r1) ∧ IsS159 w0 w' g s0_0 r2 r3 ∧ Below w0.heap.size w0 w' ∧ KeepBut w w' g none := by
 have HR1 := am hr1
 have HC1 := am hc1
 clear hr1 hc1
 have HI0 := am hI
 have HK := am (KeepBut.refl w g none)
 have HL := am hB.size
 clear hI
 have HW0 := am hB.size
 have HB := am hB
 clear hB
 have H : ((spec_l01Below.f s0_0 s0_1 s0_2 (l1.length : Int)).bind fun bt124 => (if 0 ≤ bt124.1 then (if bt124.1 < (l1.length : Int) then (some (rd l1 bt124.1, bt124.2.1, bt124.2.2)) else (none)) else (none))) = some (r1, r2, r3) := h
 clear h
 replace H := bsi H
 obtain ⟨⟨t124, t125, t126⟩, A3, H⟩ := H
 (try dsimp only at H)
 by_cases c4 : 0 ≤ t124
 rotate_left
 ·rw [if_neg c4] at H; exact absurd H (by simp)
 rw [if_pos c4] at H
 have c4b0 : decide (0 ≤ t124) = true := decide_eq_true c4
 clear c4
 by_cases c5 : t124 < (l1.length : Int)
 rotate_left
 ·rw [if_neg c5] at H; exact absurd H (by simp)
 rw [if_pos c5] at H
 have c5b0 : decide (t124 < (l1.length : Int)) = true := decide_eq_true c5
 clear c5
 simp only [Option.some.injEq, Prod.mk.injEq] at H
 obtain ⟨rfl, rfl, rfl⟩ := H
 go_enter Try.func116, Try.ntmps116
 go_wp2_with (first | ((with_reducible refine gate_callee (f := 94) rfl ?_); refine goesL_ (some 9) rfl rfl Try.func94 gk_ rfl #[.pointer (some ⟨g, 0, none⟩), .int .i64 (l1.length : Int)] rfl gm_ ?_; (with_reducible refine (spec_l01Below.calls g s0_0 s0_1 s0_2 (l1.length : Int) t124 t125 t126 w0 _ ?side1 ?side2 A3.out).mono ?_); (case side1 => exact B2x0_); (case side2 => exact (te1 HB.out (IsS159.ge HI0.out))); rintro e w6 ⟨rfl, hi, hb, hk⟩; refine ⟨_, rfl, ?_⟩; replace HK := am (KeepBut.trans (tk0 HK.out) hk (.inl rfl)); replace HB := am (hb); replace HI0 := am (hi); (try clear hb); (try clear hb2); (try clear hk hi); (try clear hl); have p127 : 0 ≤ (t124 : Int) := dga; have q127 : t124 < (l1.length : Int) := dga; obtain ⟨ad127, e127, hx127_0⟩ := Kd.at_int HR1.out t124 p127 q127; cases e127; replace hx127_0 := keep_cell HK.out hx127_0 (by first | (rw [add_block]; exact hf1 _ rfl (by omega)) | exact hf1 _ rfl (by omega) | exact hf1 ad127 rfl (by omega)); replace p127 := eq_true p127; replace q127 := eq_true q127))
 go_ret
 exact ⟨B2x11_, B2x0_, (te1 HB.out (IsS159.ge HI0.out)), (tk0 HK.out)⟩

/-! ### spec_l01Text: function 137 -/
mutual
def spec_l01Text.j0 : Nat → Int → List Int → Int → Int → Option (ByteArray × Int × Int)
 | 0, _, _, _, _ => none
 | k + 1, x1, x1000, x1001, x1002 => spec_l01Text.l0 k x1 (([] : List Int)) 0 x1000 x1001 x1002
def spec_l01Text.l0 : Nat → Int → List Int → Int → List Int → Int → Int → Option (ByteArray × Int × Int)
 | 0, _, _, _, _, _, _ => none
 | k + 1, x1, x5, x6, x1000, x1001, x1002 => if x6 < x1 then ((spec_l01Byte.f x1000 x1001 x1002).bind fun bt131 => (if x5.length < 140737488355328 then (spec_l01Text.l0 k x1 (x5 ++ [(bt131.1) % 256]) (wrap64 (x6 + 1)) x1000 bt131.2.1 bt131.2.2) else (none))) else (some (strOfNums x5, x1001, x1002))
end
def spec_l01Text.f (k : Nat) (s0_0 : List Int) (s0_1 : Int) (s0_2 : Int) (a1 : Int) : Option (ByteArray × Int × Int) := if a1 > 5000 then (spec_l01Text.j0 k 5000 s0_0 s0_1 s0_2) else (spec_l01Text.j0 k a1 s0_0 s0_1 s0_2)
theorem spec_l01Text.mono_l : ∀ k, (∀ y0 y1 y2 y3, LeO (spec_l01Text.j0 k y0 y1 y2 y3) (spec_l01Text.j0 (k + 1) y0 y1 y2 y3)) ∧ (∀ y0 y1 y2 y3 y4 y5, LeO (spec_l01Text.l0 k y0 y1 y2 y3 y4 y5) (spec_l01Text.l0 (k + 1) y0 y1 y2 y3 y4 y5))
 | 0 => ⟨fun _ _ _ _ r h => by simp [spec_l01Text.j0] at h, fun _ _ _ _ _ _ r h => by simp [spec_l01Text.l0] at h⟩
 | k + 1 => by
  obtain ⟨ih0, ih1⟩ := spec_l01Text.mono_l k
  refine ⟨?_, ?_⟩ <;> intros <;> (first | unfold spec_l01Text.j0 | unfold spec_l01Text.l0) <;> repeat' (with_reducible first | exact ih0 .. | exact ih1 .. | exact LeO.refl _ | exact LeO.none _ | refine LeO.ite ?_ ?_ | refine LeO.bind ?_ (fun _ => ?_))
theorem spec_l01Text.mono : ∀ a0 a1 a2 a3 k, LeO (spec_l01Text.f k a0 a1 a2 a3) (spec_l01Text.f (k + 1) a0 a1 a2 a3) := by
 intro a0 a1 a2 a3 k
 obtain ⟨ih0, ih1⟩ := spec_l01Text.mono_l k
 unfold spec_l01Text.f
 repeat' (with_reducible first | exact ih0 .. | exact ih1 .. | exact LeO.refl _ | exact LeO.none _ | refine LeO.ite ?_ ?_ | refine LeO.bind ?_ (fun _ => ?_))
set_option maxHeartbeats 8000000 in
set_option maxRecDepth 100000 in
theorem spec_l01Text.calls (k : Nat) (g : Nat) (s0_0 : List Int) (s0_1 : Int) (s0_2 : Int) (a1 : Int) (r1 : ByteArray) (r2 : Int) (r3 : Int) (w0 w : World) (hI : IsS159 w0 w g s0_0 s0_1 s0_2) (hB : Below w0.heap.size w0 w) (h : spec_l01Text.f k s0_0 s0_1 s0_2 a1 = some (r1, r2, r3)) :
  Calls Try.prog 137 #[.pointer (some ⟨g, 0, none⟩), .int .i64 a1] w fun e w' => e = .returned (.string r1) ∧ IsS159 w0 w' g s0_0 r2 r3 ∧ Below w0.heap.size w0 w' ∧ KeepBut w w' g none := by
 have HI0 := am hI
 have HK := am (KeepBut.refl w g none)
 have HL := am hB.size
 clear hI
 have HW0 := am hB.size
 have HB := am hB
 clear hB
 have H : (if a1 > 5000 then (spec_l01Text.j0 k 5000 s0_0 s0_1 s0_2) else (spec_l01Text.j0 k a1 s0_0 s0_1 s0_2)) = some (r1, r2, r3) := h
 clear h
 have HC3 := am H
 clear H
 go_enter Try.func137, Try.ntmps137
 go_upto_if 8 with (fail)
 go_cut [1] (fun v1 wc => ∃ (kq : Nat) (x1_2 : Int), v1 = .int .i64 x1_2 ∧ Aside0 (spec_l01Text.j0 kq x1_2 s0_0 s0_1 s0_2 = some (r1, r2, r3)) ∧ Aside0 (kq ≤ k) ∧ Aside0 (IsS159 w0 wc g s0_0 s0_1 s0_2) ∧ Aside0 (KeepBut w wc g none) ∧ Aside0 (Below w0.heap.size w0 wc))
 case first =>
  have H := HC3.out; clear HC3
  by_cases c4 : a1 > 5000
  ·rw [if_pos c4] at H
   have c4b0 : decide (5000 < a1) = true := decide_eq_true c4
   clear c4
   (first | rw [c4b0] | (simp only [i64_w, i32_w]; rw [c4b0]) | skip)
   have H' := am H
   clear H
   go_wp2
   go_meet
   case rel => exact ⟨_, (5000), (be_), H', ⟨gl_⟩, ⟨B2x0_⟩, ⟨(tk0 HK.out)⟩, ⟨(te1 HB.out (IsS159.ge HI0.out))⟩⟩
  ·rw [if_neg c4] at H
   have c4b0 : decide (5000 < a1) = false := decide_eq_false c4
   clear c4
   (first | rw [c4b0] | (simp only [i64_w, i32_w]; rw [c4b0]) | skip)
   have H' := am H
   clear H
   go_wp2
   go_meet
   case rel => exact ⟨_, (a1), (be_), H', ⟨gl_⟩, ⟨B2x0_⟩, ⟨(tk0 HK.out)⟩, ⟨(te1 HB.out (IsS159.ge HI0.out))⟩⟩
 case rest =>
  clear HC3; obtain ⟨kq, x1_2, rfl, HA, HJ2, HI0, HK, HB⟩ := hcut
  cases kq with
  | zero => exact absurd HA.out (by simp [spec_l01Text.j0])
  | succ kj2 =>
   have H := HA.out; clear HA; simp only [spec_l01Text.j0] at H; obtain ⟨y128, hy128⟩ : ∃ y_ : List Int, y_ = (([] : List Int)) := ⟨_, rfl⟩
   replace H : (spec_l01Text.l0 kj2 x1_2 y128 0 s0_0 s0_1 s0_2) = some (r1, r2, r3) := by first | (rw [hy128]; with_reducible exact H) | (have H2_ := (Option.bind_some _ _).symm.trans H; rw [hy128]; with_reducible exact H2_) | (have H2_ := (Option.bind_some _ _).symm.trans H; with_reducible exact H2_) | with_reducible exact H | (rw [hy128]; exact H) | exact H
   have Ny128 := am hy128; clear hy128
   have H' := am H
   clear H
   go_wp2_with (first | ((with_reducible refine gate_dst (N := 9) rfl ?_); refine Kd.R_lit (Kd.int .u8) _ 5 ?hg (N := 9) ?hd (xs := ([] : List Int)) (inner := []) (ok := fun _ => True) (okp := fun _ => True) ?hr ?hp (fun _ hk => hk) trivial (Below.refl _ _) (Nat.le_refl _) (by simp) ?_; (case hd => rfl); (case hg => rfl); (case hr => exact gs_); (case hp => exact (Reps.none _ _)); intro v129 w5 ho6 hb hg_ hnew_; clear hg_ hnew_; (first | rw [← Ny128.out] at ho6 | (simp only [Int.reduceToNat] at ho6; rw [← Ny128.out] at ho6)); have HO130 := am (Kd.R_lower ho6 (keep_size (w := w) (g := g) (row := none) (tk0 HK.out))); replace HK := am (KeepBut.trans (tk0 HK.out) (KeepBut.of_below hb g none) (.inl rfl)); replace HB := am (below_step (te1 HB.out (IsS159.ge HI0.out)) hb); replace HI0 := am (IsS159.below B2x0_ hb); clear hb ho6))
   go_loopg [5, 6] kj2 (fun kq v5 v6 w' => ∃ (x5_2 : List Int) (x6_2 : Int) (x1001_2 : Int) (x1002_2 : Int), v6 = .int .i64 x6_2 ∧ Aside0 (spec_l01Text.l0 kq x1_2 x5_2 x6_2 s0_0 x1001_2 x1002_2 = some (r1, r2, r3)) ∧ Aside0 (kq ≤ kj2) ∧ Aside0 (Kd.R (Kd.int .u8) 5 w' w.heap.size (fun _ => True) v5 x5_2) ∧ Aside0 (IsS159 w0 w' g s0_0 x1001_2 x1002_2) ∧ Aside0 (KeepBut w w' g none) ∧ Aside0 (Below w0.heap.size w0 w'))
   case atStart => exact ⟨(y128), (0), (s0_1), (s0_2), (be_), H', ⟨Nat.le_refl _⟩, ⟨(tr HO130.out)⟩, ⟨B2x0_⟩, ⟨(tk0 HK.out)⟩, ⟨(te1 HB.out (IsS159.ge HI0.out))⟩⟩
   case round =>
    clear H'; obtain ⟨x5_2, x6_2, x1001_2, x1002_2, rfl, HA, HK2, HO_5, HI0, HK, HB⟩ := hrel
    cases gk with
    | zero => exact absurd HA.out (by simp [spec_l01Text.l0])
    | succ k2 =>
     have H := HA.out; clear HA; simp only [spec_l01Text.l0] at H
     by_cases c7 : x6_2 < x1_2
     ·rw [if_pos c7] at H
      have c7b0 : decide (x6_2 < x1_2) = true := decide_eq_true c7
      clear c7; replace H := bsi H; obtain ⟨⟨t131, t132, t133⟩, A8, H⟩ := H; (try dsimp only at H)
      by_cases c9 : x5_2.length < 140737488355328
      rotate_left
      ·rw [if_neg c9] at H; exact absurd H (by simp)
      rw [if_pos c9] at H; have LMc9 := am c9; clear c9; obtain ⟨y134, hy134⟩ : ∃ y_ : List Int, y_ = (x5_2 ++ [(t131) % 256]) := ⟨_, rfl⟩
      replace H : (spec_l01Text.l0 k2 x1_2 y134 (wrap64 (x6_2 + 1)) s0_0 t132 t133) = some (r1, r2, r3) := by first | (rw [hy134]; with_reducible exact H) | (have H2_ := (Option.bind_some _ _).symm.trans H; rw [hy134]; with_reducible exact H2_) | (have H2_ := (Option.bind_some _ _).symm.trans H; with_reducible exact H2_) | with_reducible exact H | (rw [hy134]; exact H) | exact H
      have Ny134 := am hy134; clear hy134
      have H' := am H
      clear H
      go_wp2_with (first | ((with_reducible refine gate_callee (f := 93) rfl ?_); refine goesL_ (some 17) rfl rfl Try.func93 gk_ rfl #[.pointer (some ⟨g, 0, none⟩)] rfl gm_ ?_; (with_reducible refine (spec_l01Byte.calls g s0_0 x1001_2 x1002_2 t131 t132 t133 w0 _ ?side1 ?side2 A8.out).mono ?_); (case side1 => exact B2x0_); (case side2 => exact (te1 HB.out (IsS159.ge HI0.out))); rintro e w10 ⟨rfl, hi, hb, hk⟩; refine ⟨_, rfl, ?_⟩; replace HO_5 := am (Kd.R_mono (Kd.R_keep (IsS159.apart (show IsS159 w0 _ g s0_0 x1001_2 x1002_2 from B2x0_) (tr HO_5.out) (by decide)) hk (fun _ h => h.2)) (fun _ h => h.1)); replace HK := am (KeepBut.trans (tk0 HK.out) hk (.inl rfl)); replace HB := am (hb); replace HI0 := am (hi); (try clear hb); (try clear hb2); (try clear hk hi); (try clear hl)) | ((with_reducible refine gate_builtin (b := .append) (xs := #[.tmp 15, .tmp 19]) rfl ?_); at_builtin; refine Kd.R_append (Kd.int .u8) w.heap.size rfl (.tmp 15) (.tmp 19) 59 5 (.int .u8 0) 1 rfl Try.underlying59 info5 rfl (by decide) (by omega) u5 x5_2 ((t131) % 256) [.int .u8 ((t131) % 256)] (fun _ => True) (fun _ => False) rfl rfl ?aP (fun _ hk => hk.elim) ?aF ?aO (Below.refl _ _) ?aS ?aL ?_; (case aP => exact rfl); (case aF => exact (fun _ _ => trivial)); (case aO => exact (tr HO_5.out)); (case aS => exact (keep_size (w := w) (g := g) (row := none) (tk0 HK.out))); (case aL => have := LMc9.out; omega); intro v135 w11 ho hb hg hat; rw [← Ny134.out] at ho; replace HB := am (below_weaken (te1 HB.out (IsS159.ge HI0.out)) HL.out hb); replace HI0 := am (IsS159.grown B2x0_ hg (IsS159.own_ne HI0.out HO_5.out (by decide))); replace HK := am (KeepBut.trans (tk0 HK.out) (KeepBut.of_grown hg g) (Kd.R_base2 HO_5.out)); have HO136 := am (ho); clear HO_5; clear ho hb hg hat))
      go_roundg k2
      case measure => have := HJ2.out; have := HK2.out; omega
      case rel => exact ⟨(y134), (wrap64 (x6_2 + 1)), (t132), (t133), (be_), H', ⟨(by have := HJ2.out; have := HK2.out; omega)⟩, ⟨(tr HO136.out)⟩, ⟨B2x0_⟩, ⟨(tk0 HK.out)⟩, ⟨(te1 HB.out (IsS159.ge HI0.out))⟩⟩
     ·rw [if_neg c7] at H
      have c7b0 : decide (x6_2 < x1_2) = false := decide_eq_false c7
      clear c7; simp only [Option.some.injEq, Prod.mk.injEq] at H; obtain ⟨rfl, rfl, rfl⟩ := H; have hcv12 := own_string (P := Try.prog) Try.underlying59 Try.underlying5 Try.underlying9 (Kd.own_of_R HO_5.out)
      go_wp2
      go_ret; exact ⟨B2x11_, B2x0_, (te1 HB.out (IsS159.ge HI0.out)), (tk0 HK.out)⟩

/-! ### spec_l11Dgram: function 91 -/
def spec_l11Dgram.f (k : Nat) (s0_0 : List Int) (s0_1 : Int) (s0_2 : Int) : Option (Int × Int × Int × Int × Bool × ByteArray × Int × Int) := (spec_l01Below.f s0_0 s0_1 s0_2 3).bind fun bt138 => ((spec_l01Below.f s0_0 bt138.2.1 bt138.2.2 3).bind fun bt141 => ((spec_l01Below.f s0_0 bt141.2.1 bt141.2.2 4).bind fun bt144 => ((spec_l01Below.f s0_0 bt144.2.1 bt144.2.2 30).bind fun bt147 => ((spec_l01Text.f k s0_0 bt147.2.1 bt147.2.2 (wrap64 (1 + bt147.1))).bind fun bt150 => ((spec_l01Once.f s0_0 bt150.2.1 bt150.2.2 4).bind fun bt154 => (if bt154.1 = true then ((spec_l01PickInt.f s0_0 bt154.2.1 bt154.2.2 (([1, 8, 64, 100, 160] : List Int))).bind fun bt160 => ((spec_l01Long.f k bt160.1 66).bind fun t163 => (some (wrap64 (1 + bt138.1), wrap64 (1 + bt141.1), bt144.1, 0, false, t163, bt160.2.1, bt160.2.2)))) else (some (wrap64 (1 + bt138.1), wrap64 (1 + bt141.1), bt144.1, 0, false, bt150.1, bt154.2.1, bt154.2.2))))))))
theorem spec_l11Dgram.mono : ∀ a0 a1 a2 k, LeO (spec_l11Dgram.f k a0 a1 a2) (spec_l11Dgram.f (k + 1) a0 a1 a2) := by
 intro a0 a1 a2 k
 unfold spec_l11Dgram.f
 repeat' (with_reducible first | exact spec_l01Long.mono .. | exact spec_l01Text.mono .. | exact LeO.refl _ | exact LeO.none _ | refine LeO.ite ?_ ?_ | refine LeO.bind ?_ (fun _ => ?_))
set_option maxHeartbeats 8000000 in
set_option maxRecDepth 100000 in
theorem spec_l11Dgram.calls (k : Nat) (g : Nat) (s0_0 : List Int) (s0_1 : Int) (s0_2 : Int) (r1 : Int) (r2 : Int) (r3 : Int) (r4 : Int) (r5 : Bool) (r6 : ByteArray) (r7 : Int) (r8 : Int) (w0 w : World) (hI : IsS159 w0 w g s0_0 s0_1 s0_2) (hB : Below w0.heap.size w0 w) (h : spec_l11Dgram.f k s0_0 s0_1 s0_2 = some (r1, r2, r3, r4, r5, r6, r7, r8)) :
  Calls Try.prog 91 #[.pointer (some ⟨g, 0, none⟩)] w fun e w' => e = .returned (.agg #[.int .i64 r1, .int .i64 r2, .int .i64 r3, .int .i64 r4, .bool r5, .string r6]) ∧ IsS159 w0 w' g s0_0 r7 r8 ∧ Below w0.heap.size w0 w' ∧ KeepBut w w' g none := by
 have hu62 := Try.underlying62
 have HI0 := am hI
 have HK := am (KeepBut.refl w g none)
 have HL := am hB.size
 clear hI
 have HW0 := am hB.size
 have HB := am hB
 clear hB
 have H : ((spec_l01Below.f s0_0 s0_1 s0_2 3).bind fun bt138 => ((spec_l01Below.f s0_0 bt138.2.1 bt138.2.2 3).bind fun bt141 => ((spec_l01Below.f s0_0 bt141.2.1 bt141.2.2 4).bind fun bt144 => ((spec_l01Below.f s0_0 bt144.2.1 bt144.2.2 30).bind fun bt147 => ((spec_l01Text.f k s0_0 bt147.2.1 bt147.2.2 (wrap64 (1 + bt147.1))).bind fun bt150 => ((spec_l01Once.f s0_0 bt150.2.1 bt150.2.2 4).bind fun bt154 => (if bt154.1 = true then ((spec_l01PickInt.f s0_0 bt154.2.1 bt154.2.2 (([1, 8, 64, 100, 160] : List Int))).bind fun bt160 => ((spec_l01Long.f k bt160.1 66).bind fun t163 => (some (wrap64 (1 + bt138.1), wrap64 (1 + bt141.1), bt144.1, 0, false, t163, bt160.2.1, bt160.2.2)))) else (some (wrap64 (1 + bt138.1), wrap64 (1 + bt141.1), bt144.1, 0, false, bt150.1, bt154.2.1, bt154.2.2))))))))) = some (r1, r2, r3, r4, r5, r6, r7, r8) := h
 clear h
 replace H := bsi H
 obtain ⟨⟨t138, t139, t140⟩, A2, H⟩ := H
 (try dsimp only at H)
 replace H := bsi H
 obtain ⟨⟨t141, t142, t143⟩, A3, H⟩ := H
 (try dsimp only at H)
 replace H := bsi H
 obtain ⟨⟨t144, t145, t146⟩, A4, H⟩ := H
 (try dsimp only at H)
 replace H := bsi H
 obtain ⟨⟨t147, t148, t149⟩, A5, H⟩ := H
 (try dsimp only at H)
 replace H := bsi H
 obtain ⟨⟨t150, t151, t152⟩, A6, H⟩ := H
 (try dsimp only at H)
 replace H := bsi H
 obtain ⟨⟨t154, t155, t156⟩, A7, H⟩ := H
 (try dsimp only at H)
 by_cases c8 : t154 = true
 ·subst c8; rw [if_pos rfl] at H; obtain ⟨y157, hy157⟩ : ∃ y_ : List Int, y_ = (([1, 8, 64, 100, 160] : List Int)) := ⟨_, rfl⟩
  replace H : ((spec_l01PickInt.f s0_0 t155 t156 y157).bind fun bt160 => ((spec_l01Long.f k bt160.1 66).bind fun t163 => (some (wrap64 (1 + t138), wrap64 (1 + t141), t144, 0, false, t163, bt160.2.1, bt160.2.2)))) = some (r1, r2, r3, r4, r5, r6, r7, r8) := by first | (rw [hy157]; with_reducible exact H) | (have H2_ := (Option.bind_some _ _).symm.trans H; rw [hy157]; with_reducible exact H2_) | (have H2_ := (Option.bind_some _ _).symm.trans H; with_reducible exact H2_) | with_reducible exact H | (rw [hy157]; exact H) | exact H
  have Ny157 := am hy157; clear hy157; replace H := bsi H; obtain ⟨⟨t160, t161, t162⟩, A9, H⟩ := H; (try dsimp only at H); replace H := bsi H; obtain ⟨t163, A10, H⟩ := H; (try dsimp only at H); simp only [Option.some.injEq, Prod.mk.injEq] at H; obtain ⟨rfl, rfl, rfl, rfl, rfl, rfl, rfl, rfl⟩ := H; go_enter Try.func91, Try.ntmps91
  go_wp2_with (first | ((with_reducible refine gate_dst (N := 2) rfl ?_); refine bx (N := 2) (cs := #[.int .i64 0, .int .i64 0, .int .i64 0, .int .i64 0, .bool false, .string (⟨#[]⟩ : ByteArray)]) (t := 62) ?_; intro gb137 hg w11 hbox hb; replace HB := am (below_step (te1 HB.out (IsS159.ge HI0.out)) hb); have BK137 := am (hbox); have GW137 := am ((bs hg (keep_size HK.out))); have GE137 := am ((Nat.le_trans HW0.out (bs hg (keep_size HK.out)) : w0.heap.size ≤ gb137)); replace HK := am (KeepBut.trans (tk0 HK.out) (KeepBut.of_below hb g none) (.inl rfl)); have NB0_137 := am ((nl hg (IsS159.lt HI0.out))); have NB137_0 := am ((ng hg (IsS159.lt HI0.out))); replace HI0 := am (IsS159.below B2x0_ hb); clear hb hbox hg) | ((with_reducible refine gate_callee (f := 94) rfl ?_); refine goesL_ (some 5) rfl rfl Try.func94 gk_ rfl #[.pointer (some ⟨g, 0, none⟩), .int .i64 3] rfl gm_ ?_; (with_reducible refine (spec_l01Below.calls g s0_0 s0_1 s0_2 3 t138 t139 t140 w0 _ ?side1 ?side2 A2.out).mono ?_); (case side1 => exact B2x6_); (case side2 => exact (te2 HB.out (IsS159.ge HI0.out) GE137.out)); rintro e w12 ⟨rfl, hi, hb, hk⟩; refine ⟨_, rfl, ?_⟩; replace BK137 := am (kb hk BK137.out NB137_0.out); replace HK := am (KeepBut.trans (tk1 HK.out GW137.out) hk (.inl rfl)); replace HB := am (hb); replace HI0 := am (hi); (try clear hb); (try clear hb2); (try clear hk hi); (try clear hl)) | ((with_reducible refine gate_callee (f := 94) rfl ?_); refine goesL_ (some 8) rfl rfl Try.func94 gk_ rfl #[.pointer (some ⟨g, 0, none⟩), .int .i64 3] rfl gm_ ?_; (with_reducible refine (spec_l01Below.calls g s0_0 t139 t140 3 t141 t142 t143 w0 _ ?side1 ?side2 A3.out).mono ?_); (case side1 => exact B2x6_); (case side2 => exact (te2 HB.out (IsS159.ge HI0.out) GE137.out)); rintro e w13 ⟨rfl, hi, hb, hk⟩; refine ⟨_, rfl, ?_⟩; replace BK137 := am (kb hk BK137.out NB137_0.out); replace HK := am (KeepBut.trans (tk1 HK.out GW137.out) hk (.inl rfl)); replace HB := am (hb); replace HI0 := am (hi); (try clear hb); (try clear hb2); (try clear hk hi); (try clear hl)) | ((with_reducible refine gate_callee (f := 94) rfl ?_); refine goesL_ (some 11) rfl rfl Try.func94 gk_ rfl #[.pointer (some ⟨g, 0, none⟩), .int .i64 4] rfl gm_ ?_; (with_reducible refine (spec_l01Below.calls g s0_0 t142 t143 4 t144 t145 t146 w0 _ ?side1 ?side2 A4.out).mono ?_); (case side1 => exact B2x6_); (case side2 => exact (te2 HB.out (IsS159.ge HI0.out) GE137.out)); rintro e w14 ⟨rfl, hi, hb, hk⟩; refine ⟨_, rfl, ?_⟩; replace BK137 := am (kb hk BK137.out NB137_0.out); replace HK := am (KeepBut.trans (tk1 HK.out GW137.out) hk (.inl rfl)); replace HB := am (hb); replace HI0 := am (hi); (try clear hb); (try clear hb2); (try clear hk hi); (try clear hl)) | ((with_reducible refine gate_callee (f := 94) rfl ?_); refine goesL_ (some 14) rfl rfl Try.func94 gk_ rfl #[.pointer (some ⟨g, 0, none⟩), .int .i64 30] rfl gm_ ?_; (with_reducible refine (spec_l01Below.calls g s0_0 t145 t146 30 t147 t148 t149 w0 _ ?side1 ?side2 A5.out).mono ?_); (case side1 => exact B2x6_); (case side2 => exact (te2 HB.out (IsS159.ge HI0.out) GE137.out)); rintro e w15 ⟨rfl, hi, hb, hk⟩; refine ⟨_, rfl, ?_⟩; replace BK137 := am (kb hk BK137.out NB137_0.out); replace HK := am (KeepBut.trans (tk1 HK.out GW137.out) hk (.inl rfl)); replace HB := am (hb); replace HI0 := am (hi); (try clear hb); (try clear hb2); (try clear hk hi); (try clear hl)) | ((with_reducible refine gate_callee (f := 137) rfl ?_); refine goesL_ (some 16) rfl rfl Try.func137 gk_ rfl #[.pointer (some ⟨g, 0, none⟩), .int .i64 (wrap64 (1 + t147))] rfl gm_ ?_; (with_reducible refine (spec_l01Text.calls k g s0_0 t148 t149 (wrap64 (1 + t147)) t150 t151 t152 w0 _ ?side1 ?side2 A6.out).mono ?_); (case side1 => exact B2x6_); (case side2 => exact (te2 HB.out (IsS159.ge HI0.out) GE137.out)); rintro e w16 ⟨rfl, hi, hb, hk⟩; refine ⟨_, rfl, ?_⟩; replace BK137 := am (kb hk BK137.out NB137_0.out); replace HK := am (KeepBut.trans (tk1 HK.out GW137.out) hk (.inl rfl)); replace HB := am (hb); replace HI0 := am (hi); (try clear hb); (try clear hb2); (try clear hk hi); (try clear hl)) | ((with_reducible refine gate_dst (N := 3) rfl ?_); refine bx (N := 3) (cs := #[.int .i64 0, .int .i64 0, .int .i64 0, .int .i64 0, .bool false, .string (⟨#[]⟩ : ByteArray)]) (t := 62) ?_; intro gb153 hg w17 hbox hb; replace HB := am (below_step (te2 HB.out (IsS159.ge HI0.out) GE137.out) hb); have BK153 := am (hbox); have GW153 := am ((bs hg (keep_size HK.out))); have GE153 := am ((Nat.le_trans HW0.out (bs hg (keep_size HK.out)) : w0.heap.size ≤ gb153)); replace HK := am (KeepBut.trans (tk1 HK.out GW137.out) (KeepBut.of_below hb g none) (.inl rfl)); have NB137_153 := am ((nl hg (blk_lt BK137.out))); have NB153_137 := am ((ng hg (blk_lt BK137.out))); replace BK137 := am (bb BK137.out hb); have NB0_153 := am ((nl hg (IsS159.lt HI0.out))); have NB153_0 := am ((ng hg (IsS159.lt HI0.out))); replace HI0 := am (IsS159.below B2x6_ hb); clear hb hbox hg; have hnb18 := NB153_137.out; have hnc18 := NB137_153.out; have hnb19 := NB153_0.out; have hnc19 := NB0_153.out; obtain ⟨hcz20_0, hcz20_1, hcz20_2, hcz20_3, hcz20_4, hcz20_5⟩ := cl6 BK153.out; obtain ⟨hfz20_0, hfz20_1, hfz20_2, hfz20_3, hfz20_4, hfz20_5⟩ := fr6 BK153.out) | ((with_reducible refine gate_store (t := 62) (p := 3) rfl ?_); refine store_event (t := 62) (p := 3) (v := ?vo_w21) (w1 := ((((((w17.setCell ⟨gb153, 0, none⟩ (.int .i64 (wrap64 (1 + t138)))).setCell ⟨gb153, 1, none⟩ (.int .i64 (wrap64 (1 + t141)))).setCell ⟨gb153, 2, none⟩ (.int .i64 t144)).setCell ⟨gb153, 3, none⟩ (.int .i64 0)).setCell ⟨gb153, 4, none⟩ (.bool false)).setCell ⟨gb153, 5, none⟩ (.string t150))) ?hg ?ho ?hn ?hr ?_; (case ho => rfl); (case hg => rfl); (case hn => rfl); (case hr => exact gs_); intro w21 hw; replace BK137 : Aside0 (w21.heap[gb137]? = some (.cells #[.int .i64 0, .int .i64 0, .int .i64 0, .int .i64 0, .bool false, .string (⟨#[]⟩ : ByteArray)] 62 (0, 0))) := ⟨(wtp1 BK137.out NB137_153.out)⟩; replace BK153 : Aside0 (w21.heap[gb153]? = some (.cells #[.int .i64 (wrap64 (1 + t138)), .int .i64 (wrap64 (1 + t141)), .int .i64 t144, .int .i64 0, .bool false, .string t150] 62 (0, 0))) := ⟨(wtp0 BK153.out)⟩; replace HK : Aside0 (KeepBut w w21 g none) := ⟨B2x26_⟩; replace HB : Aside0 (Below w0.heap.size w0 w21) := ⟨B2x25_⟩; replace HI0 : Aside0 (IsS159 w0 w21 g s0_0 t151 t152) := ⟨B2x24_⟩; clear hw) | ((with_reducible refine gate_callee (f := 111) rfl ?_); refine goesL_ (some 19) rfl rfl Try.func111 gk_ rfl #[.pointer (some ⟨g, 0, none⟩), .int .i64 4] rfl gm_ ?_; (with_reducible refine (spec_l01Once.calls g s0_0 t151 t152 4 true t155 t156 w0 _ ?side1 ?side2 A7.out).mono ?_); (case side1 => exact B2x4_); (case side2 => exact (te3 HB.out (IsS159.ge HI0.out) GE137.out GE153.out)); rintro e w22 ⟨rfl, hi, hb, hk⟩; refine ⟨_, rfl, ?_⟩; replace BK137 := am (kb hk BK137.out NB137_0.out); replace BK153 := am (kb hk BK153.out NB153_0.out); replace HK := am (KeepBut.trans (tk2 HK.out GW137.out GW153.out) hk (.inl rfl)); replace HB := am (hb); replace HI0 := am (hi); (try clear hb); (try clear hb2); (try clear hk hi); (try clear hl)) | ((with_reducible refine gate_dst (N := 21) rfl ?_); refine Kd.R_lit (Kd.int .i64) _ 3 ?hg (N := 21) ?hd (xs := ([1, 8, 64, 100, 160] : List Int)) (inner := [.int .i64 1, .int .i64 8, .int .i64 64, .int .i64 100, .int .i64 160]) (ok := fun _ => True) (okp := fun _ => True) ?hr ?hp (fun _ hk => hk) trivial (Below.refl _ _) (Nat.le_refl _) (by simp) ?_; (case hd => rfl); (case hg => rfl); (case hr => exact gs_); (case hp => exact (Reps.one (show Kd.M (Kd.int .i64) _ _ _ 1 [.int .i64 1] from rfl) (Reps.one (show Kd.M (Kd.int .i64) _ _ _ 8 [.int .i64 8] from rfl) (Reps.one (show Kd.M (Kd.int .i64) _ _ _ 64 [.int .i64 64] from rfl) (Reps.one (show Kd.M (Kd.int .i64) _ _ _ 100 [.int .i64 100] from rfl) (Reps.one (show Kd.M (Kd.int .i64) _ _ _ 160 [.int .i64 160] from rfl) (Reps.none _ _))))))); intro v158 w23 ho24 hb hg_ hnew_; clear hg_ hnew_; (first | rw [← Ny157.out] at ho24 | (simp only [Int.reduceToNat] at ho24; rw [← Ny157.out] at ho24)); have HO159 := am (Kd.R_lower ho24 (keep_size (w := w) (g := g) (row := none) (tk2 HK.out GW137.out GW153.out))); replace BK137 := am (bb BK137.out hb); replace BK153 := am (bb BK153.out hb); replace HK := am (KeepBut.trans (tk2 HK.out GW137.out GW153.out) (KeepBut.of_below hb g none) (.inl rfl)); replace HB := am (below_step (te3 HB.out (IsS159.ge HI0.out) GE137.out GE153.out) hb); replace HI0 := am (IsS159.below B2x4_ hb); clear hb ho24; obtain ⟨Ao25, co25, eo25⟩ := Kd.R_slice HO159.out; subst eo25) | ((with_reducible refine gate_callee (f := 116) rfl ?_); refine goesL_ (some 22) rfl rfl Try.func116 gk_ rfl #[.pointer (some ⟨g, 0, none⟩), .slice Ao25 y157.length co25] rfl gm_ ?_; (with_reducible refine (spec_l01PickInt.calls g s0_0 t155 t156 _ _ y157 t160 t161 t162 w0 _ ?side1 ?side2 ?side3 ?side4 ?side5 A9.out).mono ?_); (case side1 => exact B2x4_); (case side2 => exact (te3 HB.out (IsS159.ge HI0.out) GE137.out GE153.out)); (case side3 => repeat (first | exact (Kd.R_reads' HO159.out).2.2 | (with_reducible refine Kd.C_alloc ?_ _) | (with_reducible refine Kd.C_drewN ?_ _) | (with_reducible refine Kd.C_drew ?_))); (case side4 => exact (Kd.R_reads' HO159.out).2.1); (case side5 => exact far_slice (IsS159.own_ne HI0.out HO159.out (by decide))); rintro e w26 ⟨rfl, hi, hb, hk⟩; refine ⟨_, rfl, ?_⟩; replace BK137 := am (kb hk BK137.out NB137_0.out); replace BK153 := am (kb hk BK153.out NB153_0.out); replace HO159 := am (Kd.R_mono (Kd.R_keep (IsS159.apart (show IsS159 w0 _ g s0_0 t155 t156 from B2x4_) (tr HO159.out) (by decide)) hk (fun _ h => h.2)) (fun _ h => h.1)); replace HK := am (KeepBut.trans (tk2 HK.out GW137.out GW153.out) hk (.inl rfl)); replace HB := am (hb); replace HI0 := am (hi); (try clear hb); (try clear hb2); (try clear hk hi); (try clear hl)) | ((with_reducible refine gate_callee (f := 115) rfl ?_); refine goesL_ (some 23) rfl rfl Try.func115 gk_ rfl #[.int .i64 t160, .int .u8 66] rfl gm_ ?_; (with_reducible refine (spec_l01Long.calls k t160 66 t163 _ A10.out).mono ?_); rintro e w27 ⟨rfl, hb⟩; refine ⟨_, rfl, ?_⟩; replace HO159 := am (Kd.R_below (tr HO159.out) hb); replace BK137 := am (bb BK137.out hb); replace BK153 := am (bb BK153.out hb); replace HK := am (KeepBut.trans (tk2 HK.out GW137.out GW153.out) (KeepBut.of_below hb g none) (.inl rfl)); replace HB := am (below_step (te3 HB.out (IsS159.ge HI0.out) GE137.out GE153.out) hb); replace HI0 := am (IsS159.below B2x4_ hb); (try clear hb); (try clear hb2); (try clear hl); obtain ⟨hcz28_0, hcz28_1, hcz28_2, hcz28_3, hcz28_4, hcz28_5⟩ := cl6 BK153.out; obtain ⟨hfz28_0, hfz28_1, hfz28_2, hfz28_3, hfz28_4, hfz28_5⟩ := fr6 BK153.out; have hnb29 := NB137_0.out; have hnc29 := NB0_137.out; obtain ⟨hcz30_0, hcz30_1, hcz30_2, hcz30_3, hcz30_4, hcz30_5⟩ := cl6 BK137.out; obtain ⟨hfz30_0, hfz30_1, hfz30_2, hfz30_3, hfz30_4, hfz30_5⟩ := fr6 BK137.out) | ((with_reducible refine gate_store (t := 62) (p := 2) rfl ?_); refine store_event (t := 62) (p := 2) (v := ?vo_w31) (w1 := (((((((w27.setCell ⟨gb153, 5, none⟩ (.string t163)).setCell ⟨gb137, 0, none⟩ (.int .i64 (wrap64 (1 + t138)))).setCell ⟨gb137, 1, none⟩ (.int .i64 (wrap64 (1 + t141)))).setCell ⟨gb137, 2, none⟩ (.int .i64 t144)).setCell ⟨gb137, 3, none⟩ (.int .i64 0)).setCell ⟨gb137, 4, none⟩ (.bool false)).setCell ⟨gb137, 5, none⟩ (.string t163))) ?hg ?ho ?hn ?hr ?_; (case ho => rfl); (case hg => rfl); (case hn => rfl); (case hr => exact gs_); intro w31 hw; replace HO159 : Aside0 (Kd.R (Kd.int .i64) 3 w31 w.heap.size (fun _ => True) (.slice Ao25 y157.length co25) y157) := ⟨(by rw [hw]; exact (by (with_reducible repeat (first | apply Kd.R_alloc | apply Kd.R_drewN | apply Kd.R_drew)); exact Kd.R_mono (Kd.R_far (p := ⟨gb137, 5, none⟩) (Kd.R_far (p := ⟨gb137, 4, none⟩) (Kd.R_far (p := ⟨gb137, 3, none⟩) (Kd.R_far (p := ⟨gb137, 2, none⟩) (Kd.R_far (p := ⟨gb137, 1, none⟩) (Kd.R_far (p := ⟨gb137, 0, none⟩) (Kd.R_far (p := ⟨gb153, 5, none⟩) (Kd.R_types (Kd.R_types HO159.out BK153.out (by decide)) BK137.out (by decide)) (fun _ hk => hk.1.2) (.string t163)) (fun _ hk => hk.2) (.int .i64 (wrap64 (1 + t138)))) (fun _ hk => hk.2) (.int .i64 (wrap64 (1 + t141)))) (fun _ hk => hk.2) (.int .i64 t144)) (fun _ hk => hk.2) (.int .i64 0)) (fun _ hk => hk.2) (.bool false)) (fun _ hk => hk.2) (.string t163)) (fun _ hk => trivial)))⟩; replace BK137 : Aside0 (w31.heap[gb137]? = some (.cells #[.int .i64 (wrap64 (1 + t138)), .int .i64 (wrap64 (1 + t141)), .int .i64 t144, .int .i64 0, .bool false, .string t163] 62 (0, 0))) := ⟨(wtp1 BK137.out NB137_153.out)⟩; replace BK153 : Aside0 (w31.heap[gb153]? = some (.cells #[.int .i64 (wrap64 (1 + t138)), .int .i64 (wrap64 (1 + t141)), .int .i64 t144, .int .i64 0, .bool false, .string t163] 62 (0, 0))) := ⟨(wtp1 BK153.out NB153_137.out)⟩; replace HK : Aside0 (KeepBut w w31 g none) := ⟨B2x26_⟩; replace HB : Aside0 (Below w0.heap.size w0 w31) := ⟨B2x25_⟩; replace HI0 : Aside0 (IsS159 w0 w31 g s0_0 t161 t162) := ⟨B2x24_⟩; clear hw))
  refine bodyPost_ret (results_cell_row rfl _ _ gb137 62 #[.int .i64 (wrap64 (1 + t138)), .int .i64 (wrap64 (1 + t141)), .int .i64 t144, .int .i64 0, .bool false, .string t163] (0, 0) _ rfl (tb BK137.out) Try.underlying62 rfl gk_) rfl ?_; exact ⟨B2x11_, B2x4_, (te3 HB.out (IsS159.ge HI0.out) GE137.out GE153.out), (tk2 HK.out GW137.out GW153.out)⟩
 ·replace c8 := Bool.eq_false_iff.mpr c8; subst c8; rw [if_neg (show ¬ (false = true) by decide)] at H; simp only [Option.some.injEq, Prod.mk.injEq] at H; obtain ⟨rfl, rfl, rfl, rfl, rfl, rfl, rfl, rfl⟩ := H; go_enter Try.func91, Try.ntmps91
  go_wp2_with (first | ((with_reducible refine gate_dst (N := 2) rfl ?_); refine bx (N := 2) (cs := #[.int .i64 0, .int .i64 0, .int .i64 0, .int .i64 0, .bool false, .string (⟨#[]⟩ : ByteArray)]) (t := 62) ?_; intro gb137 hg w32 hbox hb; replace HB := am (below_step (te1 HB.out (IsS159.ge HI0.out)) hb); have BK137 := am (hbox); have GW137 := am ((bs hg (keep_size HK.out))); have GE137 := am ((Nat.le_trans HW0.out (bs hg (keep_size HK.out)) : w0.heap.size ≤ gb137)); replace HK := am (KeepBut.trans (tk0 HK.out) (KeepBut.of_below hb g none) (.inl rfl)); have NB0_137 := am ((nl hg (IsS159.lt HI0.out))); have NB137_0 := am ((ng hg (IsS159.lt HI0.out))); replace HI0 := am (IsS159.below B2x0_ hb); clear hb hbox hg) | ((with_reducible refine gate_callee (f := 94) rfl ?_); refine goesL_ (some 5) rfl rfl Try.func94 gk_ rfl #[.pointer (some ⟨g, 0, none⟩), .int .i64 3] rfl gm_ ?_; (with_reducible refine (spec_l01Below.calls g s0_0 s0_1 s0_2 3 t138 t139 t140 w0 _ ?side1 ?side2 A2.out).mono ?_); (case side1 => exact B2x6_); (case side2 => exact (te2 HB.out (IsS159.ge HI0.out) GE137.out)); rintro e w33 ⟨rfl, hi, hb, hk⟩; refine ⟨_, rfl, ?_⟩; replace BK137 := am (kb hk BK137.out NB137_0.out); replace HK := am (KeepBut.trans (tk1 HK.out GW137.out) hk (.inl rfl)); replace HB := am (hb); replace HI0 := am (hi); (try clear hb); (try clear hb2); (try clear hk hi); (try clear hl)) | ((with_reducible refine gate_callee (f := 94) rfl ?_); refine goesL_ (some 8) rfl rfl Try.func94 gk_ rfl #[.pointer (some ⟨g, 0, none⟩), .int .i64 3] rfl gm_ ?_; (with_reducible refine (spec_l01Below.calls g s0_0 t139 t140 3 t141 t142 t143 w0 _ ?side1 ?side2 A3.out).mono ?_); (case side1 => exact B2x6_); (case side2 => exact (te2 HB.out (IsS159.ge HI0.out) GE137.out)); rintro e w34 ⟨rfl, hi, hb, hk⟩; refine ⟨_, rfl, ?_⟩; replace BK137 := am (kb hk BK137.out NB137_0.out); replace HK := am (KeepBut.trans (tk1 HK.out GW137.out) hk (.inl rfl)); replace HB := am (hb); replace HI0 := am (hi); (try clear hb); (try clear hb2); (try clear hk hi); (try clear hl)) | ((with_reducible refine gate_callee (f := 94) rfl ?_); refine goesL_ (some 11) rfl rfl Try.func94 gk_ rfl #[.pointer (some ⟨g, 0, none⟩), .int .i64 4] rfl gm_ ?_; (with_reducible refine (spec_l01Below.calls g s0_0 t142 t143 4 t144 t145 t146 w0 _ ?side1 ?side2 A4.out).mono ?_); (case side1 => exact B2x6_); (case side2 => exact (te2 HB.out (IsS159.ge HI0.out) GE137.out)); rintro e w35 ⟨rfl, hi, hb, hk⟩; refine ⟨_, rfl, ?_⟩; replace BK137 := am (kb hk BK137.out NB137_0.out); replace HK := am (KeepBut.trans (tk1 HK.out GW137.out) hk (.inl rfl)); replace HB := am (hb); replace HI0 := am (hi); (try clear hb); (try clear hb2); (try clear hk hi); (try clear hl)) | ((with_reducible refine gate_callee (f := 94) rfl ?_); refine goesL_ (some 14) rfl rfl Try.func94 gk_ rfl #[.pointer (some ⟨g, 0, none⟩), .int .i64 30] rfl gm_ ?_; (with_reducible refine (spec_l01Below.calls g s0_0 t145 t146 30 t147 t148 t149 w0 _ ?side1 ?side2 A5.out).mono ?_); (case side1 => exact B2x6_); (case side2 => exact (te2 HB.out (IsS159.ge HI0.out) GE137.out)); rintro e w36 ⟨rfl, hi, hb, hk⟩; refine ⟨_, rfl, ?_⟩; replace BK137 := am (kb hk BK137.out NB137_0.out); replace HK := am (KeepBut.trans (tk1 HK.out GW137.out) hk (.inl rfl)); replace HB := am (hb); replace HI0 := am (hi); (try clear hb); (try clear hb2); (try clear hk hi); (try clear hl)) | ((with_reducible refine gate_callee (f := 137) rfl ?_); refine goesL_ (some 16) rfl rfl Try.func137 gk_ rfl #[.pointer (some ⟨g, 0, none⟩), .int .i64 (wrap64 (1 + t147))] rfl gm_ ?_; (with_reducible refine (spec_l01Text.calls k g s0_0 t148 t149 (wrap64 (1 + t147)) t150 t151 t152 w0 _ ?side1 ?side2 A6.out).mono ?_); (case side1 => exact B2x6_); (case side2 => exact (te2 HB.out (IsS159.ge HI0.out) GE137.out)); rintro e w37 ⟨rfl, hi, hb, hk⟩; refine ⟨_, rfl, ?_⟩; replace BK137 := am (kb hk BK137.out NB137_0.out); replace HK := am (KeepBut.trans (tk1 HK.out GW137.out) hk (.inl rfl)); replace HB := am (hb); replace HI0 := am (hi); (try clear hb); (try clear hb2); (try clear hk hi); (try clear hl)) | ((with_reducible refine gate_dst (N := 3) rfl ?_); refine bx (N := 3) (cs := #[.int .i64 0, .int .i64 0, .int .i64 0, .int .i64 0, .bool false, .string (⟨#[]⟩ : ByteArray)]) (t := 62) ?_; intro gb153 hg w38 hbox hb; replace HB := am (below_step (te2 HB.out (IsS159.ge HI0.out) GE137.out) hb); have BK153 := am (hbox); have GW153 := am ((bs hg (keep_size HK.out))); have GE153 := am ((Nat.le_trans HW0.out (bs hg (keep_size HK.out)) : w0.heap.size ≤ gb153)); replace HK := am (KeepBut.trans (tk1 HK.out GW137.out) (KeepBut.of_below hb g none) (.inl rfl)); have NB137_153 := am ((nl hg (blk_lt BK137.out))); have NB153_137 := am ((ng hg (blk_lt BK137.out))); replace BK137 := am (bb BK137.out hb); have NB0_153 := am ((nl hg (IsS159.lt HI0.out))); have NB153_0 := am ((ng hg (IsS159.lt HI0.out))); replace HI0 := am (IsS159.below B2x6_ hb); clear hb hbox hg; have hnb39 := NB153_137.out; have hnc39 := NB137_153.out; have hnb40 := NB153_0.out; have hnc40 := NB0_153.out; obtain ⟨hcz41_0, hcz41_1, hcz41_2, hcz41_3, hcz41_4, hcz41_5⟩ := cl6 BK153.out; obtain ⟨hfz41_0, hfz41_1, hfz41_2, hfz41_3, hfz41_4, hfz41_5⟩ := fr6 BK153.out) | ((with_reducible refine gate_store (t := 62) (p := 3) rfl ?_); refine store_event (t := 62) (p := 3) (v := ?vo_w42) (w1 := ((((((w38.setCell ⟨gb153, 0, none⟩ (.int .i64 (wrap64 (1 + t138)))).setCell ⟨gb153, 1, none⟩ (.int .i64 (wrap64 (1 + t141)))).setCell ⟨gb153, 2, none⟩ (.int .i64 t144)).setCell ⟨gb153, 3, none⟩ (.int .i64 0)).setCell ⟨gb153, 4, none⟩ (.bool false)).setCell ⟨gb153, 5, none⟩ (.string t150))) ?hg ?ho ?hn ?hr ?_; (case ho => rfl); (case hg => rfl); (case hn => rfl); (case hr => exact gs_); intro w42 hw; replace BK137 : Aside0 (w42.heap[gb137]? = some (.cells #[.int .i64 0, .int .i64 0, .int .i64 0, .int .i64 0, .bool false, .string (⟨#[]⟩ : ByteArray)] 62 (0, 0))) := ⟨(wtp1 BK137.out NB137_153.out)⟩; replace BK153 : Aside0 (w42.heap[gb153]? = some (.cells #[.int .i64 (wrap64 (1 + t138)), .int .i64 (wrap64 (1 + t141)), .int .i64 t144, .int .i64 0, .bool false, .string t150] 62 (0, 0))) := ⟨(wtp0 BK153.out)⟩; replace HK : Aside0 (KeepBut w w42 g none) := ⟨B2x26_⟩; replace HB : Aside0 (Below w0.heap.size w0 w42) := ⟨B2x25_⟩; replace HI0 : Aside0 (IsS159 w0 w42 g s0_0 t151 t152) := ⟨B2x24_⟩; clear hw) | ((with_reducible refine gate_callee (f := 111) rfl ?_); refine goesL_ (some 19) rfl rfl Try.func111 gk_ rfl #[.pointer (some ⟨g, 0, none⟩), .int .i64 4] rfl gm_ ?_; (with_reducible refine (spec_l01Once.calls g s0_0 t151 t152 4 false t155 t156 w0 _ ?side1 ?side2 A7.out).mono ?_); (case side1 => exact B2x4_); (case side2 => exact (te3 HB.out (IsS159.ge HI0.out) GE137.out GE153.out)); rintro e w43 ⟨rfl, hi, hb, hk⟩; refine ⟨_, rfl, ?_⟩; replace BK137 := am (kb hk BK137.out NB137_0.out); replace BK153 := am (kb hk BK153.out NB153_0.out); replace HK := am (KeepBut.trans (tk2 HK.out GW137.out GW153.out) hk (.inl rfl)); replace HB := am (hb); replace HI0 := am (hi); (try clear hb); (try clear hb2); (try clear hk hi); (try clear hl); obtain ⟨hcz44_0, hcz44_1, hcz44_2, hcz44_3, hcz44_4, hcz44_5⟩ := cl6 BK153.out; obtain ⟨hfz44_0, hfz44_1, hfz44_2, hfz44_3, hfz44_4, hfz44_5⟩ := fr6 BK153.out; have hnb45 := NB137_0.out; have hnc45 := NB0_137.out; obtain ⟨hcz46_0, hcz46_1, hcz46_2, hcz46_3, hcz46_4, hcz46_5⟩ := cl6 BK137.out; obtain ⟨hfz46_0, hfz46_1, hfz46_2, hfz46_3, hfz46_4, hfz46_5⟩ := fr6 BK137.out) | ((with_reducible refine gate_store (t := 62) (p := 2) rfl ?_); refine store_event (t := 62) (p := 2) (v := ?vo_w47) (w1 := ((((((w43.setCell ⟨gb137, 0, none⟩ (.int .i64 (wrap64 (1 + t138)))).setCell ⟨gb137, 1, none⟩ (.int .i64 (wrap64 (1 + t141)))).setCell ⟨gb137, 2, none⟩ (.int .i64 t144)).setCell ⟨gb137, 3, none⟩ (.int .i64 0)).setCell ⟨gb137, 4, none⟩ (.bool false)).setCell ⟨gb137, 5, none⟩ (.string t150))) ?hg ?ho ?hn ?hr ?_; (case ho => rfl); (case hg => rfl); (case hn => rfl); (case hr => exact gs_); intro w47 hw; replace BK137 : Aside0 (w47.heap[gb137]? = some (.cells #[.int .i64 (wrap64 (1 + t138)), .int .i64 (wrap64 (1 + t141)), .int .i64 t144, .int .i64 0, .bool false, .string t150] 62 (0, 0))) := ⟨(wtp0 BK137.out)⟩; replace BK153 : Aside0 (w47.heap[gb153]? = some (.cells #[.int .i64 (wrap64 (1 + t138)), .int .i64 (wrap64 (1 + t141)), .int .i64 t144, .int .i64 0, .bool false, .string t150] 62 (0, 0))) := ⟨(wtp1 BK153.out NB153_137.out)⟩; replace HK : Aside0 (KeepBut w w47 g none) := ⟨B2x26_⟩; replace HB : Aside0 (Below w0.heap.size w0 w47) := ⟨B2x25_⟩; replace HI0 : Aside0 (IsS159 w0 w47 g s0_0 t155 t156) := ⟨B2x24_⟩; clear hw))
  refine bodyPost_ret (results_cell_row rfl _ _ gb137 62 #[.int .i64 (wrap64 (1 + t138)), .int .i64 (wrap64 (1 + t141)), .int .i64 t144, .int .i64 0, .bool false, .string t150] (0, 0) _ rfl (tb BK137.out) Try.underlying62 rfl gk_) rfl ?_; exact ⟨B2x11_, B2x4_, (te3 HB.out (IsS159.ge HI0.out) GE137.out GE153.out), (tk2 HK.out GW137.out GW153.out)⟩

/-! ### spec_l01New: function 92 -/
def spec_l01New.l0 : Nat → List Int → Int → Int → Option (List Int × Int × Int)
 | 0, _, _, _ => none
 | k + 1, x0, x3, x4 => if x4 < (x0.length : Int) then (if x4 < 4000 then (if 0 ≤ x4 then (spec_l01New.l0 k x0 (Go.bits .and .i64 (wrap64 ((wrap64 ((wrap64 (x3 * 131)) + (wrap64 (rd x0 x4)))) + 7)) 1073741823) (wrap64 (x4 + 1))) else (none)) else (some (x0, 0, x3))) else (some (x0, 0, x3))
def spec_l01New.f (k : Nat) (l0 : List Int) : Option (List Int × Int × Int) := spec_l01New.l0 k l0 (wrap64 (37401 + (l0.length : Int))) 0
theorem spec_l01New.mono_l : ∀ k, (∀ y0 y1 y2, LeO (spec_l01New.l0 k y0 y1 y2) (spec_l01New.l0 (k + 1) y0 y1 y2))
 | 0 => fun _ _ _ r h => by simp [spec_l01New.l0] at h
 | k + 1 => by
  have ih0 := spec_l01New.mono_l k
  ·intro y0 y1 y2
   unfold spec_l01New.l0
   repeat' (with_reducible first | exact ih0 .. | exact LeO.refl _ | exact LeO.none _ | refine LeO.ite ?_ ?_ | refine LeO.bind ?_ (fun _ => ?_))
theorem spec_l01New.mono : ∀ a0 k, LeO (spec_l01New.f k a0) (spec_l01New.f (k + 1) a0) := by
 intro a0 k
 have ih0 := spec_l01New.mono_l k
 unfold spec_l01New.f
 repeat' (with_reducible first | exact ih0 .. | exact LeO.refl _ | exact LeO.none _ | refine LeO.ite ?_ ?_ | refine LeO.bind ?_ (fun _ => ?_))
set_option maxHeartbeats 8000000 in
set_option maxRecDepth 100000 in
theorem spec_l01New.calls (k : Nat) (A0 : Option Addr) (c0 : Nat) (l0 : List Int) (r1 : List Int) (r2 : Int) (r3 : Int) (w0 w : World) (hB : Below w0.heap.size w0 w) (hr0 : Kd.C (Kd.int .u8) w0 A0 l0.length l0) (hc0 : l0.length ≤ c0) (h : spec_l01New.f k l0 = some (r1, r2, r3)) :
  Calls Try.prog 92 #[.slice A0 l0.length c0] w fun e w' => ∃ g_ : Nat, e = .returned (.pointer (some ⟨g_, 0, none⟩)) ∧ IsS159 w0 w' g_ r1 r2 r3 ∧ Below w0.heap.size w0 w' ∧ Below w.heap.size w w' := by
 have hu159 := Try.underlying159
 have HR0 := am hr0
 have HC0 := am hc0
 clear hr0 hc0
 have HBW := am (Below.refl w.heap.size w)
 have HW0 := am hB.size
 have HB := am hB
 clear hB
 have H : (spec_l01New.l0 k l0 (wrap64 (37401 + (l0.length : Int))) 0) = some (r1, r2, r3) := h
 clear h
 have H' := am H
 clear H
 go_enter Try.func92, Try.ntmps92
 go_wp2
 go_loopg [3, 4] k (fun kq v3 v4 w' => ∃ (x3_1 : Int) (x4_1 : Int), v3 = .int .i64 x3_1 ∧ v4 = .int .i64 x4_1 ∧ Aside0 (spec_l01New.l0 kq l0 x3_1 x4_1 = some (r1, r2, r3)) ∧ Aside0 (kq ≤ k) ∧ Aside0 (Below w0.heap.size w0 w') ∧ Aside0 (Below w.heap.size w w'))
 case atStart => exact ⟨(wrap64 (37401 + (l0.length : Int))), (0), (be_), (be_), H', ⟨Nat.le_refl _⟩, ⟨(te0 HB.out)⟩, ⟨(te0 HBW.out)⟩⟩
 case round =>
  clear H'; obtain ⟨x3_1, x4_1, rfl, rfl, HA, HK1, HB, HBW⟩ := hrel
  cases gk with
  | zero => exact absurd HA.out (by simp [spec_l01New.l0])
  | succ k1 =>
   have H := HA.out; clear HA; simp only [spec_l01New.l0] at H
   by_cases c2 : x4_1 < (l0.length : Int)
   ·rw [if_pos c2] at H
    have c2b0 : decide (x4_1 < (l0.length : Int)) = true := decide_eq_true c2
    clear c2
    by_cases c3 : x4_1 < 4000
    ·rw [if_pos c3] at H
     have c3b0 : decide (x4_1 < 4000) = true := decide_eq_true c3
     clear c3
     by_cases c4 : 0 ≤ x4_1
     rotate_left
     ·rw [if_neg c4] at H; exact absurd H (by simp)
     rw [if_pos c4] at H
     have c4b0 : decide (0 ≤ x4_1) = true := decide_eq_true c4
     clear c4
     have H' := am H
     clear H
     have p164 : 0 ≤ (x4_1 : Int) := dga
     have q164 : x4_1 < (l0.length : Int) := dga
     obtain ⟨ad164, e164, hx164_0⟩ := Kd.at_int HR0.out x4_1 p164 q164; cases e164; replace hx164_0 := pw_cell_below HB.out hx164_0; replace p164 := eq_true p164; replace q164 := eq_true q164
     go_wp2
     go_roundg k1
     case measure => have := HK1.out; omega
     case rel => exact ⟨(Go.bits .and .i64 (wrap64 ((wrap64 ((wrap64 (x3_1 * 131)) + (wrap64 (rd l0 x4_1)))) + 7)) 1073741823), (wrap64 (x4_1 + 1)), (be_), (be_), H', ⟨(by have := HK1.out; omega)⟩, ⟨(te0 HB.out)⟩, ⟨(te0 HBW.out)⟩⟩
    ·rw [if_neg c3] at H
     have c3b0 : decide (x4_1 < 4000) = false := decide_eq_false c3
     clear c3; simp only [Option.some.injEq, Prod.mk.injEq] at H; obtain ⟨rfl, rfl, rfl⟩ := H
     go_wp2_with (first | ((with_reducible refine gate_dst (N := 31) rfl ?_); refine bx (N := 31) (cs := #[.slice A0 l0.length c0, .int .i64 0, .int .i64 x3_1]) (t := 159) ?_; intro gb165 hg w5 hbox hb; replace HB := am (below_step (te0 HB.out) hb); have BK165 := am (hbox); have GW165 := am ((bs hg (below_size HBW.out))); have GE165 := am ((Nat.le_trans HW0.out (bs hg (below_size HBW.out)) : w0.heap.size ≤ gb165)); replace HBW := am (below_step HBW.out hb); clear hb hbox hg))
     go_ret; exact ⟨_, rfl, (show IsS159 w0 _ gb165 l0 0 x3_1 from ⟨_, _, (tb BK165.out), GE165.out, HR0.out⟩), (te1 HB.out GE165.out), (te1 HBW.out GW165.out)⟩
   ·rw [if_neg c2] at H
    have c2b0 : decide (x4_1 < (l0.length : Int)) = false := decide_eq_false c2
    clear c2; simp only [Option.some.injEq, Prod.mk.injEq] at H; obtain ⟨rfl, rfl, rfl⟩ := H
    go_wp2_with (first | ((with_reducible refine gate_dst (N := 31) rfl ?_); refine bx (N := 31) (cs := #[.slice A0 l0.length c0, .int .i64 0, .int .i64 x3_1]) (t := 159) ?_; intro gb166 hg w6 hbox hb; replace HB := am (below_step (te0 HB.out) hb); have BK166 := am (hbox); have GW166 := am ((bs hg (below_size HBW.out))); have GE166 := am ((Nat.le_trans HW0.out (bs hg (below_size HBW.out)) : w0.heap.size ≤ gb166)); replace HBW := am (below_step HBW.out hb); clear hb hbox hg))
    go_ret; exact ⟨_, rfl, (show IsS159 w0 _ gb166 l0 0 x3_1 from ⟨_, _, (tb BK166.out), GE166.out, HR0.out⟩), (te1 HB.out GE166.out), (te1 HBW.out GW166.out)⟩

/-! ### spec_DrawRightDgram: function 34 -/
def spec_DrawRightDgram.f (k : Nat) (l0 : List Int) : Option (Int × Int × Int × Int × Bool × ByteArray) := (spec_l01New.f k l0).bind fun bt168 => ((spec_l11Dgram.f k bt168.1 bt168.2.1 bt168.2.2).bind fun bt172 => (some (bt172.1, bt172.2.1, bt172.2.2.1, bt172.2.2.2.1, bt172.2.2.2.2.1, bt172.2.2.2.2.2.1)))
theorem spec_DrawRightDgram.mono : ∀ a0 k, LeO (spec_DrawRightDgram.f k a0) (spec_DrawRightDgram.f (k + 1) a0) := by
 intro a0 k
 unfold spec_DrawRightDgram.f
 repeat' (with_reducible first | exact spec_l01New.mono _ _ | exact spec_l11Dgram.mono .. | exact LeO.refl _ | exact LeO.none _ | refine LeO.ite ?_ ?_ | refine LeO.bind ?_ (fun _ => ?_))
set_option maxHeartbeats 8000000 in
set_option maxRecDepth 100000 in
theorem spec_DrawRightDgram.calls (k : Nat) (A0 : Option Addr) (c0 : Nat) (l0 : List Int) (r1 : Int) (r2 : Int) (r3 : Int) (r4 : Int) (r5 : Bool) (r6 : ByteArray) (w : World) (hr0 : Kd.C (Kd.int .u8) w A0 l0.length l0) (hc0 : l0.length ≤ c0) (h : spec_DrawRightDgram.f k l0 = some (r1, r2, r3, r4, r5, r6)) :
  Calls Try.prog 34 #[.slice A0 l0.length c0] w fun e w' => e = .returned (.agg #[.int .i64 r1, .int .i64 r2, .int .i64 r3, .int .i64 r4, .bool r5, .string r6]) ∧ Below w.heap.size w w' := by
 have hu62 := Try.underlying62
 have HR0 := am hr0
 have HC0 := am hc0
 clear hr0 hc0
 have HB := am (Below.refl w.heap.size w)
 have H : ((spec_l01New.f k l0).bind fun bt168 => ((spec_l11Dgram.f k bt168.1 bt168.2.1 bt168.2.2).bind fun bt172 => (some (bt172.1, bt172.2.1, bt172.2.2.1, bt172.2.2.2.1, bt172.2.2.2.2.1, bt172.2.2.2.2.2.1)))) = some (r1, r2, r3, r4, r5, r6) := h
 clear h
 replace H := bsi H
 obtain ⟨⟨t168, t169, t170⟩, A2, H⟩ := H
 (try dsimp only at H)
 replace H := bsi H
 obtain ⟨⟨t172, t173, t174, t175, t176, t177, t178, t179⟩, A3, H⟩ := H
 (try dsimp only at H)
 simp only [Option.some.injEq, Prod.mk.injEq] at H
 obtain ⟨rfl, rfl, rfl, rfl, rfl, rfl⟩ := H
 go_enter Try.func34, Try.ntmps34
 go_wp2_with (first | ((with_reducible refine gate_dst (N := 2) rfl ?_); refine bx (N := 2) (cs := #[.int .i64 0, .int .i64 0, .int .i64 0, .int .i64 0, .bool false, .string (⟨#[]⟩ : ByteArray)]) (t := 62) ?_; intro gb167 hg w4 hbox hb; have BK167 := am (hbox); have GW167 := am ((bs hg (below_size HB.out))); have GE167 := am ((bs hg (below_size HB.out))); replace HB := am (below_step (te0 HB.out) hb); clear hb hbox hg) | ((with_reducible refine gate_callee (f := 92) rfl ?_); refine goesL_ (some 4) rfl rfl Try.func92 gk_ rfl #[.slice A0 l0.length c0] rfl gm_ ?_; (with_reducible refine (spec_l01New.calls k _ _ l0 t168 t169 t170 w _ ?side1 ?side2 ?side3 A2.out).mono ?_); (case side1 => repeat (first | (with_reducible first | exact HB.out | apply below_alloc | apply pw_below_drewN | apply below_drew1 | refine below_set ?_ GE167.out) | exact HB.out)); (case side2 => exact HR0.out); (case side3 => exact HC0.out); rintro e w5 ⟨g171, rfl, hi, hb, hb2⟩; refine ⟨_, rfl, ?_⟩; replace HB := am (hb); have HI171 := am (hi); have NB171_167 := am (IsS159.ne_blk hi (bb BK167.out hb2) (by decide)); have NB167_171 := am (Ne.symm (IsS159.ne_blk hi (bb BK167.out hb2) (by decide))); replace BK167 := am (bb BK167.out hb2); (try clear hb); (try clear hb2); (try clear hi); (try clear hl)) | ((with_reducible refine gate_callee (f := 91) rfl ?_); refine goesL_ (some 5) rfl rfl Try.func91 gk_ rfl #[.pointer (some ⟨g171, 0, none⟩)] rfl gm_ ?_; (with_reducible refine (spec_l11Dgram.calls k g171 t168 t169 t170 t172 t173 t174 t175 t176 t177 t178 t179 w _ ?side1 ?side2 A3.out).mono ?_); (case side1 => exact B2x19_); (case side2 => exact (te2 HB.out (IsS159.ge HI171.out) GE167.out)); rintro e w6 ⟨rfl, hi, hb, hk⟩; refine ⟨_, rfl, ?_⟩; replace BK167 := am (kb hk BK167.out NB167_171.out); replace HB := am (hb); replace HI171 := am (hi); (try clear hb); (try clear hb2); (try clear hk hi); (try clear hl); have hnb7 := NB167_171.out; have hnc7 := NB171_167.out; obtain ⟨hcz8_0, hcz8_1, hcz8_2, hcz8_3, hcz8_4, hcz8_5⟩ := cl6 BK167.out; obtain ⟨hfz8_0, hfz8_1, hfz8_2, hfz8_3, hfz8_4, hfz8_5⟩ := fr6 BK167.out) | ((with_reducible refine gate_store (t := 62) (p := 2) rfl ?_); refine store_event (t := 62) (p := 2) (v := ?vo_w9) (w1 := ((((((w6.setCell ⟨gb167, 0, none⟩ (.int .i64 t172)).setCell ⟨gb167, 1, none⟩ (.int .i64 t173)).setCell ⟨gb167, 2, none⟩ (.int .i64 t174)).setCell ⟨gb167, 3, none⟩ (.int .i64 t175)).setCell ⟨gb167, 4, none⟩ (.bool t176)).setCell ⟨gb167, 5, none⟩ (.string t177))) ?hg ?ho ?hn ?hr ?_; (case ho => rfl); (case hg => rfl); (case hn => rfl); (case hr => exact gs_); intro w9 hw; replace BK167 : Aside0 (w9.heap[gb167]? = some (.cells #[.int .i64 t172, .int .i64 t173, .int .i64 t174, .int .i64 t175, .bool t176, .string t177] 62 (0, 0))) := ⟨(wtp0 BK167.out)⟩; replace HB : Aside0 (Below w.heap.size w w9) := ⟨(by rw [hw]; exact (te2 HB.out (IsS159.ge HI171.out) GE167.out))⟩; replace HI171 : Aside0 (IsS159 w w9 g171 t168 t178 t179) := ⟨(by rw [hw]; exact B2x19_)⟩; clear hw))
 refine bodyPost_ret (results_cell_row rfl _ _ gb167 62 #[.int .i64 t172, .int .i64 t173, .int .i64 t174, .int .i64 t175, .bool t176, .string t177] (0, 0) _ rfl (tb BK167.out) Try.underlying62 rfl gk_) rfl ?_
 exact ⟨B2x11_, (te2 HB.out (IsS159.ge HI171.out) GE167.out)⟩

end Go.Proofs.Ytmknnoeggkgkgaa.QFnParts
