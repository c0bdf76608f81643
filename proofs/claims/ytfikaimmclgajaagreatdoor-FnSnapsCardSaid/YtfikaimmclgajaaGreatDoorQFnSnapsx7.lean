/- Functions that a law reaches, as functions of Lean, and the walks that show that the calls come to their answers. No condition. -/
import Derived.Test.YtfikaimmclgajaaGreatDoorQFnSnapsx0
import Derived.Test.YtfikaimmclgajaaGreatDoorQFnSnapsx6
import Derived.Test.YtfikaimmclgajaaGreatDoorVFnSnapsShort3
import Derived.Test.YtfikaimmclgajaaGreatDoorVFnSnapsShort2
import Derived.Test.YtfikaimmclgajaaGreatDoorVFnSnapsShort
import Derived.Test.YtfikaimmclgajaaGreatDoorVFnSnapsShort8
import Derived.Test.YtfikaimmclgajaaGreatDoorLaid
import Derived.Laws.Cover1
namespace Go.Proofs.YtfikaimmclgajaaGreatDoor.QFnSnaps
open Go.RowKit Go.Proofs.YtfikaimmclgajaaGreatDoorW.PrintWords Go.Proofs.YtfikaimmclgajaaGreatDoorW.PrintLast Go.Proofs.YtfikaimmclgajaaGreatDoorW.PrintMore Go.Proofs.YtfikaimmclgajaaGreatDoor.Short
set_option linter.unusedVariables false
set_option linter.unusedSimpArgs false
set_option maxHeartbeats 8000000
set_option maxRecDepth 100000
variable {p : Prop}
theorem D7x0_ (h : p := by exact ⟨B21x5_, B21x0_, (Ae1 HB (IsS65.gf aG)), (Ak0 HK)⟩) : p := h
theorem D7x1_ (h : p := by exact ⟨⟨gl_⟩, Cr aT, Cb ag, Cb ah, Ce3 HB (IsS65.gf au) aD aJ⟩) : p := h
theorem D7x2_ (h : p := by exact ⟨bc M 0, bc M 1, bc M 2, bc ae 0, ((hbc HB b5).trans b5), ((hbc HB b6).trans b6), ((hbc HB b7).trans b7)⟩) : p := h
theorem D7x3_ (h : p := by exact ⟨bc M 0, bc M 1, bc M 2⟩) : p := h
theorem D7x4_ (h : p := by exact ⟨⟨B21x13_⟩, Cb ae, Cb M, Ce2 HB aW a9⟩) : p := h
section
attribute [local go_sem] max2_int min2_int max_two min_two max_three min_three max_four min_four
theorem B21x0_ (h : p := by repeat (first | (with_reducible first | exact aG.out | apply IsS65.alloc | apply IsS65.drewN | apply IsS65.drew | apply IsS65.set_0 | apply IsS65.set_1 | apply IsS65.set_2) | exact aG.out)) : p := h
theorem B21x5_ (h : p := by first | rfl | (simp [errW_none, errW_some] <;> rfl) | (simp [*, errW_none, errW_some] <;> rfl)) : p := h
theorem B21x8_ (h : p := by first | rfl | (simp; done) | (simp only [← cE, ← cD, ← b3] <;> (first | rfl | simp)) | (simp [*]; done)) : p := h
theorem B21x10_ (h : p := by repeat (first | exact (Kd.R_reads' bF.out).2.2 | (with_reducible refine Kd.C_alloc ?_ _) | (with_reducible refine Kd.C_drewN ?_ _) | (with_reducible refine Kd.C_drew ?_))) : p := h
theorem B21x13_ (h : p := by have := ba.out; first | omega | exact Nat.le_refl _) : p := h
mutual
def impl_ReadVar.l0 : Nat → ByteArray → Int → Int → Int → Option (Int × Int × Bool)
 | 0, _, _, _, _ => none
 | k + 1, x0, x1, x7, x8 => if x8 < 5 then (impl_ReadVar.j1 k x0 x1 x7 x8 (decide ((wrap64 (x1 + x8)) < (x0.size : Int)))) else (impl_ReadVar.j1 k x0 x1 x7 x8 false)
def impl_ReadVar.j1 : Nat → ByteArray → Int → Int → Int → Bool → Option (Int × Int × Bool)
 | 0, _, _, _, _, _ => none
 | k + 1, x0, x1, x7, x8, eO => if eO = true then (if 0 ≤ (wrap64 (x1 + x8)) then (if (wrap64 (x1 + x8)) < (x0.size : Int) then (if 0 ≤ (wrap64 (7 * x8)) then (if (wrap64 (bt x0 (wrap64 (x1 + x8)))) > 127 then (impl_ReadVar.l0 k x0 x1 (wrap64 (x7 + (shl .i64 (Int.tmod (wrap64 (bt x0 (wrap64 (x1 + x8)))) 128) (wrap64 (7 * x8))))) (wrap64 (x8 + 1))) else (if x8 > 0 then (if (wrap64 (bt x0 (wrap64 (x1 + x8)))) = 0 then (some (0, 0, false)) else (if (wrap64 (x7 + (shl .i64 (Int.tmod (wrap64 (bt x0 (wrap64 (x1 + x8)))) 128) (wrap64 (7 * x8))))) > 1000000000 then (some (0, 0, false)) else (some (wrap64 (x7 + (shl .i64 (Int.tmod (wrap64 (bt x0 (wrap64 (x1 + x8)))) 128) (wrap64 (7 * x8)))), wrap64 ((wrap64 (x1 + x8)) + 1), true)))) else (if (wrap64 (x7 + (shl .i64 (Int.tmod (wrap64 (bt x0 (wrap64 (x1 + x8)))) 128) (wrap64 (7 * x8))))) > 1000000000 then (some (0, 0, false)) else (some (wrap64 (x7 + (shl .i64 (Int.tmod (wrap64 (bt x0 (wrap64 (x1 + x8)))) 128) (wrap64 (7 * x8)))), wrap64 ((wrap64 (x1 + x8)) + 1), true))))) else (none)) else (none)) else (none)) else (some (0, 0, false))
end
def impl_ReadVar.f (k : Nat) (J : ByteArray) (a1 : Int) : Option (Int × Int × Bool) := (impl_within.f a1 0 (J.size : Int)).bind fun dH => (if dH = true then (impl_ReadVar.l0 k J a1 0 0) else (some (0, 0, false)))
theorem impl_ReadVar.calls (k : Nat) (J : ByteArray) (a1 : Int) (r1 : Int) (r2 : Int) (r3 : Bool) (w : World) (h : impl_ReadVar.f k J a1 = some (r1, r2, r3)) :
  Calls Tryz.prog 59 #[.string J, .int .i64 a1] w fun e w' => e = .returned (.tuple #[.int .i64 r1, .int .i64 r2, .bool r3]) ∧ Drawn0 w w' := by
 have Y := h
 clear h
 unfold impl_ReadVar.f at Y
 obtain ⟨dH, A3, U⟩ := bsi Y
 (try dsimp only at U)
 obtain ⟨rfl, Z⟩ | ⟨rfl, Z⟩ := sb U
 ·replace Z := am Z; clear Y U; go_enter Tryz.func59, Tryz.ntmps59
  go_wp2_with (first | ((with_reducible refine gate_callee (f := 56) rfl ?_); refine goesL_ (some 13) rfl rfl Tryz.func56 gk_ rfl #[.int .i64 a1, .int .i64 0, .int .i64 (J.size : Int)] rfl gm_ ?_; refine (impl_within.calls a1 0 (J.size : Int) true _ A3.out).mono ?_; rintro e w' ⟨rfl, ⟨nd, rfl⟩⟩; refine ⟨_, rfl, ?_⟩))
  go_loopg [7, 8] k (fun kq v7 v8 w' => ∃ (bE : Int) (D : Int), v7 = .int .i64 bE ∧ v8 = .int .i64 D ∧ Aside0 (impl_ReadVar.l0 kq J a1 bE D = some (r1, r2, r3)) ∧ Aside0 (kq ≤ k) ∧ Drawn0 w w')
  case atStart => exact ⟨(0), 0, be_, be_, Z, ⟨Nat.le_refl _⟩, gd_⟩
  case round =>
   clear Z
   try clear c4
   obtain ⟨bE, D, rfl, rfl, aa, ba, ⟨m1, rfl⟩⟩ := hrel
   cases gk with
   | zero => exact absurd aa.out (by simp [impl_ReadVar.l0])
   | succ k1 => ?_
   replace aa := aa.out; simp only [impl_ReadVar.l0] at aa; replace aa := am aa
   go_upto_region 5 with (fail)
   go_cut [24] (fun eJ wc => ∃ (kq : Nat) (dh : Bool), eJ = .bool dh ∧ Aside0 (impl_ReadVar.j1 kq J a1 bE D dh = some (r1, r2, r3)) ∧ Aside0 (kq ≤ k1) ∧ Drawn0 w wc)
   case first =>
    replace aa := aa.out
    obtain ⟨bu, af⟩ | ⟨bu, af⟩ := sd aa
    ·(first | rw [bu] | (simp only [i64_w, i32_w]; rw [bu]) | skip)
     replace af := am af; clear aa
     go_wp2
     go_meet
     case rel => exact ⟨_, (decide ((wrap64 (a1 + D)) < (J.size : Int))), be_, af, ⟨B21x13_⟩, gd_⟩
    ·(first | rw [bu] | (simp only [i64_w, i32_w]; rw [bu]) | skip)
     replace af := am af; clear aa
     go_wp2
     go_meet
     case rel => exact ⟨_, false, be_, af, ⟨B21x13_⟩, gd_⟩
   case rest =>
    clear aa
    try clear c4
    obtain ⟨kq, dh, rfl, ak, dp, ⟨f3, rfl⟩⟩ := hcut
    cases kq with
    | zero => exact absurd ak.out (by simp [impl_ReadVar.j1])
    | succ eG => ?_
    replace ak := ak.out; simp only [impl_ReadVar.j1] at ak
    obtain ⟨rfl, ac⟩ | ⟨rfl, ac⟩ := sb ak
    ·obtain ⟨aw, cE⟩ : ∃ j_ : Int, (wrap64 (a1 + D)) = j_ := ⟨_, rfl⟩
     (first | rw [cE] at ac | simp only [cE] at ac)
     have fy : (IntKind.i64.wrap (a1 + D)) = aw := (i64_w _).trans cE
     obtain ⟨ep, ap⟩ := yd ac; obtain ⟨fm, ay⟩ := yd ap; obtain ⟨bJ, cD⟩ : ∃ j_ : Int, (wrap64 (7 * D)) = j_ := ⟨_, rfl⟩
     (first | rw [cD] at ay | simp only [cD] at ay)
     have fu : (IntKind.i64.wrap (7 * D)) = bJ := (i64_w _).trans cD
     obtain ⟨b2, dv, av⟩ := ye ay; obtain ⟨bv, b3⟩ : ∃ j_ : Int, (shl .i64 (Int.tmod (wrap64 (bt J (aw))) 128) (bJ)) = j_ := ⟨_, rfl⟩
     (first | rw [b3] at av | simp only [b3] at av)
     have eB : (IntKind.i64.wrap ((Int.tmod (wrap64 (bt J (aw))) 128) * 2 ^ min (bJ).toNat 64)) = bv := b3
     have eC : (bJ) ≤ 64 → (IntKind.i64.wrap ((Int.tmod (wrap64 (bt J (aw))) 128) * 2 ^ (bJ).toNat)) = bv := shl_small b3
     have fw : (wrap64 ((Int.tmod (wrap64 (bt J (aw))) 128) * 2 ^ min (bJ).toNat 64)) = bv := (i64_w _).symm.trans eB
     have fv : (bJ) ≤ 64 → (wrap64 ((Int.tmod (wrap64 (bt J (aw))) 128) * 2 ^ (bJ).toNat)) = bv := fun h_ => (i64_w _).symm.trans (eC h_)
     obtain ⟨cf, ax⟩ | ⟨cf, ax⟩ := sp av
     ·have ei : decide (127 < (wrap64 (bt J (aw)))) = true := decide_eq_true cf
      clear cf; replace ax := am ax; clear ak ac ap ay av
      have aN : 0 ≤ ((aw) : Int) := dga
      have aQ : (aw) < (J.size : Int) := dga
      have cm := bt_at J (aw); replace aN := eq_true aN; replace aQ := eq_true aQ
      go_wp2
      go_roundg eG
      case measure => have := ba.out; have := dp.out; omega
      case rel => exact ⟨(wrap64 (bE + (bv))), (wrap64 (D + 1)), (by first | rfl | (simp; done) | (simp only [← b3] <;> (first | rfl | simp)) | (simp [*]; done)), be_, ax, ⟨(by have := ba.out; have := dp.out; omega)⟩, gd_⟩
     ·have ei : decide (127 < (wrap64 (bt J (aw)))) = false := decide_eq_false cf
      clear cf
      obtain ⟨cg, aI⟩ | ⟨cg, aI⟩ := sp ax
      ·have ej : decide (0 < D) = true := decide_eq_true cg
       clear cg
       obtain ⟨cC, aX⟩ | ⟨cC, aX⟩ := sp aI
       ·obtain ⟨ek, el⟩ := yE cC; clear cC; obtain ⟨rfl, rfl, rfl⟩ := s3 aX; clear aX ak ac ap ay av ax aI
        have aN : 0 ≤ ((aw) : Int) := dga
        have aQ : (aw) < (J.size : Int) := dga
        have cm := bt_at J (aw); replace aN := eq_true aN; replace aQ := eq_true aQ
        go_wp2
        go_ret3
        exact ⟨B21x8_, gd_⟩
       ·obtain ⟨ek, el⟩ := nE cC
        obtain ⟨bl, aE⟩ | ⟨bl, aE⟩ := sp aX
        ·have cO : decide (1000000000 < (wrap64 (bE + (bv)))) = true := decide_eq_true bl
         clear bl; obtain ⟨rfl, rfl, rfl⟩ := s3 aE; clear aE ak ac ap ay av ax aI aX
         have aN : 0 ≤ ((aw) : Int) := dga
         have aQ : (aw) < (J.size : Int) := dga
         have cm := bt_at J (aw); replace aN := eq_true aN; replace aQ := eq_true aQ
         go_wp2
         go_ret3
         exact ⟨B21x8_, gd_⟩
        ·have cO : decide (1000000000 < (wrap64 (bE + (bv)))) = false := decide_eq_false bl
         clear bl; obtain ⟨rfl, rfl, rfl⟩ := s3 aE; clear aE ak ac ap ay av ax aI aX
         have aN : 0 ≤ ((aw) : Int) := dga
         have aQ : (aw) < (J.size : Int) := dga
         have cm := bt_at J (aw); replace aN := eq_true aN; replace aQ := eq_true aQ
         go_wp2
         go_ret3
         exact ⟨B21x8_, gd_⟩
      ·have ej : decide (0 < D) = false := decide_eq_false cg
       clear cg
       obtain ⟨ch, aH⟩ | ⟨ch, aH⟩ := sp aI
       ·have em : decide (1000000000 < (wrap64 (bE + (bv)))) = true := decide_eq_true ch
        clear ch; obtain ⟨rfl, rfl, rfl⟩ := s3 aH; clear aH ak ac ap ay av ax aI
        have aN : 0 ≤ ((aw) : Int) := dga
        have aQ : (aw) < (J.size : Int) := dga
        have cm := bt_at J (aw); replace aN := eq_true aN; replace aQ := eq_true aQ
        go_wp2
        go_ret3
        exact ⟨B21x8_, gd_⟩
       ·have em : decide (1000000000 < (wrap64 (bE + (bv)))) = false := decide_eq_false ch
        clear ch; obtain ⟨rfl, rfl, rfl⟩ := s3 aH; clear aH ak ac ap ay av ax aI
        have aN : 0 ≤ ((aw) : Int) := dga
        have aQ : (aw) < (J.size : Int) := dga
        have cm := bt_at J (aw); replace aN := eq_true aN; replace aQ := eq_true aQ
        go_wp2
        go_ret3
        exact ⟨B21x8_, gd_⟩
    ·obtain ⟨rfl, rfl, rfl⟩ := s3 ac; clear ac ak
     go_wp2
     go_ret3
     exact ⟨gr_, gd_⟩
 ·obtain ⟨rfl, rfl, rfl⟩ := s3 Z; clear Z Y U; go_enter Tryz.func59, Tryz.ntmps59
  go_wp2_with (first | ((with_reducible refine gate_callee (f := 56) rfl ?_); refine goesL_ (some 13) rfl rfl Tryz.func56 gk_ rfl #[.int .i64 a1, .int .i64 0, .int .i64 (J.size : Int)] rfl gm_ ?_; refine (impl_within.calls a1 0 (J.size : Int) false _ A3.out).mono ?_; rintro e w' ⟨rfl, ⟨nd, rfl⟩⟩; refine ⟨_, rfl, ?_⟩))
  go_ret3
  exact ⟨gr_, gd_⟩

/-- A state of type 65 at block g of W; what its slices lead to came in by w0. -/
def IsS65 (w0 W : World) (g : Nat) (f0 : ByteArray) (f1 : Int) (f2 : Bool) : Prop := W.heap[g]? = some (.cells #[.string f0, .int .i64 f1, .bool f2] 65 (0, 0)) ∧ w0.heap.size ≤ g
theorem IsS65.grown {w0 W : World} {g : Nat} {f0 : ByteArray} {f1 : Int} {f2 : Bool} {W1 : World} {row : Option Nat} (h : IsS65 w0 W g f0 f1 f2) (hw : W.grownBy W1 row) (hne : some g ≠ row) : IsS65 w0 W1 g f0 f1 f2 := by
 obtain ⟨hb, hg⟩ := h
 exact ⟨blk_grown hb hw hne, hg⟩
theorem IsS65.own_neN {w0 W : World} {g : Nat} {f0 : ByteArray} {f1 : Int} {f2 : Bool} {α : Type} {d : Kd α} {e : Nat} {base : Nat} {ok : Nat → Prop} {v : Value} {xs : List α} (h : IsS65 w0 W g f0 f1 f2) (ho : Kd.N d e W base ok v xs) (ht : e ≠ 65) : some g ≠ v.ownBlock := by
 obtain ⟨hb, hg⟩ := h
 exact Kd.N_ne ho hb ht
theorem IsS65.fresh {w0 W : World} {g : Nat} {f0 : ByteArray} {f1 : Int} {f2 : Bool} (h : IsS65 w0 W g f0 f1 f2) : ∀ k, W.heap.size ≤ k → k ≠ g := by
 obtain ⟨hb, hg⟩ := h
 exact Kd.freshB hb
theorem IsS65.kept {w0 W : World} {g : Nat} {f0 : ByteArray} {f1 : Int} {f2 : Bool} {W1 : World} {S : Nat → Prop} (h : IsS65 w0 W g f0 f1 f2) (hk : Kept W W1 S) (hne : ¬ S g) : IsS65 w0 W1 g f0 f1 f2 := by
 obtain ⟨hb, hg⟩ := h
 exact ⟨blk_kept hb hk hne, hg⟩
theorem IsS65.below {w0 W : World} {g : Nat} {f0 : ByteArray} {f1 : Int} {f2 : Bool} {W1 : World} (h : IsS65 w0 W g f0 f1 f2) (hw : Below W.heap.size W W1) : IsS65 w0 W1 g f0 f1 f2 := h.grown (grown_of_below hw none) (by simp)
theorem IsS65.alloc {w0 W : World} {g : Nat} {f0 : ByteArray} {f1 : Int} {f2 : Bool} (h : IsS65 w0 W g f0 f1 f2) (o : Obj) : IsS65 w0 (W.alloc o) g f0 f1 f2 := h.below (below_alloc (Below.refl _ _) o)
theorem IsS65.drewN {w0 W : World} {g : Nat} {f0 : ByteArray} {f1 : Int} {f2 : Bool} (h : IsS65 w0 W g f0 f1 f2) (m : Nat) : IsS65 w0 (W.drewN m) g f0 f1 f2 := h
theorem IsS65.drew {w0 W : World} {g : Nat} {f0 : ByteArray} {f1 : Int} {f2 : Bool} (h : IsS65 w0 W g f0 f1 f2) : IsS65 w0 W.drew g f0 f1 f2 := h
theorem IsS65.at_ {w0 W : World} {g : Nat} {f0 : ByteArray} {f1 : Int} {f2 : Bool} {w' : World} {m : Nat} (hq : W.drewN m = w') (h : IsS65 w0 W g f0 f1 f2) : IsS65 w0 w' g f0 f1 f2 := by subst hq; exact IsS65.drewN h m
theorem IsS65.apart {w0 W : World} {g : Nat} {f0 : ByteArray} {f1 : Int} {f2 : Bool} {α : Type} {d : Kd α} {e : Nat} {base : Nat} {ok : Nat → Prop} {v : Value} {xs : List α} (h : IsS65 w0 W g f0 f1 f2) (ho : d.R e W base ok v xs) (ht : ∀ q, q ∈ e :: d.E → q ≠ 65) : d.R e W base (fun k => ok k ∧ k ≠ g) v xs := by
 obtain ⟨hb, hg⟩ := h
 exact Kd.R_types ho hb ht
theorem IsS65.own_ne {w0 W : World} {g : Nat} {f0 : ByteArray} {f1 : Int} {f2 : Bool} {α : Type} {d : Kd α} {e : Nat} {base : Nat} {ok : Nat → Prop} {v : Value} {xs : List α} (h : IsS65 w0 W g f0 f1 f2) (ho : d.R e W base ok v xs) (ht : e ≠ 65) : some g ≠ v.ownBlock := by
 obtain ⟨hb, hg⟩ := h
 exact Kd.R_ne ho hb ht
theorem IsS65.apartQ {w0 W : World} {g : Nat} {f0 : ByteArray} {f1 : Int} {f2 : Bool} {α : Type} {d : Kd α} {e : Nat} {base : Nat} {ok : Nat → Prop} {v : Value} {xs : List α} (h : IsS65 w0 W g f0 f1 f2) (ho : d.Q e W base ok v xs) (ht : ∀ q, q ∈ e :: d.E → q ≠ 65) : d.Q e W base (fun k => ok k ∧ k ≠ g) v xs := by
 obtain ⟨hb, hg⟩ := h
 exact Kd.Q_types ho hb ht
theorem IsS65.own_neQ {w0 W : World} {g : Nat} {f0 : ByteArray} {f1 : Int} {f2 : Bool} {α : Type} {d : Kd α} {e : Nat} {base : Nat} {ok : Nat → Prop} {v : Value} {xs : List α} (h : IsS65 w0 W g f0 f1 f2) (ho : d.Q e W base ok v xs) (ht : e ≠ 65) : some g ≠ v.ownBlock := by
 obtain ⟨hb, hg⟩ := h
 exact Kd.Q_ne ho hb ht
theorem IsS65.apartS {w0 W : World} {g : Nat} {f0 : ByteArray} {f1 : Int} {f2 : Bool} {α : Type} {d : Kd α} {e : Nat} {base : Nat} {ok : Nat → Prop} {v : Value} {xs : List α} (h : IsS65 w0 W g f0 f1 f2) (ho : d.S e W base ok v xs) (ht : ∀ q, q ∈ e :: d.E → q ≠ 65) : d.S e W base (fun k => ok k ∧ k ≠ g) v xs := by
 obtain ⟨hb, hg⟩ := h
 exact Kd.S_types ho hb ht
theorem IsS65.own_neS {w0 W : World} {g : Nat} {f0 : ByteArray} {f1 : Int} {f2 : Bool} {α : Type} {d : Kd α} {e : Nat} {base : Nat} {ok : Nat → Prop} {v : Value} {xs : List α} (h : IsS65 w0 W g f0 f1 f2) (ho : d.S e W base ok v xs) (ht : e ≠ 65) : some g ≠ v.ownBlock := by
 obtain ⟨hb, hg⟩ := h
 exact Kd.S_ne ho hb ht
theorem IsS65.lt {w0 W : World} {g : Nat} {f0 : ByteArray} {f1 : Int} {f2 : Bool} (h : IsS65 w0 W g f0 f1 f2) : g < W.heap.size := by
 obtain ⟨hb, hg⟩ := h
 exact blk_lt hb
theorem IsS65.ge {w0 W : World} {g : Nat} {f0 : ByteArray} {f1 : Int} {f2 : Bool} (h : IsS65 w0 W g f0 f1 f2) : w0.heap.size ≤ g := by
 obtain ⟨hb, hg⟩ := h
 exact hg
theorem IsS65.gf {w0 W : World} {g : Nat} {f0 : ByteArray} {f1 : Int} {f2 : Bool} (h : Aside0 (IsS65 w0 W g f0 f1 f2)) : Aside0 (w0.heap.size ≤ g) := ⟨h.out.ge⟩
theorem IsS65.ne_blk {w0 W : World} {g : Nat} {f0 : ByteArray} {f1 : Int} {f2 : Bool} {a : Nat} {cs : Array Value} {t : TypeId} {fr : Nat × Nat} (h : IsS65 w0 W g f0 f1 f2) (hb2 : W.heap[a]? = some (.cells cs t fr)) (ht : t ≠ 65) : g ≠ a := by
 obtain ⟨hb, hg⟩ := h
 rintro rfl
 rw [hb] at hb2
 injection hb2 with hb2
 injection hb2 with _ ht2
 exact ht ht2.symm
theorem IsS65.far {w0 W : World} {g : Nat} {f0 : ByteArray} {f1 : Int} {f2 : Bool} {p : Addr} (h : IsS65 w0 W g f0 f1 f2) (hne : g ≠ p.block) (u : Value) : IsS65 w0 (W.setCell p u) g f0 f1 f2 := by
 obtain ⟨hb, hg⟩ := h
 exact ⟨blk_far hb hne u, hg⟩
theorem cellS65_0 {W : World} {g : Nat} {f0 : ByteArray} {f1 : Int} {f2 : Bool} (h : W.heap[g]? = some (.cells #[.string f0, .int .i64 f1, .bool f2] 65 (0, 0))) : W.cell? ⟨g, 0, none⟩ = some (.string f0) := (blk_cell h 0).trans rfl
theorem IsS65.set_0 {w0 W : World} {g : Nat} {f0 : ByteArray} {f1 : Int} {f2 : Bool} (h : IsS65 w0 W g f0 f1 f2) (x : ByteArray) : IsS65 w0 (W.setCell ⟨g, 0, none⟩ (.string x)) g x f1 f2 := by
 obtain ⟨hb, hg⟩ := h
 exact ⟨(by simpa using blk_set hb 0 (.string x)), hg⟩
theorem cellS65_1 {W : World} {g : Nat} {f0 : ByteArray} {f1 : Int} {f2 : Bool} (h : W.heap[g]? = some (.cells #[.string f0, .int .i64 f1, .bool f2] 65 (0, 0))) : W.cell? ⟨g, 1, none⟩ = some (.int .i64 f1) := (blk_cell h 1).trans rfl
theorem IsS65.set_1 {w0 W : World} {g : Nat} {f0 : ByteArray} {f1 : Int} {f2 : Bool} (h : IsS65 w0 W g f0 f1 f2) (x : Int) : IsS65 w0 (W.setCell ⟨g, 1, none⟩ (.int .i64 x)) g f0 x f2 := by
 obtain ⟨hb, hg⟩ := h
 exact ⟨(by simpa using blk_set hb 1 (.int .i64 x)), hg⟩
theorem cellS65_2 {W : World} {g : Nat} {f0 : ByteArray} {f1 : Int} {f2 : Bool} (h : W.heap[g]? = some (.cells #[.string f0, .int .i64 f1, .bool f2] 65 (0, 0))) : W.cell? ⟨g, 2, none⟩ = some (.bool f2) := (blk_cell h 2).trans rfl
theorem IsS65.set_2 {w0 W : World} {g : Nat} {f0 : ByteArray} {f1 : Int} {f2 : Bool} (h : IsS65 w0 W g f0 f1 f2) (x : Bool) : IsS65 w0 (W.setCell ⟨g, 2, none⟩ (.bool x)) g f0 f1 x := by
 obtain ⟨hb, hg⟩ := h
 exact ⟨(by simpa using blk_set hb 2 (.bool x)), hg⟩
theorem IsS65.new (w0 W : World) (f0 : ByteArray) (f1 : Int) (f2 : Bool) (hB : Below w0.heap.size w0 W) : IsS65 w0 (W.alloc (.cells #[.string f0, .int .i64 f1, .bool f2] 65)) W.heap.size f0 f1 f2 := ⟨(by simpa using heap_alloc_new W _), hB.size⟩

def impl_scan_number.f (k : Nat) (ai : ByteArray) (aj : Int) (aK : Bool) : Option (Int × ByteArray × Int × Bool) := (impl_ReadVar.f k ai aj).bind fun cM => (if aK = true then (some (0, ai, aj, true)) else (if cM.2.2 = true then (some (cM.1, ai, cM.2.1, aK)) else (some (0, ai, aj, true))))
theorem impl_scan_number.calls (k : Nat) (g : Nat) (ai : ByteArray) (aj : Int) (aK : Bool) (r1 : Int) (r2 : ByteArray) (r3 : Int) (r4 : Bool) (w0 w : World) (hI : IsS65 w0 w g ai aj aK) (hB : Below w0.heap.size w0 w) (h : impl_scan_number.f k ai aj aK = some (r1, r2, r3, r4)) :
  Calls Tryz.prog 30 #[.pointer (some ⟨g, 0, none⟩)] w fun e w' => e = .returned (.int .i64 r1) ∧ IsS65 w0 w' g r2 r3 r4 ∧ Below w0.heap.size w0 w' ∧ KeepBut w w' g none := by
 have aG := am hI
 have HK := am (KeepBut.refl w g none)
 have HL := am hB.size
 clear hI
 have ds := am hB.size
 have HB := am hB
 clear hB
 have Y := h
 clear h
 unfold impl_scan_number.f at Y
 obtain ⟨⟨bw, bz, da⟩, A2, U⟩ := bsi Y
 (try dsimp only at U)
 obtain ⟨rfl, Z⟩ | ⟨rfl, Z⟩ := sb U
 ·obtain ⟨rfl, rfl, rfl, rfl⟩ := s4 Z; clear Z Y U; obtain ⟨aM, ck⟩ := aG.out; have dZ := cellS65_0 aM; have d0 := cellS65_1 aM; have d1 := cellS65_2 aM; obtain ⟨d2, d3, d4⟩ := fr3 aM; clear aM ck; go_enter Tryz.func30, Tryz.ntmps30
  go_wp2_with (first | (go_at_call 59; refine (impl_ReadVar.calls k ai aj bw bz da _ A2.out).mono ?_; rintro e w' ⟨rfl, ⟨nd, rfl⟩⟩; (try first | exact ⟨rfl, _, World.drewN_drewN _ _ _⟩ | exact ⟨rfl, _, Eq.trans (World.drewN_drewN _ _ _) (congrArg (World.drewN _) (Nat.add_assoc _ _ _))⟩)))
  repeat (go_quiet (first | (go_at_call 59; (with_reducible refine (impl_ReadVar.calls k ai aj bw bz da _ A2.out).mono ?_); rintro e w' ⟨rfl, ⟨nd, rfl⟩⟩; (try first | exact ⟨rfl, _, World.drewN_drewN _ _ _⟩ | exact ⟨rfl, _, Eq.trans (World.drewN_drewN _ _ _) (congrArg (World.drewN _) (Nat.add_assoc _ _ _))⟩))); try go_wp2_with (first | (go_at_call 59; (with_reducible refine (impl_ReadVar.calls k ai aj bw bz da _ A2.out).mono ?_); rintro e w' ⟨rfl, ⟨nd, rfl⟩⟩; (try first | exact ⟨rfl, _, World.drewN_drewN _ _ _⟩ | exact ⟨rfl, _, Eq.trans (World.drewN_drewN _ _ _) (congrArg (World.drewN _) (Nat.add_assoc _ _ _))⟩))))
  go_ret; exact D7x0_
 ·obtain ⟨rfl, aa⟩ | ⟨rfl, aa⟩ := sb Z
  ·obtain ⟨rfl, rfl, rfl, rfl⟩ := s4 aa; clear aa Y U Z; obtain ⟨bj, cR⟩ := aG.out; have e3 := cellS65_0 bj; have e4 := cellS65_1 bj; have e5 := cellS65_2 bj; obtain ⟨fe, ff, fg⟩ := fr3 bj; clear bj cR; go_enter Tryz.func30, Tryz.ntmps30
   go_wp2_with (first | (go_at_call 59; refine (impl_ReadVar.calls k ai aj bw bz true _ A2.out).mono ?_; rintro e w' ⟨rfl, ⟨nd, rfl⟩⟩; (try first | exact ⟨rfl, _, World.drewN_drewN _ _ _⟩ | exact ⟨rfl, _, Eq.trans (World.drewN_drewN _ _ _) (congrArg (World.drewN _) (Nat.add_assoc _ _ _))⟩)))
   repeat (go_quiet (first | (go_at_call 59; (with_reducible refine (impl_ReadVar.calls k ai aj bw bz true _ A2.out).mono ?_); rintro e w' ⟨rfl, ⟨nd, rfl⟩⟩; (try first | exact ⟨rfl, _, World.drewN_drewN _ _ _⟩ | exact ⟨rfl, _, Eq.trans (World.drewN_drewN _ _ _) (congrArg (World.drewN _) (Nat.add_assoc _ _ _))⟩))); try go_wp2_with (first | (go_at_call 59; (with_reducible refine (impl_ReadVar.calls k ai aj bw bz true _ A2.out).mono ?_); rintro e w' ⟨rfl, ⟨nd, rfl⟩⟩; (try first | exact ⟨rfl, _, World.drewN_drewN _ _ _⟩ | exact ⟨rfl, _, Eq.trans (World.drewN_drewN _ _ _) (congrArg (World.drewN _) (Nat.add_assoc _ _ _))⟩))))
   go_ret; exact D7x0_
  ·obtain ⟨rfl, rfl, rfl, rfl⟩ := s4 aa; clear aa Y U Z; obtain ⟨bk, cS⟩ := aG.out; have e6 := cellS65_0 bk; have e7 := cellS65_1 bk; have e8 := cellS65_2 bk; obtain ⟨fh, fi, fj⟩ := fr3 bk; clear bk cS; go_enter Tryz.func30, Tryz.ntmps30
   go_wp2_with (first | (go_at_call 59; refine (impl_ReadVar.calls k ai aj bw bz false _ A2.out).mono ?_; rintro e w' ⟨rfl, ⟨nd, rfl⟩⟩; (try first | exact ⟨rfl, _, World.drewN_drewN _ _ _⟩ | exact ⟨rfl, _, Eq.trans (World.drewN_drewN _ _ _) (congrArg (World.drewN _) (Nat.add_assoc _ _ _))⟩)))
   repeat (go_quiet (first | (go_at_call 59; (with_reducible refine (impl_ReadVar.calls k ai aj bw bz false _ A2.out).mono ?_); rintro e w' ⟨rfl, ⟨nd, rfl⟩⟩; (try first | exact ⟨rfl, _, World.drewN_drewN _ _ _⟩ | exact ⟨rfl, _, Eq.trans (World.drewN_drewN _ _ _) (congrArg (World.drewN _) (Nat.add_assoc _ _ _))⟩))); try go_wp2_with (first | (go_at_call 59; (with_reducible refine (impl_ReadVar.calls k ai aj bw bz false _ A2.out).mono ?_); rintro e w' ⟨rfl, ⟨nd, rfl⟩⟩; (try first | exact ⟨rfl, _, World.drewN_drewN _ _ _⟩ | exact ⟨rfl, _, Eq.trans (World.drewN_drewN _ _ _) (congrArg (World.drewN _) (Nat.add_assoc _ _ _))⟩))))
   go_ret; exact D7x0_

def impl_ReadShort.f (k : Nat) (J : ByteArray) (a1 : Int) : Option (ByteArray × Int × Bool) := (impl_ReadVar.f k J a1).bind fun aZ => (if aZ.2.2 = true then (if aZ.1 > 20000 then (some ((⟨#[]⟩ : ByteArray), 0, false)) else (if aZ.1 > (wrap64 ((J.size : Int) - aZ.2.1)) then (some ((⟨#[]⟩ : ByteArray), 0, false)) else (if 0 ≤ aZ.2.1 then (if aZ.2.1 ≤ (wrap64 (aZ.2.1 + aZ.1)) then (if (wrap64 (aZ.2.1 + aZ.1)) ≤ (J.size : Int) then (some (J.extract (aZ.2.1 : Int).toNat ((wrap64 (aZ.2.1 + aZ.1)) : Int).toNat, wrap64 (aZ.2.1 + aZ.1), true)) else (none)) else (none)) else (none)))) else (some ((⟨#[]⟩ : ByteArray), 0, false)))
theorem impl_ReadShort.calls (k : Nat) (J : ByteArray) (a1 : Int) (r1 : ByteArray) (r2 : Int) (r3 : Bool) (w : World) (h : impl_ReadShort.f k J a1 = some (r1, r2, r3)) :
  Calls Tryz.prog 60 #[.string J, .int .i64 a1] w fun e w' => e = .returned (.tuple #[.string r1, .int .i64 r2, .bool r3]) ∧ Drawn0 w w' := by
 have Y := h
 clear h
 unfold impl_ReadShort.f at Y
 obtain ⟨⟨bK, b8, f4⟩, A3, U⟩ := bsi Y
 (try dsimp only at U)
 obtain ⟨rfl, Z⟩ | ⟨rfl, Z⟩ := sb U
 ·obtain ⟨c5, aa⟩ | ⟨c5, aa⟩ := sp Z
  ·have cj : decide (20000 < bK) = true := decide_eq_true c5
   clear c5; obtain ⟨rfl, rfl, rfl⟩ := s3 aa; clear aa Y U Z; go_enter Tryz.func60, Tryz.ntmps60
   go_wp2_with (first | ((with_reducible refine gate_callee (f := 59) rfl ?_); refine goesL_ (some 13) rfl rfl Tryz.func59 gk_ rfl #[.string J, .int .i64 a1] rfl gm_ ?_; refine (impl_ReadVar.calls k J a1 bK b8 true _ A3.out).mono ?_; rintro e w' ⟨rfl, ⟨nd, rfl⟩⟩; refine ⟨_, rfl, ?_⟩))
   go_ret3
   exact ⟨gr_, gd_⟩
  ·have cj : decide (20000 < bK) = false := decide_eq_false c5
   clear c5
   obtain ⟨c6, af⟩ | ⟨c6, af⟩ := sp aa
   ·have bu : decide ((wrap64 ((J.size : Int) - b8)) < bK) = true := decide_eq_true c6
    clear c6; obtain ⟨rfl, rfl, rfl⟩ := s3 af; clear af Y U Z aa; go_enter Tryz.func60, Tryz.ntmps60
    go_wp2_with (first | ((with_reducible refine gate_callee (f := 59) rfl ?_); refine goesL_ (some 13) rfl rfl Tryz.func59 gk_ rfl #[.string J, .int .i64 a1] rfl gm_ ?_; refine (impl_ReadVar.calls k J a1 bK b8 true _ A3.out).mono ?_; rintro e w' ⟨rfl, ⟨nd, rfl⟩⟩; refine ⟨_, rfl, ?_⟩))
    go_ret3
    exact ⟨gr_, gd_⟩
   ·have bu : decide ((wrap64 ((J.size : Int) - b8)) < bK) = false := decide_eq_false c6
    clear c6; obtain ⟨dz, dB, ak⟩ := ye af; obtain ⟨c8, ac⟩ := yn ak; have fq := eq_true c8; have fs := decide_eq_true c8; obtain ⟨c9, ap⟩ := yn ac; have ep := eq_true c9; have ft := decide_eq_true c9; obtain ⟨rfl, rfl, rfl⟩ := s3 ap; clear ap Y U Z aa af ak ac; go_enter Tryz.func60, Tryz.ntmps60
    go_wp2_with (first | ((with_reducible refine gate_callee (f := 59) rfl ?_); refine goesL_ (some 13) rfl rfl Tryz.func59 gk_ rfl #[.string J, .int .i64 a1] rfl gm_ ?_; refine (impl_ReadVar.calls k J a1 bK b8 true _ A3.out).mono ?_; rintro e w' ⟨rfl, ⟨nd, rfl⟩⟩; refine ⟨_, rfl, ?_⟩))
    go_ret3
    exact ⟨gr_, gd_⟩
 ·obtain ⟨rfl, rfl, rfl⟩ := s3 Z; clear Z Y U; go_enter Tryz.func60, Tryz.ntmps60
  go_wp2_with (first | ((with_reducible refine gate_callee (f := 59) rfl ?_); refine goesL_ (some 13) rfl rfl Tryz.func59 gk_ rfl #[.string J, .int .i64 a1] rfl gm_ ?_; refine (impl_ReadVar.calls k J a1 bK b8 false _ A3.out).mono ?_; rintro e w' ⟨rfl, ⟨nd, rfl⟩⟩; refine ⟨_, rfl, ?_⟩))
  go_ret3
  exact ⟨gr_, gd_⟩

def impl_scan_short.f (k : Nat) (ai : ByteArray) (aj : Int) (aK : Bool) : Option (ByteArray × ByteArray × Int × Bool) := (impl_ReadShort.f k ai aj).bind fun cN => (if aK = true then (some ((⟨#[]⟩ : ByteArray), ai, aj, true)) else (if cN.2.2 = true then (some (cN.1, ai, cN.2.1, aK)) else (some ((⟨#[]⟩ : ByteArray), ai, aj, true))))
theorem impl_scan_short.calls (k : Nat) (g : Nat) (ai : ByteArray) (aj : Int) (aK : Bool) (r1 : ByteArray) (r2 : ByteArray) (r3 : Int) (r4 : Bool) (w0 w : World) (hI : IsS65 w0 w g ai aj aK) (hB : Below w0.heap.size w0 w) (h : impl_scan_short.f k ai aj aK = some (r1, r2, r3, r4)) :
  Calls Tryz.prog 31 #[.pointer (some ⟨g, 0, none⟩)] w fun e w' => e = .returned (.string r1) ∧ IsS65 w0 w' g r2 r3 r4 ∧ Below w0.heap.size w0 w' ∧ KeepBut w w' g none := by
 have aG := am hI
 have HK := am (KeepBut.refl w g none)
 have HL := am hB.size
 clear hI
 have ds := am hB.size
 have HB := am hB
 clear hB
 have Y := h
 clear h
 unfold impl_scan_short.f at Y
 obtain ⟨⟨bB, bC, db⟩, A2, U⟩ := bsi Y
 (try dsimp only at U)
 obtain ⟨rfl, Z⟩ | ⟨rfl, Z⟩ := sb U
 ·obtain ⟨rfl, rfl, rfl, rfl⟩ := s4 Z; clear Z Y U; obtain ⟨aM, ck⟩ := aG.out; have dZ := cellS65_0 aM; have d0 := cellS65_1 aM; have d1 := cellS65_2 aM; obtain ⟨d2, d3, d4⟩ := fr3 aM; clear aM ck; go_enter Tryz.func31, Tryz.ntmps31
  go_wp2_with (first | (go_at_call 60; refine (impl_ReadShort.calls k ai aj bB bC db _ A2.out).mono ?_; rintro e w' ⟨rfl, ⟨nd, rfl⟩⟩; (try first | exact ⟨rfl, _, World.drewN_drewN _ _ _⟩ | exact ⟨rfl, _, Eq.trans (World.drewN_drewN _ _ _) (congrArg (World.drewN _) (Nat.add_assoc _ _ _))⟩)))
  repeat (go_quiet (first | (go_at_call 60; (with_reducible refine (impl_ReadShort.calls k ai aj bB bC db _ A2.out).mono ?_); rintro e w' ⟨rfl, ⟨nd, rfl⟩⟩; (try first | exact ⟨rfl, _, World.drewN_drewN _ _ _⟩ | exact ⟨rfl, _, Eq.trans (World.drewN_drewN _ _ _) (congrArg (World.drewN _) (Nat.add_assoc _ _ _))⟩))); try go_wp2_with (first | (go_at_call 60; (with_reducible refine (impl_ReadShort.calls k ai aj bB bC db _ A2.out).mono ?_); rintro e w' ⟨rfl, ⟨nd, rfl⟩⟩; (try first | exact ⟨rfl, _, World.drewN_drewN _ _ _⟩ | exact ⟨rfl, _, Eq.trans (World.drewN_drewN _ _ _) (congrArg (World.drewN _) (Nat.add_assoc _ _ _))⟩))))
  go_ret; exact D7x0_
 ·obtain ⟨rfl, aa⟩ | ⟨rfl, aa⟩ := sb Z
  ·obtain ⟨rfl, rfl, rfl, rfl⟩ := s4 aa; clear aa Y U Z; obtain ⟨bj, cR⟩ := aG.out; have e3 := cellS65_0 bj; have e4 := cellS65_1 bj; have e5 := cellS65_2 bj; obtain ⟨fe, ff, fg⟩ := fr3 bj; clear bj cR; go_enter Tryz.func31, Tryz.ntmps31
   go_wp2_with (first | (go_at_call 60; refine (impl_ReadShort.calls k ai aj bB bC true _ A2.out).mono ?_; rintro e w' ⟨rfl, ⟨nd, rfl⟩⟩; (try first | exact ⟨rfl, _, World.drewN_drewN _ _ _⟩ | exact ⟨rfl, _, Eq.trans (World.drewN_drewN _ _ _) (congrArg (World.drewN _) (Nat.add_assoc _ _ _))⟩)))
   repeat (go_quiet (first | (go_at_call 60; (with_reducible refine (impl_ReadShort.calls k ai aj bB bC true _ A2.out).mono ?_); rintro e w' ⟨rfl, ⟨nd, rfl⟩⟩; (try first | exact ⟨rfl, _, World.drewN_drewN _ _ _⟩ | exact ⟨rfl, _, Eq.trans (World.drewN_drewN _ _ _) (congrArg (World.drewN _) (Nat.add_assoc _ _ _))⟩))); try go_wp2_with (first | (go_at_call 60; (with_reducible refine (impl_ReadShort.calls k ai aj bB bC true _ A2.out).mono ?_); rintro e w' ⟨rfl, ⟨nd, rfl⟩⟩; (try first | exact ⟨rfl, _, World.drewN_drewN _ _ _⟩ | exact ⟨rfl, _, Eq.trans (World.drewN_drewN _ _ _) (congrArg (World.drewN _) (Nat.add_assoc _ _ _))⟩))))
   go_ret; exact D7x0_
  ·obtain ⟨rfl, rfl, rfl, rfl⟩ := s4 aa; clear aa Y U Z; obtain ⟨bk, cS⟩ := aG.out; have e6 := cellS65_0 bk; have e7 := cellS65_1 bk; have e8 := cellS65_2 bk; obtain ⟨fh, fi, fj⟩ := fr3 bk; clear bk cS; go_enter Tryz.func31, Tryz.ntmps31
   go_wp2_with (first | (go_at_call 60; refine (impl_ReadShort.calls k ai aj bB bC false _ A2.out).mono ?_; rintro e w' ⟨rfl, ⟨nd, rfl⟩⟩; (try first | exact ⟨rfl, _, World.drewN_drewN _ _ _⟩ | exact ⟨rfl, _, Eq.trans (World.drewN_drewN _ _ _) (congrArg (World.drewN _) (Nat.add_assoc _ _ _))⟩)))
   repeat (go_quiet (first | (go_at_call 60; (with_reducible refine (impl_ReadShort.calls k ai aj bB bC false _ A2.out).mono ?_); rintro e w' ⟨rfl, ⟨nd, rfl⟩⟩; (try first | exact ⟨rfl, _, World.drewN_drewN _ _ _⟩ | exact ⟨rfl, _, Eq.trans (World.drewN_drewN _ _ _) (congrArg (World.drewN _) (Nat.add_assoc _ _ _))⟩))); try go_wp2_with (first | (go_at_call 60; (with_reducible refine (impl_ReadShort.calls k ai aj bB bC false _ A2.out).mono ?_); rintro e w' ⟨rfl, ⟨nd, rfl⟩⟩; (try first | exact ⟨rfl, _, World.drewN_drewN _ _ _⟩ | exact ⟨rfl, _, Eq.trans (World.drewN_drewN _ _ _) (congrArg (World.drewN _) (Nat.add_assoc _ _ _))⟩))))
   go_ret; exact D7x0_

def impl_ReadConf.l0 : Nat → ByteArray → List Int → Int → Option (List Int × Bool)
 | 0, _, _, _ => none
 | k + 1, x0, x4, x5 => if x5 < (x0.size : Int) then (if 0 ≤ x5 then (if x4.length < 17592186044416 then (impl_ReadConf.l0 k x0 (x4 ++ [wrap64 (bt x0 x5)]) (wrap64 (x5 + 1))) else (none)) else (none)) else ((impl_ConfOk.f k x4).bind fun dI => (if dI = true then (some (x4, true)) else (some (([] : List Int), false))))
def impl_ReadConf.f (k : Nat) (J : ByteArray) : Option (List Int × Bool) := impl_ReadConf.l0 k J (([] : List Int)) 0
theorem impl_ReadConf.calls (k : Nat) (J : ByteArray) (r1 : List Int) (r2 : Bool) (w : World) (h : impl_ReadConf.f k J = some (r1, r2)) :
  Calls Tryz.prog 32 #[.string J] w fun e w' => ∃ dX : Value, e = .returned (.tuple #[dX, .bool r2]) ∧ Kd.R (Kd.int .i64) 3 w' w.heap.size (fun _ => True) dX r1 ∧ Below w.heap.size w w' := by
 have HB := am (Below.refl w.heap.size w)
 have Y := h
 clear h
 unfold impl_ReadConf.f at Y
 obtain ⟨eV, cq⟩ : ∃ y_ : List Int, y_ = (([] : List Int)) := ⟨_, rfl⟩
 (first | with_reducible replace Y := hq cq Y | rw [← cq] at Y | simp only [← cq] at Y)
 have dt := am cq
 clear cq
 replace Y := am Y
 go_enter Tryz.func32, Tryz.ntmps32
 go_wp2_with (first | ((with_reducible refine gate_dst (N := 6) rfl ?_); refine Kd.R_lit (Kd.int .i64) _ 3 ?hg (N := 6) ?hd (xs := ([] : List Int)) (inner := []) (ok := fun _ => True) (okp := fun _ => True) ?hr ?hp (fun _ hk => hk) trivial (Below.refl _ _) (Nat.le_refl _) (by simp) ?_; (case hd => rfl); (case hg => rfl); (case hr => first | (go_simp; done) | (go_simp; rfl)); (case hp => exact (Reps.none _ _)); intro f6 w2 cl hb hg_ hnew_; clear hg_ hnew_; (first | rw [← dt.out] at cl | (simp only [Int.reduceToNat] at cl; rw [← dt.out] at cl)); have d7 := am (Kd.R_lower cl (below_size (Ae0 HB))); replace HB := hA HB hb; clear hb cl))
 go_loopg [4, 5] k (fun kq v4 v5 w' => ∃ (bD : List Int) (ar : Int), v5 = .int .i64 ar ∧ Aside0 (impl_ReadConf.l0 kq J bD ar = some (r1, r2)) ∧ Aside0 (kq ≤ k) ∧ Aside0 (Kd.R (Kd.int .i64) 3 w' w.heap.size (fun _ => True) v4 bD) ∧ Aside0 (Below w.heap.size w w'))
 case atStart => exact ⟨(eV), 0, be_, Y, ⟨Nat.le_refl _⟩, Cr d7, Ce0 HB⟩
 case round =>
  clear Y; obtain ⟨bD, ar, rfl, U, ba, bF, HB⟩ := hrel
  cases gk with
  | zero => exact absurd U.out (by simp [impl_ReadConf.l0])
  | succ k1 => ?_
  replace U := U.out; simp only [impl_ReadConf.l0] at U
  obtain ⟨ci, Z⟩ | ⟨ci, Z⟩ := sd U
  ·obtain ⟨cj, aa⟩ := yd Z; obtain ⟨ea, af⟩ := ya aa; obtain ⟨eW, cr⟩ : ∃ y_ : List Int, y_ = (bD ++ [wrap64 (bt J ar)]) := ⟨_, rfl⟩
   (first | with_reducible replace af := hq cr af | rw [← cr] at af | simp only [← cr] at af)
   have ed := am cr; clear cr; replace af := am af; clear U Z aa
   have p6 : 0 ≤ (ar : Int) := dga
   have q6 : ar < (J.size : Int) := dga
   have fY := bt_at J ar; replace p6 := eq_true p6; replace q6 := eq_true q6
   go_wp2_with (first | ((with_reducible refine gate_builtin (b := .append) (xs := #[.tmp 13, .tmp 18]) rfl ?_); at_builtin; refine Kd.R_append (Kd.int .i64) (w0 := w) w.heap.size rfl (.tmp 13) (.tmp 18) 27 3 (.int .i64 0) 8 rfl Tryz.underlying27 info3 rfl (by decide) (by omega) u4 bD (wrap64 (bt J ar)) [.int .i64 (wrap64 (bt J ar))] (fun _ => True) (fun _ => False) rfl rfl ?aP (fun _ hk => hk.elim) ?aF ?aO ?aB ?aS ?aL ?_; (case aP => exact rfl); (case aB => exact (Ae0 HB)); (case aF => exact (fun _ _ => trivial)); (case aO => exact (Ar bF)); (case aS => exact (below_size (Ae0 HB))); (case aL => have := ea.out; omega); intro f7 w8 ho hb hg hat; rw [← ed.out] at ho; replace HB := am hb; have d8 := am ho; clear bF; clear ho hb hg hat))
   go_roundg k1
   case measure => have := ba.out; omega
   case rel => exact ⟨(eW), (wrap64 (ar + 1)), be_, af, ⟨(by have := ba.out; omega)⟩, Cr d8, Ce0 HB⟩
  ·obtain ⟨dI, A9, ak⟩ := bsi Z; (try dsimp only at ak)
   obtain ⟨rfl, ac⟩ | ⟨rfl, ac⟩ := sb ak
   ·obtain ⟨rfl, rfl⟩ := s2 ac; clear ac U Z ak; obtain ⟨d5, eq, ev⟩ := Kd.R_slice bF.out; subst ev
    go_wp2_with (first | ((with_reducible refine gate_callee (f := 53) rfl ?_); refine goesL_ (some 21) rfl rfl Tryz.func53 gk_ rfl #[.slice d5 bD.length eq] rfl gm_ ?_; refine (impl_ConfOk.calls k1 _ _ bD true _ B21x10_ ((Kd.R_reads' bF.out).2.1) A9.out).mono ?_; rintro e w' ⟨rfl, ⟨nd, rfl⟩⟩; refine ⟨_, rfl, ?_⟩))
    go_ret2
    exact ⟨_, B21x5_, (Ar bF), (Ae0 HB)⟩
   ·obtain ⟨rfl, rfl⟩ := s2 ac; clear ac U Z ak; obtain ⟨d6, er, ew⟩ := Kd.R_slice bF.out; subst ew
    go_wp2_with (first | ((with_reducible refine gate_callee (f := 53) rfl ?_); refine goesL_ (some 21) rfl rfl Tryz.func53 gk_ rfl #[.slice d6 bD.length er] rfl gm_ ?_; refine (impl_ConfOk.calls k1 _ _ bD false _ B21x10_ ((Kd.R_reads' bF.out).2.1) A9.out).mono ?_; rintro e w' ⟨rfl, ⟨nd, rfl⟩⟩; refine ⟨_, rfl, ?_⟩))
    go_ret2
    exact ⟨_, B21x5_, gn_, (Ae0 HB)⟩

def impl_scan_done.f (ai : ByteArray) (aj : Int) (aK : Bool) : Option (Bool × ByteArray × Int × Bool) := if aK = true then (some (false, ai, aj, aK)) else (some ((aj == (ai.size : Int)), ai, aj, aK))
theorem impl_scan_done.calls (g : Nat) (ai : ByteArray) (aj : Int) (aK : Bool) (r1 : Bool) (r2 : ByteArray) (r3 : Int) (r4 : Bool) (w0 w : World) (hI : IsS65 w0 w g ai aj aK) (hB : Below w0.heap.size w0 w) (h : impl_scan_done.f ai aj aK = some (r1, r2, r3, r4)) :
  Calls Tryz.prog 33 #[.pointer (some ⟨g, 0, none⟩)] w fun e w' => e = .returned (.bool r1) ∧ IsS65 w0 w' g r2 r3 r4 ∧ Below w0.heap.size w0 w' ∧ KeepBut w w' g none := by
 have aG := am hI
 have HK := am (KeepBut.refl w g none)
 have HL := am hB.size
 clear hI
 have ds := am hB.size
 have HB := am hB
 clear hB
 have Y := h
 clear h
 unfold impl_scan_done.f at Y
 obtain ⟨rfl, U⟩ | ⟨rfl, U⟩ := sb Y
 ·obtain ⟨rfl, rfl, rfl, rfl⟩ := s4 U; clear U Y; obtain ⟨cc, ez⟩ := aG.out; have eX := cellS65_0 cc; have gx := cellS65_1 cc; have gy := cellS65_2 cc; obtain ⟨e9, gG, gH⟩ := fr3 cc; clear cc ez; go_enter Tryz.func33, Tryz.ntmps33
  go_wp2
  repeat (go_quiet (fail); try go_wp2)
  go_ret; exact D7x0_
 obtain ⟨rfl, rfl, rfl, rfl⟩ := s4 U
 clear U Y
 obtain ⟨aM, ck⟩ := aG.out
 have dZ := cellS65_0 aM
 have d0 := cellS65_1 aM
 have d1 := cellS65_2 aM
 obtain ⟨d2, d3, d4⟩ := fr3 aM
 clear aM ck
 go_enter Tryz.func33, Tryz.ntmps33
 go_wp2
 repeat (go_quiet (fail); try go_wp2)
 go_ret
 exact D7x0_
theorem B22x0_ (h : p := by repeat (first | (with_reducible first | exact au.out | apply IsS65.alloc | apply IsS65.drewN | apply IsS65.drew | apply IsS65.set_0 | apply IsS65.set_1 | apply IsS65.set_2 | refine IsS65.far ?_ eb.out _ | refine IsS65.far ?_ bY.out _) | exact au.out)) : p := h
def impl_ReadSnap.j0 : Nat → Bool → Int → Int → List Int → ByteArray → Option (Int × Int × List Int × ByteArray × Bool)
 | 0, _, _, _, _, _ => none
 | k + 1, eQ, eR, eS, eT, eU => if eQ = true then (some (0, 0, ([] : List Int), (⟨#[]⟩ : ByteArray), false)) else (some (eR, eS, eT, eU, true))
def impl_ReadSnap.f (k : Nat) (J : ByteArray) : Option (Int × Int × List Int × ByteArray × Bool) := (impl_Unsealed.f k J).bind fun du => ((impl_scan_number.f k du.1 0 (!du.2)).bind fun bq => ((impl_scan_number.f k bq.2.1 bq.2.2.1 bq.2.2.2).bind fun br => ((impl_scan_short.f k br.2.1 br.2.2.1 br.2.2.2).bind fun cB => ((impl_scan_short.f k cB.2.1 cB.2.2.1 cB.2.2.2).bind fun bG => ((impl_ReadConf.f k cB.1).bind fun b1 => ((impl_scan_done.f bG.2.1 bG.2.2.1 bG.2.2.2).bind fun eh => (if eh.1 = true then (if b1.2 = true then ((impl_isIndex.f bq.1).bind fun dS => (if dS = true then ((impl_isTerm.f br.1).bind fun dT => (if dT = true then (impl_ReadSnap.j0 k (decide ((J.size : Int) > 20000)) bq.1 br.1 b1.1 bG.1) else (impl_ReadSnap.j0 k true bq.1 br.1 b1.1 bG.1))) else (impl_ReadSnap.j0 k true bq.1 br.1 b1.1 bG.1))) else (impl_ReadSnap.j0 k true bq.1 br.1 b1.1 bG.1)) else (impl_ReadSnap.j0 k true bq.1 br.1 b1.1 bG.1))))))))
theorem impl_ReadSnap.calls (k : Nat) (J : ByteArray) (r1 : Int) (r2 : Int) (r3 : List Int) (r4 : ByteArray) (r5 : Bool) (w : World) (h : impl_ReadSnap.f k J = some (r1, r2, r3, r4, r5)) :
  Calls Tryz.prog 7 #[.string J] w fun e w' => ∃ dY : Value, e = .returned (.tuple #[.agg #[.int .i64 r1, .int .i64 r2, dY, .string r4], .bool r5]) ∧ Kd.R (Kd.int .i64) 3 w' w.heap.size (fun _ => True) dY r3 ∧ Below w.heap.size w w' := by
 have fV := Tryz.underlying29
 have fX := Tryz.underlying65
 have HB := am (Below.refl w.heap.size w)
 have Y := h
 clear h
 unfold impl_ReadSnap.f at Y
 obtain ⟨⟨dc, dd⟩, A2, U⟩ := bsi Y
 (try dsimp only at U)
 obtain ⟨⟨a2, dJ, dK, dL⟩, A3, Z⟩ := bsi U
 (try dsimp only at Z)
 obtain ⟨⟨a8, dM, dN, dO⟩, A4, aa⟩ := bsi Z
 (try dsimp only at aa)
 obtain ⟨⟨de, dP, dQ, dR⟩, A5, af⟩ := bsi aa
 (try dsimp only at af)
 obtain ⟨⟨bm, be, bh, bi⟩, A6, ak⟩ := bsi af
 (try dsimp only at ak)
 obtain ⟨⟨aV, eI⟩, A7, ac⟩ := bsi ak
 (try dsimp only at ac)
 replace ac := am ac
 clear Y U Z aa af ak
 go_enter Tryz.func7, Tryz.ntmps7
 go_upto_region 10 with (first | ((with_reducible refine gate_dst (N := 2) rfl ?_); (try (refine gate_guard (by rfl) ?_; dsimp only)); refine bx (N := 2) (cs := #[.int .i64 0, .int .i64 0, .slice none 0 0, .string (⟨#[]⟩ : ByteArray)]) (t := 29) ?_; intro bd hg w9 hbox hb; have ag := am hbox; have aD := gA hg HB; replace HB := hA HB hb; clear hb hbox hg) | ((with_reducible refine gate_callee (f := 29) rfl ?_); refine goesL_ (some 13) rfl rfl Tryz.func29 gk_ rfl #[.string J] rfl gm_ ?_; refine (impl_Unsealed.calls k J dc dd _ A2.out).mono ?_; rintro e f9 ⟨rfl, hb⟩; refine ⟨_, rfl, ?_⟩; replace ag := bA ag hb; replace HB := De1 HB aD hb) | ((with_reducible refine gate_dst (N := 20) rfl ?_); (try (refine gate_guard (by rfl) ?_; dsimp only)); refine bx (N := 20) (cs := #[.string dc, .int .i64 0, .bool (!dd)]) (t := 65) ?_; intro az hg ga hbox hb; have ca := am hbox; have cL := gA hg HB; replace HB := De1 HB aD hb; have bp := nA hg ag; have eb := mA hg ag; replace ag := bA ag hb; clear hb hbox hg) | ((with_reducible refine gate_dst (N := 7) rfl ?_); (try (refine gate_guard (by rfl) ?_; dsimp only)); refine bx (N := 7) (cs := #[.int .i64 0, .int .i64 0, .slice none 0 0, .string (⟨#[]⟩ : ByteArray)]) (t := 29) ?_; intro aU hg gg hbox hb; have ah := am hbox; have aJ := gA hg HB; replace HB := De2 HB aD cL hb; have aY := nA hg ag; have bZ := mA hg ag; replace ag := bA ag hb; have bY := nA hg ca; have a4 := mA hg ca; replace ca := bA ca hb; clear hb hbox hg; have fz := bZ.out; have fK := aY.out; have fA := a4.out; have fL := bY.out; obtain ⟨bL, bM, bN, bO, bP, bQ, bR, bS⟩ := cf4 ah) | ((with_reducible refine gate_callee (f := 30) rfl ?_); refine goesL_ (some 23) rfl rfl Tryz.func30 gk_ rfl #[.pointer (some ⟨az, 0, none⟩)] rfl gm_ ?_; (with_reducible refine (impl_scan_number.calls k az dc 0 (!dd) a2 dJ dK dL w _ ?z1 ?z2 A3.out).mono ?_); (case z1 => exact ⟨(Ap1 ca bY), cL.out⟩); (case z2 => repeat (first | (with_reducible first | exact HB.out | apply below_alloc | apply pw_below_drewN | apply below_drew1 | refine below_set ?_ aD.out | refine below_set ?_ cL.out | refine below_set ?_ aJ.out) | exact HB.out)); rintro e gi ⟨rfl, hi, hb, hk⟩; refine ⟨_, rfl, ?_⟩; replace ag := am (KeepBut.blk hk (g' := bd) (o := .cells #[.int .i64 0, .int .i64 0, .slice none 0 0, .string (⟨#[]⟩ : ByteArray)] 29 (0, 0)) (Ap1 ag aY) bp.out (by simp)); replace ah := am (KeepBut.blk hk (g' := aU) (o := .cells #[.int .i64 0, .int .i64 0, .slice none 0 0, .string (⟨#[]⟩ : ByteArray)] 29 (0, 0)) (Ap0 ah) a4.out (by simp)); replace HB := am hb; have au := am hi; obtain ⟨bL, bM, bN, bO, bP, bQ, bR, bS⟩ := cf4 ah) | ((with_reducible refine gate_callee (f := 30) rfl ?_); refine goesL_ (some 26) rfl rfl Tryz.func30 gk_ rfl #[.pointer (some ⟨az, 0, none⟩)] rfl gm_ ?_; refine (impl_scan_number.calls k az dJ dK dL a8 dM dN dO w _ B22x0_ (Ae3 HB (IsS65.gf au) aD aJ) A4.out).mono ?_; rintro e gj ⟨rfl, hi, hb, hk⟩; refine ⟨_, rfl, ?_⟩; replace ag := am (KeepBut.blk hk (g' := bd) (o := .cells #[.int .i64 0, .int .i64 0, .slice none 0 0, .string (⟨#[]⟩ : ByteArray)] 29 (0, 0)) (Ap1 ag aY) bp.out (by simp)); replace ah := am (KeepBut.blk hk (g' := aU) (o := .cells #[.int .i64 a2, .int .i64 0, .slice none 0 0, .string (⟨#[]⟩ : ByteArray)] 29 (0, 0)) (Ap0 ah) a4.out (by simp)); replace HB := am hb; replace au := am hi; obtain ⟨bL, bM, bN, bO, bP, bQ, bR, bS⟩ := cf4 ah) | ((with_reducible refine gate_callee (f := 31) rfl ?_); refine goesL_ (some 29) rfl rfl Tryz.func31 gk_ rfl #[.pointer (some ⟨az, 0, none⟩)] rfl gm_ ?_; refine (impl_scan_short.calls k az dM dN dO de dP dQ dR w _ B22x0_ (Ae3 HB (IsS65.gf au) aD aJ) A5.out).mono ?_; rintro e gl ⟨rfl, hi, hb, hk⟩; refine ⟨_, rfl, ?_⟩; replace ag := am (KeepBut.blk hk (g' := bd) (o := .cells #[.int .i64 0, .int .i64 0, .slice none 0 0, .string (⟨#[]⟩ : ByteArray)] 29 (0, 0)) (Ap1 ag aY) bp.out (by simp)); replace ah := am (KeepBut.blk hk (g' := aU) (o := .cells #[.int .i64 a2, .int .i64 a8, .slice none 0 0, .string (⟨#[]⟩ : ByteArray)] 29 (0, 0)) (Ap0 ah) a4.out (by simp)); replace HB := am hb; replace au := am hi) | ((with_reducible refine gate_callee (f := 31) rfl ?_); refine goesL_ (some 31) rfl rfl Tryz.func31 gk_ rfl #[.pointer (some ⟨az, 0, none⟩)] rfl gm_ ?_; refine (impl_scan_short.calls k az dP dQ dR bm be bh bi w _ B22x0_ (Ae3 HB (IsS65.gf au) aD aJ) A6.out).mono ?_; rintro e eM ⟨rfl, hi, hb, hk⟩; refine ⟨_, rfl, ?_⟩; replace ag := kA hk ag bp; replace ah := kA hk ah a4; replace HB := am hb; replace au := am hi; obtain ⟨bL, bM, bN, bO, bP, bQ, bR, bS⟩ := cf4 ah) | ((with_reducible refine gate_callee (f := 32) rfl ?_); refine goesL_ (some 35) rfl rfl Tryz.func32 gk_ rfl #[.string de] rfl gm_ ?_; refine (impl_ReadConf.calls k de aV eI _ A7.out).mono ?_; rintro e eN ⟨f8, rfl, eD, hb⟩; refine ⟨_, rfl, ?_⟩; have aT := am (Kd.R_lower eD (below_size (Ae3 HB (IsS65.gf au) aD aJ))); replace ag := am (blk_below (g := bd) (o := .cells #[.int .i64 0, .int .i64 0, .slice none 0 0, .string (⟨#[]⟩ : ByteArray)] 29 (0, 0)) (Ap1 ag aY) hb); replace ah := am (blk_below (g := aU) (o := .cells #[.int .i64 a2, .int .i64 a8, .slice none 0 0, .string bm] 29 (0, 0)) (Ap0 ah) hb); replace HB := De3 HB (IsS65.gf au) aD aJ hb; replace au := am (IsS65.below (show IsS65 w (eM.setCell ⟨aU, 3, none⟩ (.string bm)) az be bh bi from B22x0_) hb); obtain ⟨a3, a6, ex⟩ := Kd.R_slice aT.out; subst ex; obtain ⟨bL, bM, bN, bO, bP, bQ, bR, bS⟩ := cf4 ah))
 (try simp only [Act.put, List.setIfInBounds_toArray, List.set_cons_zero, List.set_cons_succ])
 go_cut [63] (fun eL wc => ∃ (kq : Nat) (dj : Bool), eL = .bool dj ∧ Aside0 (impl_ReadSnap.j0 kq dj a2 a8 aV bm = some (r1, r2, r3, r4, r5)) ∧ Aside0 (kq ≤ k) ∧ Aside0 (Kd.R (Kd.int .i64) 3 wc w.heap.size (fun _ => True) (.slice a3 aV.length a6) aV) ∧ Hc wc bd #[.int .i64 0, .int .i64 0, (.slice none 0 0), .string (⟨#[]⟩ : ByteArray)] 29 ∧ Hc wc aU #[.int .i64 a2, .int .i64 a8, (.slice a3 aV.length a6), .string bm] 29 ∧ Hb w wc)
 case first =>
  replace ac := ac.out; obtain ⟨⟨f5, ct, cu, cv⟩, b9, ap⟩ := bsi ac; (try dsimp only at ap)
  obtain ⟨rfl, ay⟩ | ⟨rfl, ay⟩ := sb ap
  ·obtain ⟨rfl, av⟩ | ⟨rfl, av⟩ := sb ay
   ·obtain ⟨dS, cK, ax⟩ := bsi av; (try dsimp only at ax)
    obtain ⟨rfl, aI⟩ | ⟨rfl, aI⟩ := sb ax
    ·obtain ⟨dT, dk, aX⟩ := bsi aI; (try dsimp only at aX)
     obtain ⟨rfl, aE⟩ | ⟨rfl, aE⟩ := sb aX
     ·replace aE := am aE; clear ac ap ay av ax aI aX
      go_wp2_with (first | ((with_reducible refine gate_callee (f := 33) rfl ?_); refine goesL_ (some 41) rfl rfl Tryz.func33 gk_ rfl #[.pointer (some ⟨az, 0, none⟩)] rfl gm_ ?_; refine (impl_scan_done.calls az be bh bi true ct cu cv w _ B22x0_ (Ae3 HB (IsS65.gf au) aD aJ) b9.out).mono ?_; rintro e gq ⟨rfl, hi, hb, hk⟩; refine ⟨_, rfl, ?_⟩; replace ag := am (KeepBut.blk hk (g' := bd) (o := .cells #[.int .i64 0, .int .i64 0, .slice none 0 0, .string (⟨#[]⟩ : ByteArray)] 29 (0, 0)) (Ap1 ag aY) bp.out (by simp)); replace aT := am (Kd.R_mono (Kd.R_keep (IsS65.apart (show IsS65 w _ az be bh bi from B22x0_) (tr (Kd.R_mono (Kd.R_far (p := ⟨aU, 2, none⟩) (Kd.R_types aT.out ah.out (by decide)) (fun _ hk => hk.2) (.slice a3 aV.length a6)) (fun _ h_ => h_.1))) (by decide)) hk (fun _ h => h.2)) (fun _ h => h.1)); replace ah := am (KeepBut.blk hk (g' := aU) (o := .cells #[.int .i64 a2, .int .i64 a8, .slice a3 aV.length a6, .string bm] 29 (0, 0)) (Ap0 ah) a4.out (by simp)); replace HB := am hb; replace au := am hi; have fB := bZ.out; have fM := aY.out; have fC := a4.out; have fN := bY.out; obtain ⟨bL, bM, bN, bO, bP, bQ, bR, bS⟩ := cf4 ah) | (go_at_call 24; refine (impl_isIndex.calls a2 true _ cK.out).mono ?_; rintro e w' ⟨rfl, ⟨nd, rfl⟩⟩) | (go_at_call 25; refine (impl_isTerm.calls a8 true _ dk.out).mono ?_; rintro e w' ⟨rfl, ⟨nd, rfl⟩⟩))
      go_meet
      case rel => exact ⟨_, (decide ((J.size : Int) > 20000)), be_, aE, D7x1_⟩
     ·replace aE := am aE; clear ac ap ay av ax aI aX
      go_wp2_with (first | ((with_reducible refine gate_callee (f := 33) rfl ?_); refine goesL_ (some 41) rfl rfl Tryz.func33 gk_ rfl #[.pointer (some ⟨az, 0, none⟩)] rfl gm_ ?_; refine (impl_scan_done.calls az be bh bi true ct cu cv w _ B22x0_ (Ae3 HB (IsS65.gf au) aD aJ) b9.out).mono ?_; rintro e gr ⟨rfl, hi, hb, hk⟩; refine ⟨_, rfl, ?_⟩; replace ag := am (KeepBut.blk hk (g' := bd) (o := .cells #[.int .i64 0, .int .i64 0, .slice none 0 0, .string (⟨#[]⟩ : ByteArray)] 29 (0, 0)) (Ap1 ag aY) bp.out (by simp)); replace aT := am (Kd.R_mono (Kd.R_keep (IsS65.apart (show IsS65 w _ az be bh bi from B22x0_) (tr (Kd.R_mono (Kd.R_far (p := ⟨aU, 2, none⟩) (Kd.R_types aT.out ah.out (by decide)) (fun _ hk => hk.2) (.slice a3 aV.length a6)) (fun _ h_ => h_.1))) (by decide)) hk (fun _ h => h.2)) (fun _ h => h.1)); replace ah := am (KeepBut.blk hk (g' := aU) (o := .cells #[.int .i64 a2, .int .i64 a8, .slice a3 aV.length a6, .string bm] 29 (0, 0)) (Ap0 ah) a4.out (by simp)); replace HB := am hb; replace au := am hi; have fD := bZ.out; have fO := aY.out; have fE := a4.out; have fP := bY.out; obtain ⟨bL, bM, bN, bO, bP, bQ, bR, bS⟩ := cf4 ah) | (go_at_call 24; refine (impl_isIndex.calls a2 true _ cK.out).mono ?_; rintro e w' ⟨rfl, ⟨nd, rfl⟩⟩) | (go_at_call 25; refine (impl_isTerm.calls a8 false _ dk.out).mono ?_; rintro e w' ⟨rfl, ⟨nd, rfl⟩⟩))
      go_meet
      case rel => exact ⟨_, true, be_, aE, D7x1_⟩
    ·replace aI := am aI; clear ac ap ay av ax
     go_wp2_with (first | ((with_reducible refine gate_callee (f := 33) rfl ?_); refine goesL_ (some 41) rfl rfl Tryz.func33 gk_ rfl #[.pointer (some ⟨az, 0, none⟩)] rfl gm_ ?_; refine (impl_scan_done.calls az be bh bi true ct cu cv w _ B22x0_ (Ae3 HB (IsS65.gf au) aD aJ) b9.out).mono ?_; rintro e gs ⟨rfl, hi, hb, hk⟩; refine ⟨_, rfl, ?_⟩; replace ag := am (KeepBut.blk hk (g' := bd) (o := .cells #[.int .i64 0, .int .i64 0, .slice none 0 0, .string (⟨#[]⟩ : ByteArray)] 29 (0, 0)) (Ap1 ag aY) bp.out (by simp)); replace aT := am (Kd.R_mono (Kd.R_keep (IsS65.apart (show IsS65 w _ az be bh bi from B22x0_) (tr (Kd.R_mono (Kd.R_far (p := ⟨aU, 2, none⟩) (Kd.R_types aT.out ah.out (by decide)) (fun _ hk => hk.2) (.slice a3 aV.length a6)) (fun _ h_ => h_.1))) (by decide)) hk (fun _ h => h.2)) (fun _ h => h.1)); replace ah := am (KeepBut.blk hk (g' := aU) (o := .cells #[.int .i64 a2, .int .i64 a8, .slice a3 aV.length a6, .string bm] 29 (0, 0)) (Ap0 ah) a4.out (by simp)); replace HB := am hb; replace au := am hi; have fF := bZ.out; have fQ := aY.out; have fG := a4.out; have fR := bY.out; obtain ⟨bL, bM, bN, bO, bP, bQ, bR, bS⟩ := cf4 ah) | (go_at_call 24; refine (impl_isIndex.calls a2 false _ cK.out).mono ?_; rintro e w' ⟨rfl, ⟨nd, rfl⟩⟩))
     go_meet
     case rel => exact ⟨_, true, be_, aI, D7x1_⟩
   ·replace av := am av; clear ac ap ay
    go_wp2_with (first | ((with_reducible refine gate_callee (f := 33) rfl ?_); refine goesL_ (some 41) rfl rfl Tryz.func33 gk_ rfl #[.pointer (some ⟨az, 0, none⟩)] rfl gm_ ?_; refine (impl_scan_done.calls az be bh bi true ct cu cv w _ B22x0_ (Ae3 HB (IsS65.gf au) aD aJ) b9.out).mono ?_; rintro e gu ⟨rfl, hi, hb, hk⟩; refine ⟨_, rfl, ?_⟩; replace ag := am (KeepBut.blk hk (g' := bd) (o := .cells #[.int .i64 0, .int .i64 0, .slice none 0 0, .string (⟨#[]⟩ : ByteArray)] 29 (0, 0)) (Ap1 ag aY) bp.out (by simp)); replace aT := am (Kd.R_mono (Kd.R_keep (IsS65.apart (show IsS65 w _ az be bh bi from B22x0_) (tr (Kd.R_mono (Kd.R_far (p := ⟨aU, 2, none⟩) (Kd.R_types aT.out ah.out (by decide)) (fun _ hk => hk.2) (.slice a3 aV.length a6)) (fun _ h_ => h_.1))) (by decide)) hk (fun _ h => h.2)) (fun _ h => h.1)); replace ah := am (KeepBut.blk hk (g' := aU) (o := .cells #[.int .i64 a2, .int .i64 a8, .slice a3 aV.length a6, .string bm] 29 (0, 0)) (Ap0 ah) a4.out (by simp)); replace HB := am hb; replace au := am hi))
    go_meet
    case rel => exact ⟨_, true, be_, av, D7x1_⟩
  ·replace ay := am ay; clear ac ap
   go_wp2_with (first | ((with_reducible refine gate_callee (f := 33) rfl ?_); refine goesL_ (some 41) rfl rfl Tryz.func33 gk_ rfl #[.pointer (some ⟨az, 0, none⟩)] rfl gm_ ?_; refine (impl_scan_done.calls az be bh bi false ct cu cv w _ B22x0_ (Ae3 HB (IsS65.gf au) aD aJ) b9.out).mono ?_; rintro e gv ⟨rfl, hi, hb, hk⟩; refine ⟨_, rfl, ?_⟩; replace ag := am (KeepBut.blk hk (g' := bd) (o := .cells #[.int .i64 0, .int .i64 0, .slice none 0 0, .string (⟨#[]⟩ : ByteArray)] 29 (0, 0)) (Ap1 ag aY) bp.out (by simp)); replace aT := am (Kd.R_mono (Kd.R_keep (IsS65.apart (show IsS65 w _ az be bh bi from B22x0_) (tr (Kd.R_mono (Kd.R_far (p := ⟨aU, 2, none⟩) (Kd.R_types aT.out ah.out (by decide)) (fun _ hk => hk.2) (.slice a3 aV.length a6)) (fun _ h_ => h_.1))) (by decide)) hk (fun _ h => h.2)) (fun _ h => h.1)); replace ah := am (KeepBut.blk hk (g' := aU) (o := .cells #[.int .i64 a2, .int .i64 a8, .slice a3 aV.length a6, .string bm] 29 (0, 0)) (Ap0 ah) a4.out (by simp)); replace HB := am hb; replace au := am hi))
   go_meet
   case rel => exact ⟨_, true, be_, ay, D7x1_⟩
 case rest =>
  clear ac; obtain ⟨kq, dj, rfl, aH, fl, d9, ag, ah, HB⟩ := hcut
  cases kq with
  | zero => exact absurd aH.out (by simp [impl_ReadSnap.j0])
  | succ fZ => ?_
  replace aH := aH.out; simp only [impl_ReadSnap.j0] at aH
  obtain ⟨rfl, cd⟩ | ⟨rfl, cd⟩ := sb aH
  ·obtain ⟨rfl, rfl, rfl, rfl, rfl⟩ := s5 cd; clear cd aH; obtain ⟨fH, fS⟩ := o2_ aY bZ; obtain ⟨eY, eZ, e0, e2, fa, fb, fc, fd⟩ := cf4 ag
   go_wp2
   refine bodyPost_ret (results_ct rfl _ _ bd 29 #[.int .i64 0, .int .i64 0, .slice none 0 0, .string (⟨#[]⟩ : ByteArray)] (0, 0) _ rfl (Ap0 ag) Tryz.underlying29 rfl gk_) rfl ?_; exact ⟨_, B21x5_, gn_, (Ae2 HB aD aJ)⟩
  ·obtain ⟨rfl, rfl, rfl, rfl, rfl⟩ := s5 cd; clear cd aH; obtain ⟨fI, fT⟩ := o2_ bZ aY; obtain ⟨bL, bM, bN, bO, bP, bQ, bR, bS⟩ := cf4 ah; obtain ⟨eY, eZ, e0, e2, fa, fb, fc, fd⟩ := cf4 ag
   go_wp2
   refine bodyPost_ret (results_ct rfl _ _ bd 29 #[.int .i64 a2, .int .i64 a8, .slice a3 aV.length a6, .string bm] (0, 0) _ rfl (Ap0 ag) Tryz.underlying29 rfl gk_) rfl ?_; exact ⟨_, B21x5_, (tfg d9.out ag.out (by decide)), (Ae2 HB aD aJ)⟩

def laws_sameInts.l0 : Nat → List Int → List Int → Int → Option (Bool)
 | 0, _, _, _ => none
 | k + 1, x0, x1, x5 => if x5 < (x0.length : Int) then (if 0 ≤ x5 then (if x5 < (x1.length : Int) then (if (rd x0 x5) = (rd x1 x5) then (laws_sameInts.l0 k x0 x1 (wrap64 (x5 + 1))) else (some false)) else (none)) else (none)) else (some true)
def laws_sameInts.f (k : Nat) (l0 : List Int) (l1 : List Int) : Option (Bool) := if (l0.length : Int) = (l1.length : Int) then (laws_sameInts.l0 k l0 l1 0) else (some false)
theorem laws_sameInts.calls (k : Nat) (A0 : Option Addr) (c0 : Nat) (l0 : List Int) (A1 : Option Addr) (c1 : Nat) (l1 : List Int) (r : Bool) (w : World) (dE : Kd.C (Kd.int .i64) w A0 l0.length l0) (dC : l0.length ≤ c0) (dF : Kd.C (Kd.int .i64) w A1 l1.length l1) (dD : l1.length ≤ c1) (h : laws_sameInts.f k l0 l1 = some r) :
  Calls Tryz.prog 8 #[.slice A0 l0.length c0, .slice A1 l1.length c1] w fun e w' => e = .returned (.bool r) ∧ Drawn0 w w' := by
 have cz := am dE
 have dm := am dC
 clear dE dC
 have dr := am dF
 have fk := am dD
 clear dF dD
 have Y := h
 clear h
 unfold laws_sameInts.f at Y
 obtain ⟨c3, U⟩ | ⟨c3, U⟩ := sp Y
 ·obtain ⟨dw, dx⟩ := yE c3
  have dy : (l0.length == l1.length) = true := by first | simpa using c3 | (simp at c3 ⊢; omega)
  clear c3; replace U := am U; clear Y; go_enter Tryz.func8, Tryz.ntmps8
  go_wp2
  repeat (go_quiet (fail); try go_wp2)
  go_loopg [5] k (fun kq v5 w' => ∃ (ar : Int), v5 = .int .i64 ar ∧ Aside0 (laws_sameInts.l0 kq l0 l1 ar = some r) ∧ Aside0 (kq ≤ k) ∧ Drawn0 w w')
  case atStart => exact ⟨(0), be_, U, ⟨Nat.le_refl _⟩, gd_⟩
  case round =>
   clear U
   try clear c1
   try clear c3
   try clear dw
   try clear dx
   try clear dy
   obtain ⟨ar, rfl, Z, ba, ⟨m1, rfl⟩⟩ := hrel
   cases gk with
   | zero => exact absurd Z.out (by simp [laws_sameInts.l0])
   | succ k1 => ?_
   replace Z := Z.out; simp only [laws_sameInts.l0] at Z
   obtain ⟨ci, aa⟩ | ⟨ci, aa⟩ := sd Z
   ·obtain ⟨cj, af⟩ := yd aa; obtain ⟨bu, ak⟩ := yd af
    obtain ⟨c7, ac⟩ | ⟨c7, ac⟩ := sp ak
    ·obtain ⟨dz, dB⟩ := yE c7; clear c7; replace ac := am ac; clear Z aa af ak
     have bT : 0 ≤ (ar : Int) := dga
     have bV : ar < (l0.length : Int) := dga
     obtain ⟨ee, cP, eE⟩ := Kd.at_int cz.out ar bT bV; cases cP; replace bT := eq_true bT; replace bV := eq_true bV
     have bU : 0 ≤ (ar : Int) := dga
     have bW : ar < (l1.length : Int) := dga
     obtain ⟨ef, cQ, eF⟩ := Kd.at_int dr.out ar bU bW; cases cQ; replace bU := eq_true bU; replace bW := eq_true bW
     go_wp2
     repeat (go_quiet (fail); try go_wp2)
     go_roundg k1
     case measure => have := ba.out; omega
     case rel => exact ⟨(wrap64 (ar + 1)), be_, ac, ⟨(by have := ba.out; omega)⟩, gd_⟩
    ·obtain ⟨dz, dB⟩ := nE c7; obtain rfl := Option.some.inj ac; clear ac Z aa af ak
     have bT : 0 ≤ (ar : Int) := dga
     have bV : ar < (l0.length : Int) := dga
     obtain ⟨ee, cP, eE⟩ := Kd.at_int cz.out ar bT bV; cases cP; replace bT := eq_true bT; replace bV := eq_true bV
     have bU : 0 ≤ (ar : Int) := dga
     have bW : ar < (l1.length : Int) := dga
     obtain ⟨ef, cQ, eF⟩ := Kd.at_int dr.out ar bU bW; cases cQ; replace bU := eq_true bU; replace bW := eq_true bW
     go_wp2
     repeat (go_quiet (fail); try go_wp2)
     go_ret; exact ⟨gr_, gd_⟩
   ·obtain rfl := Option.some.inj aa; clear aa Z
    go_wp2
    repeat (go_quiet (fail); try go_wp2)
    go_ret; exact ⟨gr_, gd_⟩
 ·obtain ⟨dw, dx⟩ := nE c3
  have dy : (l0.length == l1.length) = false := by first | simpa using c3 | (simp at c3 ⊢; omega)
  obtain rfl := Option.some.inj U; clear U Y; go_enter Tryz.func8, Tryz.ntmps8
  go_wp2
  repeat (go_quiet (fail); try go_wp2)
  go_ret; exact ⟨gr_, gd_⟩

def impl_Decimal.f (J : Int) : Option ByteArray := if 0 ≤ J ∧ J < 100 then some (⟨(Lib.decDigits J.toNat).toArray⟩ : ByteArray) else none
theorem impl_Decimal.calls (J : Int) (r : ByteArray) (w : World) (h : impl_Decimal.f J = some r) :
  Calls Tryz.prog 39 #[.int .i64 J] w fun e w' => e = .returned (.string r) ∧ ∃ nd, w' = w.drewN nd := by
 unfold impl_Decimal.f at h
 by_cases hc : 0 ≤ J ∧ J < 100
 rotate_left
 ·rw [if_neg hc] at h; cases h
 rw [if_pos hc] at h
 obtain ⟨i, rfl⟩ : ∃ i : Nat, J = (i : Int) := ⟨J.toNat, (by omega)⟩
 obtain rfl := Option.some.inj h
 go_enter Tryz.func39, Tryz.ntmps39
 go_wp2_with (go_at_call 67; refine (Laid.itoa_small i (by omega) _).mono ?_; rintro e w' ⟨rfl, rfl⟩)
 go_ret
 exact ⟨rfl, 0, rfl⟩

def impl_SnapName.f (J : Int) : Option (ByteArray) := (impl_isIndex.f J).bind fun dU => (if dU = true then ((impl_Decimal.f J).bind fun cw => (if 1 + cw.size ≤ 9223372036854775807 then (some ((⟨#[115]⟩ : ByteArray) ++ cw)) else (none))) else (some (⟨#[]⟩ : ByteArray)))
theorem impl_SnapName.calls (J : Int) (r : ByteArray) (w : World) (h : impl_SnapName.f J = some r) :
  Calls Tryz.prog 13 #[.int .i64 J] w fun e w' => e = .returned (.string r) ∧ Drawn0 w w' := by
 have Y := h
 clear h
 unfold impl_SnapName.f at Y
 obtain ⟨dU, A2, U⟩ := bsi Y
 (try dsimp only at U)
 obtain ⟨rfl, Z⟩ | ⟨rfl, Z⟩ := sb U
 ·obtain ⟨cw, A4, aa⟩ := bsi Z; (try dsimp only at aa); obtain ⟨c5, af⟩ := yn aa; have cj := eq_true c5; have fp := decide_eq_true c5
  try have en : (9223372036854775807 < 1 + cw.size) = False := eq_false (Nat.not_lt.2 c5)
  try (have eo := en; simp only [ByteArray.size_append] at eo)
  obtain rfl := Option.some.inj af; clear af Y U Z aa; go_enter Tryz.func13, Tryz.ntmps13
  go_wp2_with (first | ((with_reducible refine gate_callee (f := 24) rfl ?_); refine goesL_ (some 4) rfl rfl Tryz.func24 gk_ rfl #[.int .i64 J] rfl gm_ ?_; refine (impl_isIndex.calls J true _ A2.out).mono ?_; rintro e w' ⟨rfl, ⟨nd, rfl⟩⟩; refine ⟨_, rfl, ?_⟩) | ((with_reducible refine gate_callee (f := 39) rfl ?_); refine goesL_ (some 7) rfl rfl Tryz.func39 gk_ rfl #[.int .i64 J] rfl gm_ ?_; refine (impl_Decimal.calls J cw _ A4.out).mono ?_; rintro e w' ⟨rfl, ⟨nd, rfl⟩⟩; refine ⟨_, rfl, ?_⟩))
  go_ret; exact ⟨gr_, gd_⟩
 obtain rfl := Option.some.inj Z
 clear Z Y U
 go_enter Tryz.func13, Tryz.ntmps13
 go_wp2_with (first | ((with_reducible refine gate_callee (f := 24) rfl ?_); refine goesL_ (some 4) rfl rfl Tryz.func24 gk_ rfl #[.int .i64 J] rfl gm_ ?_; refine (impl_isIndex.calls J false _ A2.out).mono ?_; rintro e w' ⟨rfl, ⟨nd, rfl⟩⟩; refine ⟨_, rfl, ?_⟩))
 go_ret
 exact ⟨gr_, gd_⟩
mutual
def impl_DiskOk.l0 : Nat → List (S57) → Int → Int → List (S57) → Option (Bool)
 | 0, _, _, _, _ => none
 | k + 1, x6, x7, x8, bo => if x8 < x7 then (if 0 ≤ x8 then (if x8 < (x6.length : Int) then ((impl_within.f (((rd_T57 x6 x8).f0).size : Int) 1 8).bind fun dV => (if dV = true then (if (((rd_T57 x6 x8).f1).size : Int) > 20000 then (impl_DiskOk.j1 k x6 x7 x8 true bo) else ((impl_within.f ((rd_T57 x6 x8).f2) 0 (((rd_T57 x6 x8).f1).size : Int)).bind fun dW => (if dW = true then (if x8 > 0 then (if 0 ≤ (wrap64 (x8 - 1)) then (if (wrap64 (x8 - 1)) < (bo.length : Int) then (impl_DiskOk.j1 k x6 x7 x8 (!(Op.bytesLess (((rd_T57 bo (wrap64 (x8 - 1))).f0).toList) (((rd_T57 x6 x8).f0).toList))) bo) else (none)) else (none)) else (impl_DiskOk.j1 k x6 x7 x8 false bo)) else (impl_DiskOk.j1 k x6 x7 x8 true bo)))) else (impl_DiskOk.j1 k x6 x7 x8 true bo))) else (none)) else (none)) else (some (decide ((bo.length : Int) ≤ 30)))
def impl_DiskOk.j1 : Nat → List (S57) → Int → Int → Bool → List (S57) → Option (Bool)
 | 0, _, _, _, _, _ => none
 | k + 1, x6, x7, x8, eP, bo => if eP = true then (some false) else (impl_DiskOk.l0 k x6 x7 (wrap64 (x8 + 1)) bo)
end
def impl_DiskOk.f (k : Nat) (B : List (S57)) : Option (Bool) := impl_DiskOk.l0 k B (B.length : Int) 0 B
def impl_DiskOk.T4 : Bool × List (List Nat × List Nat) := (true, [([], []), ([0], [0]), ([1], [1]), ([2], [2]), ([3], [3]), ([4, 3], [4]), ([5], [5]), ([6, 5], [5, 6]), ([7, 5], [5, 7]), ([8, 5], [5, 8]), ([5, 9], [5, 9]), ([10, 5], [10]), ([11], [11]), ([12, 11], [11, 12]), ([11], [11]), ([14, 11], [11, 14]), ([15, 11], [11, 15]), ([13, 16, 11, 11], [11, 13, 16]), ([17, 11], [11, 17]), ([11, 18], [11, 18]), ([19, 17], [19]), ([20], [20]), ([21, 20], [20, 21]), ([22, 20, 20], [20, 22]), ([23], [23]), ([24, 23], [23, 24]), ([23], [23]), ([26, 23], [23, 26]), ([25, 27, 23], [23, 25, 27]), ([28, 23], [23, 28]), ([29, 23], [23, 29]), ([23], [23]), ([31, 23], [23, 31]), ([30, 32, 23], [23, 30, 32]), ([23, 33, 20], [20, 23, 33]), ([20, 34], [20, 34])])
def impl_DiskOk.B4 : List Nat := [0, 1, 3, 7, 15, 31, 63, 127, 255, 511, 1023, 2047, 4095, 8191, 4095, 20479, 53247, 131071, 262143, 524287, 1048575, 2097151, 4194303, 8388607, 16777215, 33554431, 16777215, 83886079, 268435455, 536870911, 1073741823, 16777215, 2164260863, 8589934591, 17179869183, 34359738367]
theorem impl_DiskOk.tab4 : rtab .any (opsOf Tryz.f34 4) = impl_DiskOk.T4 := by kernel_rfl
theorem impl_DiskOk.bits4 : waitsOk impl_DiskOk.T4.2 impl_DiskOk.B4 = true := by kernel_rfl
theorem impl_DiskOk.calls (k : Nat) (aR : Option Addr) (aA : Nat) (B : List (S57)) (r : Bool) (w : World) (bI : Kd.C k57 w aR B.length B) (bH : B.length ≤ aA) (h : impl_DiskOk.f k B = some r) :
  Calls Tryz.prog 34 #[.agg #[.slice aR B.length aA]] w fun e w' => e = .returned (.bool r) ∧ Below w.heap.size w w' := by
 have dG := Tryz.underlying26
 have fW := Tryz.underlying57
 have cA := am bI
 have dn := am bH
 clear bI bH
 have HB := am (Below.refl w.heap.size w)
 have Y := h
 clear h
 unfold impl_DiskOk.f at Y
 replace Y := am Y
 go_enter Tryz.func34, Tryz.ntmps34
 go_wp2_with (first | ((with_reducible refine gate_dst (N := 1) rfl ?_); (try (refine gate_guard (by rfl) ?_; dsimp only)); refine bx (N := 1) (cs := #[.slice aR B.length aA]) (t := 26) ?_; intro bn hg w2 hbox hb; have ae := am hbox; have aW := gA hg HB; replace HB := hA HB hb; clear hb hbox hg; have eX : w2.cell? ⟨bn, 0, none⟩ = some (.slice aR B.length aA) := bc ae 0; have e9 := blk_frozen ae.out 0))
 go_loopg [8] k (fun kq v8 w' => ∃ (D : Int), v8 = .int .i64 D ∧ Aside0 (impl_DiskOk.l0 kq B (B.length : Int) D B = some r) ∧ Aside0 (kq ≤ k) ∧ Aside0 (w'.heap[bn]? = some (.cells #[(.slice aR B.length aA)] 26 (0, 0))) ∧ Aside0 (Below w.heap.size w w'))
 case atStart => exact ⟨(0), be_, Y, ⟨Nat.le_refl _⟩, Cb ae, Ce1 HB aW⟩
 case round =>
  clear Y; obtain ⟨D, rfl, U, ba, ae, HB⟩ := hrel
  cases gk with
  | zero => exact absurd U.out (by simp [impl_DiskOk.l0])
  | succ k1 => ?_
  replace U := U.out; simp only [impl_DiskOk.l0] at U
  obtain ⟨ci, Z⟩ | ⟨ci, Z⟩ := sd U
  ·obtain ⟨cj, aa⟩ := yd Z; obtain ⟨bu, af⟩ := yd aa; replace af := am af; clear U Z aa
   have cW : 0 ≤ (D : Int) := dga
   have cY : D < (B.length : Int) := dga
   obtain ⟨a5, et, cT, cU, cV⟩ := at_T57 cA.out D cW cY; cases et; replace cT := (hbc HB cT).trans cT; replace cU := (hbc HB cU).trans cU; replace cV := (hbc HB cV).trans cV; replace cW := eq_true cW; replace cY := eq_true cY
   go_upto_region 4 with (first | ((with_reducible refine gate_dst (N := 4) rfl ?_); (try (refine gate_guard (by rfl) ?_; dsimp only)); refine bx (N := 4) (cs := #[.string (⟨#[]⟩ : ByteArray), .string (⟨#[]⟩ : ByteArray), .int .i64 0]) (t := 57) ?_; intro al hg w8 hbox hb; have M := am hbox; have a9 := gA hg HB; replace HB := De1 HB aW hb; have b0 := nA hg ae; have ec := mA hg ae; replace ae := bA ae hb; clear hb hbox hg; have fJ := ec.out; have fU := b0.out; obtain ⟨gC, gD, gE, gJ, gN, gO⟩ := cf3 M))
   (try simp only [Act.put, List.setIfInBounds_toArray, List.set_cons_zero, List.set_cons_succ])
   go_cut [48] (fun eK wc => ∃ (kq : Nat) (di : Bool), eK = .bool di ∧ Aside0 (impl_DiskOk.j1 kq B (B.length : Int) D di B = some r) ∧ Aside0 (kq ≤ k1) ∧ Hc wc bn #[(.slice (some a5) B.length aA)] 26 ∧ Hc wc al #[.string ((rd_T57 B D).f0), .string ((rd_T57 B D).f1), .int .i64 ((rd_T57 B D).f2)] 57 ∧ Hb w wc)
   case first =>
    replace af := af.out; obtain ⟨dV, bX, ak⟩ := bsi af; (try dsimp only at ak)
    obtain ⟨rfl, ac⟩ | ⟨rfl, ac⟩ := sb ak
    ·obtain ⟨ce, ap⟩ | ⟨ce, ap⟩ := sp ac
     ·have b2 : decide (20000 < (((rd_T57 B D).f1).size : Int)) = true := decide_eq_true ce
      have dv : decide (20000 < ((rd_T57 B D).f1).size) = true := decide_eq_true (by omega)
      clear ce
      (first | rw [b2] | (simp only [i64_w, i32_w]; rw [b2]) | skip)
      replace ap := am ap; clear af ak ac
      try go_wp2
      generalize hw : (((w8.setCell ⟨al, 0, none⟩ (.string ((rd_T57 B D).f0))).setCell ⟨al, 1, none⟩ (.string ((rd_T57 B D).f1))).setCell ⟨al, 2, none⟩ (.int .i64 ((rd_T57 B D).f2))) = cF; replace hw := hw.symm
      replace ae : Hc cF bn #[.slice (some a5) B.length aA] 26 := ⟨wAp1 ae b0⟩
      replace M : Hc cF al #[.string ((rd_T57 B D).f0), .string ((rd_T57 B D).f1), .int .i64 ((rd_T57 B D).f2)] 57 := ⟨wAp0 M⟩
      replace HB : Hb w cF := ⟨wAe2 HB aW a9⟩
      clear hw; replace ae := dA ae; replace M := dA M; replace HB := bdr HB; refine st_ 36 (fun w' => w'.cell? ⟨al, 0, none⟩ = some (.string ((rd_T57 B D).f0)) ∧ w'.cell? ⟨al, 1, none⟩ = some (.string ((rd_T57 B D).f1)) ∧ w'.cell? ⟨al, 2, none⟩ = some (.int .i64 ((rd_T57 B D).f2))) [] impl_DiskOk.tab4 impl_DiskOk.bits4 D7x3_ (fun ao z aC => ?_); generalize cF.drew = gh at ae M HB ao ⊢; refine pu_ 0 13 z ?_; refine ta_ 1 14 z aC ao ?_; refine pu_ 2 15 z ?_; refine on_ 3 (some 16) z (fun K hK => ?_); refine goes_ Tryz.func56 gk_ rfl #[.int .i64 (((rd_T57 B D).f0).size : Int), .int .i64 1, .int .i64 8] (by rfl) rfl rfl gm_ ?_; refine (impl_within.calls (((rd_T57 B D).f0).size : Int) 1 8 true _ bX.out).mono ?_; rintro e w' ⟨rfl, ⟨nd, rfl⟩⟩; refine ⟨_, rfl, ?_⟩; refine hK.out _ _ D7x3_ (fun ao => nm_ ?_); clear hK K; refine pu_ 4 17 z ?_; refine pu_ 5 18 z ?_; refine pu_ 6 19 z ?_; refine ta_ 7 20 z aC ao ?_; refine pu_ 8 21 z ?_; refine pu_ 9 22 z ?_; refine pu_ 10 23 z ?_; refine pu_ 11 24 z ?_; refine of_ 12 25 z ?_; refine of_ 13 26 z ?_; refine of_ 14 27 z ?_; refine of_ 15 28 z ?_; refine of_ 16 29 z ?_; refine of_ 17 30 z ?_; refine of_ 18 31 z ?_; refine pu_ 19 32 z ?_; refine pu_ 20 33 z ?_; refine of_ 21 34 z ?_; refine of_ 22 35 z ?_; refine of_ 23 36 z ?_; refine of_ 24 37 z ?_; refine of_ 25 38 z ?_; refine of_ 26 39 z ?_; refine of_ 27 40 z ?_; refine of_ 28 41 z ?_; refine of_ 29 42 z ?_; refine of_ 30 43 z ?_; refine of_ 31 44 z ?_; refine of_ 32 45 z ?_; refine of_ 33 46 z ?_; refine of_ 34 47 z ?_; refine pu_ 35 48 z ?_; refine done_ (done_of z.out gk_) ?_
      try go_wp2
      go_meet
      case rel => exact ⟨_, true, be_, ap, D7x4_⟩
     have b2 : decide (20000 < (((rd_T57 B D).f1).size : Int)) = false := decide_eq_false ce
     have dv : decide (20000 < ((rd_T57 B D).f1).size) = false := decide_eq_false (by omega)
     clear ce
     (first | rw [b2] | (simp only [i64_w, i32_w]; rw [b2]) | skip)
     obtain ⟨dW, cx, ay⟩ := bsi ap; (try dsimp only at ay)
     obtain ⟨rfl, av⟩ | ⟨rfl, av⟩ := sb ay
     ·obtain ⟨bl, ax⟩ | ⟨bl, ax⟩ := sp av
      ·have cO : decide (0 < D) = true := decide_eq_true bl
       clear bl; obtain ⟨a7, b4⟩ : ∃ j_ : Int, (wrap64 (D - 1)) = j_ := ⟨_, rfl⟩
       (first | rw [b4] at ax | simp only [b4] at ax)
       (try rw [b4] at bX); (try rw [b4] at cx)
       have fx : (IntKind.i64.wrap (D - 1)) = a7 := (i64_w _).trans b4
       obtain ⟨fn, aI⟩ := yd ax; obtain ⟨fo, aX⟩ := yd aI; replace aX := am aX; clear af ak ac ap ay av ax aI
       try go_wp2
       generalize hw : (((w8.setCell ⟨al, 0, none⟩ (.string ((rd_T57 B D).f0))).setCell ⟨al, 1, none⟩ (.string ((rd_T57 B D).f1))).setCell ⟨al, 2, none⟩ (.int .i64 ((rd_T57 B D).f2))) = cG; replace hw := hw.symm
       replace ae : Hc cG bn #[.slice (some a5) B.length aA] 26 := ⟨wAp1 ae b0⟩
       replace M : Hc cG al #[.string ((rd_T57 B D).f0), .string ((rd_T57 B D).f1), .int .i64 ((rd_T57 B D).f2)] 57 := ⟨wAp0 M⟩
       replace HB : Hb w cG := ⟨wAe2 HB aW a9⟩
       clear hw; replace ae := dA ae; replace M := dA M; replace HB := bdr HB
       have cX : 0 ≤ ((a7) : Int) := dga
       have cZ : (a7) < (B.length : Int) := dga
       obtain ⟨eg, eu, cn, co, cp⟩ := at_T57 cA.out (a7) cX cZ; have b7 := cp; have b6 := co; have b5 := cn; obtain rfl : a5 = eg := (by injection eu); replace cn := (hbc HB cn).trans cn; replace co := (hbc HB co).trans co; replace cp := (hbc HB cp).trans cp; replace cX := eq_true cX; replace cZ := eq_true cZ; refine st_ 36 (fun w' => w'.cell? ⟨al, 0, none⟩ = some (.string ((rd_T57 B D).f0)) ∧ w'.cell? ⟨al, 1, none⟩ = some (.string ((rd_T57 B D).f1)) ∧ w'.cell? ⟨al, 2, none⟩ = some (.int .i64 ((rd_T57 B D).f2)) ∧ w'.cell? ⟨bn, 0, none⟩ = some (.slice (some a5) B.length aA) ∧ w'.cell? (a5.add (((a7)).toNat * 3)) = some (.string ((rd_T57 B (a7)).f0)) ∧ w'.cell? ⟨(a5.add (((a7)).toNat * 3)).block, (a5.add (((a7)).toNat * 3)).off + 1, none⟩ = some (.string ((rd_T57 B (a7)).f1)) ∧ w'.cell? ⟨(a5.add (((a7)).toNat * 3)).block, (a5.add (((a7)).toNat * 3)).off + 2, none⟩ = some (.int .i64 ((rd_T57 B (a7)).f2))) [] impl_DiskOk.tab4 impl_DiskOk.bits4 D7x2_ (fun ao z aC => ?_); generalize cG.drew = eN at ae M HB cn co cp ao ⊢; refine pu_ 0 13 z ?_; refine ta_ 1 14 z aC ao ?_; refine pu_ 2 15 z ?_; refine on_ 3 (some 16) z (fun K hK => ?_); refine goes_ Tryz.func56 gk_ rfl #[.int .i64 (((rd_T57 B D).f0).size : Int), .int .i64 1, .int .i64 8] (by rfl) rfl rfl gm_ ?_; refine (impl_within.calls (((rd_T57 B D).f0).size : Int) 1 8 true _ bX.out).mono ?_; rintro e w' ⟨rfl, ⟨nd, rfl⟩⟩; refine ⟨_, rfl, ?_⟩; refine hK.out _ _ D7x2_ (fun ao => nm_ ?_); clear hK K; refine pu_ 4 17 z ?_; refine pu_ 5 18 z ?_; refine pu_ 6 19 z ?_; refine ta_ 7 20 z aC ao ?_; refine pu_ 8 21 z ?_; refine pu_ 9 22 z ?_; refine pu_ 10 23 z ?_; refine pu_ 11 24 z ?_; refine pu_ 12 25 z ?_; refine pu_ 14 27 z ?_; refine ta_ 13 26 z aC ao ?_; refine ta_ 15 28 z aC ao ?_; refine pu_ 16 29 z ?_; refine on_ 17 (some 30) z (fun K hK => ?_); refine goes_ Tryz.func56 gk_ rfl #[.int .i64 ((rd_T57 B D).f2), .int .i64 0, .int .i64 (((rd_T57 B D).f1).size : Int)] (by rfl) rfl rfl gm_ ?_; refine (impl_within.calls ((rd_T57 B D).f2) 0 (((rd_T57 B D).f1).size : Int) true _ cx.out).mono ?_; rintro e w' ⟨rfl, ⟨nd, rfl⟩⟩; refine ⟨_, rfl, ?_⟩; refine hK.out _ _ D7x2_ (fun ao => nm_ ?_); clear hK K; refine pu_ 18 31 z ?_; refine pu_ 19 32 z ?_; refine pu_ 20 33 z ?_; refine pu_ 21 34 z ?_; refine pu_ 22 35 z ?_; refine pu_ 23 36 z ?_; refine pu_ 24 37 z ?_; refine pu_ 26 39 z ?_; refine pu_ 27 40 z ?_; refine pu_ 31 44 z ?_; refine ta_ 25 38 z aC ao ?_; refine pu_ 28 41 z ?_; refine pu_ 29 42 z ?_; refine ta_ 30 43 z aC ao ?_; refine ta_ 32 45 z aC ao ?_; refine pu_ 33 46 z ?_; refine pu_ 34 47 z ?_; refine pu_ 35 48 z ?_; refine done_ (done_of z.out gk_) ?_
       try go_wp2
       go_meet
       case rel => exact ⟨_, (!(Op.bytesLess (((rd_T57 B (a7)).f0).toList) (((rd_T57 B D).f0).toList))), (by first | rfl | (simp; done) | (simp only [← b4] <;> (first | rfl | simp)) | (simp [*]; done)), aX, D7x4_⟩
      have cO : decide (0 < D) = false := decide_eq_false bl
      clear bl; replace ax := am ax; clear af ak ac ap ay av
      try go_wp2
      generalize hw : (((w8.setCell ⟨al, 0, none⟩ (.string ((rd_T57 B D).f0))).setCell ⟨al, 1, none⟩ (.string ((rd_T57 B D).f1))).setCell ⟨al, 2, none⟩ (.int .i64 ((rd_T57 B D).f2))) = cH; replace hw := hw.symm
      replace ae : Hc cH bn #[.slice (some a5) B.length aA] 26 := ⟨wAp1 ae b0⟩
      replace M : Hc cH al #[.string ((rd_T57 B D).f0), .string ((rd_T57 B D).f1), .int .i64 ((rd_T57 B D).f2)] 57 := ⟨wAp0 M⟩
      replace HB : Hb w cH := ⟨wAe2 HB aW a9⟩
      clear hw; replace ae := dA ae; replace M := dA M; replace HB := bdr HB; refine st_ 36 (fun w' => w'.cell? ⟨al, 0, none⟩ = some (.string ((rd_T57 B D).f0)) ∧ w'.cell? ⟨al, 1, none⟩ = some (.string ((rd_T57 B D).f1)) ∧ w'.cell? ⟨al, 2, none⟩ = some (.int .i64 ((rd_T57 B D).f2))) [] impl_DiskOk.tab4 impl_DiskOk.bits4 D7x3_ (fun ao z aC => ?_); generalize cH.drew = gm at ae M HB ao ⊢; refine pu_ 0 13 z ?_; refine ta_ 1 14 z aC ao ?_; refine pu_ 2 15 z ?_; refine on_ 3 (some 16) z (fun K hK => ?_); refine goes_ Tryz.func56 gk_ rfl #[.int .i64 (((rd_T57 B D).f0).size : Int), .int .i64 1, .int .i64 8] (by rfl) rfl rfl gm_ ?_; refine (impl_within.calls (((rd_T57 B D).f0).size : Int) 1 8 true _ bX.out).mono ?_; rintro e w' ⟨rfl, ⟨nd, rfl⟩⟩; refine ⟨_, rfl, ?_⟩; refine hK.out _ _ D7x3_ (fun ao => nm_ ?_); clear hK K; refine pu_ 4 17 z ?_; refine pu_ 5 18 z ?_; refine pu_ 6 19 z ?_; refine ta_ 7 20 z aC ao ?_; refine pu_ 8 21 z ?_; refine pu_ 9 22 z ?_; refine pu_ 10 23 z ?_; refine pu_ 11 24 z ?_; refine pu_ 12 25 z ?_; refine pu_ 14 27 z ?_; refine ta_ 13 26 z aC ao ?_; refine ta_ 15 28 z aC ao ?_; refine pu_ 16 29 z ?_; refine on_ 17 (some 30) z (fun K hK => ?_); refine goes_ Tryz.func56 gk_ rfl #[.int .i64 ((rd_T57 B D).f2), .int .i64 0, .int .i64 (((rd_T57 B D).f1).size : Int)] (by rfl) rfl rfl gm_ ?_; refine (impl_within.calls ((rd_T57 B D).f2) 0 (((rd_T57 B D).f1).size : Int) true _ cx.out).mono ?_; rintro e w' ⟨rfl, ⟨nd, rfl⟩⟩; refine ⟨_, rfl, ?_⟩; refine hK.out _ _ D7x3_ (fun ao => nm_ ?_); clear hK K; refine pu_ 18 31 z ?_; refine pu_ 19 32 z ?_; refine pu_ 20 33 z ?_; refine pu_ 21 34 z ?_; refine pu_ 22 35 z ?_; refine pu_ 23 36 z ?_; refine of_ 24 37 z ?_; refine of_ 25 38 z ?_; refine of_ 26 39 z ?_; refine of_ 27 40 z ?_; refine of_ 28 41 z ?_; refine of_ 29 42 z ?_; refine of_ 30 43 z ?_; refine of_ 31 44 z ?_; refine of_ 32 45 z ?_; refine of_ 33 46 z ?_; refine pu_ 34 47 z ?_; refine pu_ 35 48 z ?_; refine done_ (done_of z.out gk_) ?_
      try go_wp2
      go_meet
      case rel => exact ⟨_, false, be_, ax, D7x4_⟩
     replace av := am av; clear af ak ac ap ay
     try go_wp2
     generalize hw : (((w8.setCell ⟨al, 0, none⟩ (.string ((rd_T57 B D).f0))).setCell ⟨al, 1, none⟩ (.string ((rd_T57 B D).f1))).setCell ⟨al, 2, none⟩ (.int .i64 ((rd_T57 B D).f2))) = cI; replace hw := hw.symm
     replace ae : Hc cI bn #[.slice (some a5) B.length aA] 26 := ⟨wAp1 ae b0⟩
     replace M : Hc cI al #[.string ((rd_T57 B D).f0), .string ((rd_T57 B D).f1), .int .i64 ((rd_T57 B D).f2)] 57 := ⟨wAp0 M⟩
     replace HB : Hb w cI := ⟨wAe2 HB aW a9⟩
     clear hw; replace ae := dA ae; replace M := dA M; replace HB := bdr HB; refine st_ 36 (fun w' => w'.cell? ⟨al, 0, none⟩ = some (.string ((rd_T57 B D).f0)) ∧ w'.cell? ⟨al, 1, none⟩ = some (.string ((rd_T57 B D).f1)) ∧ w'.cell? ⟨al, 2, none⟩ = some (.int .i64 ((rd_T57 B D).f2))) [] impl_DiskOk.tab4 impl_DiskOk.bits4 D7x3_ (fun ao z aC => ?_); generalize cI.drew = gn at ae M HB ao ⊢; refine pu_ 0 13 z ?_; refine ta_ 1 14 z aC ao ?_; refine pu_ 2 15 z ?_; refine on_ 3 (some 16) z (fun K hK => ?_); refine goes_ Tryz.func56 gk_ rfl #[.int .i64 (((rd_T57 B D).f0).size : Int), .int .i64 1, .int .i64 8] (by rfl) rfl rfl gm_ ?_; refine (impl_within.calls (((rd_T57 B D).f0).size : Int) 1 8 true _ bX.out).mono ?_; rintro e w' ⟨rfl, ⟨nd, rfl⟩⟩; refine ⟨_, rfl, ?_⟩; refine hK.out _ _ D7x3_ (fun ao => nm_ ?_); clear hK K; refine pu_ 4 17 z ?_; refine pu_ 5 18 z ?_; refine pu_ 6 19 z ?_; refine ta_ 7 20 z aC ao ?_; refine pu_ 8 21 z ?_; refine pu_ 9 22 z ?_; refine pu_ 10 23 z ?_; refine pu_ 11 24 z ?_; refine pu_ 12 25 z ?_; refine pu_ 14 27 z ?_; refine ta_ 13 26 z aC ao ?_; refine ta_ 15 28 z aC ao ?_; refine pu_ 16 29 z ?_; refine on_ 17 (some 30) z (fun K hK => ?_); refine goes_ Tryz.func56 gk_ rfl #[.int .i64 ((rd_T57 B D).f2), .int .i64 0, .int .i64 (((rd_T57 B D).f1).size : Int)] (by rfl) rfl rfl gm_ ?_; refine (impl_within.calls ((rd_T57 B D).f2) 0 (((rd_T57 B D).f1).size : Int) false _ cx.out).mono ?_; rintro e w' ⟨rfl, ⟨nd, rfl⟩⟩; refine ⟨_, rfl, ?_⟩; refine hK.out _ _ D7x3_ (fun ao => nm_ ?_); clear hK K; refine pu_ 18 31 z ?_; refine pu_ 19 32 z ?_; refine pu_ 20 33 z ?_; refine of_ 21 34 z ?_; refine of_ 22 35 z ?_; refine of_ 23 36 z ?_; refine of_ 24 37 z ?_; refine of_ 25 38 z ?_; refine of_ 26 39 z ?_; refine of_ 27 40 z ?_; refine of_ 28 41 z ?_; refine of_ 29 42 z ?_; refine of_ 30 43 z ?_; refine of_ 31 44 z ?_; refine of_ 32 45 z ?_; refine of_ 33 46 z ?_; refine of_ 34 47 z ?_; refine pu_ 35 48 z ?_; refine done_ (done_of z.out gk_) ?_
     try go_wp2
     go_meet
     case rel => exact ⟨_, true, be_, av, D7x4_⟩
    replace ac := am ac; clear af ak
    try go_wp2
    generalize hw : (((w8.setCell ⟨al, 0, none⟩ (.string ((rd_T57 B D).f0))).setCell ⟨al, 1, none⟩ (.string ((rd_T57 B D).f1))).setCell ⟨al, 2, none⟩ (.int .i64 ((rd_T57 B D).f2))) = cJ; replace hw := hw.symm
    replace ae : Hc cJ bn #[.slice (some a5) B.length aA] 26 := ⟨wAp1 ae b0⟩
    replace M : Hc cJ al #[.string ((rd_T57 B D).f0), .string ((rd_T57 B D).f1), .int .i64 ((rd_T57 B D).f2)] 57 := ⟨wAp0 M⟩
    replace HB : Hb w cJ := ⟨wAe2 HB aW a9⟩
    clear hw; replace ae := dA ae; replace M := dA M; replace HB := bdr HB; refine st_ 36 (fun w' => w'.cell? ⟨al, 0, none⟩ = some (.string ((rd_T57 B D).f0)) ∧ w'.cell? ⟨al, 1, none⟩ = some (.string ((rd_T57 B D).f1)) ∧ w'.cell? ⟨al, 2, none⟩ = some (.int .i64 ((rd_T57 B D).f2))) [] impl_DiskOk.tab4 impl_DiskOk.bits4 D7x3_ (fun ao z aC => ?_); generalize cJ.drew = gp at ae M HB ao ⊢; refine pu_ 0 13 z ?_; refine ta_ 1 14 z aC ao ?_; refine pu_ 2 15 z ?_; refine on_ 3 (some 16) z (fun K hK => ?_); refine goes_ Tryz.func56 gk_ rfl #[.int .i64 (((rd_T57 B D).f0).size : Int), .int .i64 1, .int .i64 8] (by rfl) rfl rfl gm_ ?_; refine (impl_within.calls (((rd_T57 B D).f0).size : Int) 1 8 false _ bX.out).mono ?_; rintro e w' ⟨rfl, ⟨nd, rfl⟩⟩; refine ⟨_, rfl, ?_⟩; refine hK.out _ _ D7x3_ (fun ao => nm_ ?_); clear hK K; refine pu_ 4 17 z ?_; refine pu_ 5 18 z ?_; refine of_ 6 19 z ?_; refine of_ 7 20 z ?_; refine of_ 8 21 z ?_; refine of_ 9 22 z ?_; refine pu_ 10 23 z ?_; refine pu_ 11 24 z ?_; refine of_ 12 25 z ?_; refine of_ 13 26 z ?_; refine of_ 14 27 z ?_; refine of_ 15 28 z ?_; refine of_ 16 29 z ?_; refine of_ 17 30 z ?_; refine of_ 18 31 z ?_; refine pu_ 19 32 z ?_; refine pu_ 20 33 z ?_; refine of_ 21 34 z ?_; refine of_ 22 35 z ?_; refine of_ 23 36 z ?_; refine of_ 24 37 z ?_; refine of_ 25 38 z ?_; refine of_ 26 39 z ?_; refine of_ 27 40 z ?_; refine of_ 28 41 z ?_; refine of_ 29 42 z ?_; refine of_ 30 43 z ?_; refine of_ 31 44 z ?_; refine of_ 32 45 z ?_; refine of_ 33 46 z ?_; refine of_ 34 47 z ?_; refine pu_ 35 48 z ?_; refine done_ (done_of z.out gk_) ?_
    try go_wp2
    go_meet
    case rel => exact ⟨_, true, be_, ac, D7x4_⟩
   clear af
   try clear c5
   obtain ⟨kq, di, rfl, aE, dq, ae, M, HB⟩ := hcut
   cases kq with
   | zero => exact absurd aE.out (by simp [impl_DiskOk.j1])
   | succ eH => ?_
   replace aE := aE.out; simp only [impl_DiskOk.j1] at aE
   obtain ⟨rfl, aH⟩ | ⟨rfl, aH⟩ := sb aE
   ·obtain rfl := Option.some.inj aH; clear aH aE
    go_wp2
    go_ret; exact ⟨B21x5_, (Ae2 HB aW a9)⟩
   replace aH := am aH; clear aE
   go_wp2
   go_roundg eH
   case measure => have := ba.out; have := dq.out; omega
   case rel => exact ⟨(wrap64 (D + 1)), be_, aH, ⟨(by have := ba.out; have := dq.out; omega)⟩, Cb ae, Ce2 HB aW a9⟩
  obtain rfl := Option.some.inj Z; clear Z U
  have gw : wr.cell? ⟨bn, 0, none⟩ = some (.slice aR B.length aA) := bc ae 0
  have gF := blk_frozen ae.out 0
  go_wp2
  go_ret; exact ⟨B21x5_, (Ae1 HB aW)⟩
-- NOT PRINTED: function 80 (impl_File)

def impl_placeOf.l0 : Nat → List S57 → ByteArray → Int → Option (Int)
 | 0, _, _, _ => none
 | k + 1, l, nm, j => if j < (l.length : Int) then (if 0 ≤ j then (if ((rd_T57 l j).f0.toList == nm.toList) = true then (some j) else (impl_placeOf.l0 k l nm (wrap64 (j + 1)))) else (none)) else (some (-1))
def impl_placeOf.f (k : Nat) (B : List (S57)) (a1 : ByteArray) : Option (Int) := impl_placeOf.l0 k B a1 0
theorem impl_placeOf.asked (g : Nat) (nm x0 x1 : ByteArray) (x2 : Int) (w : World) (hb : w.heap[g]? = some (.cells #[.string nm] 9 (0, 0))) :
  Calls Tryz.prog 81 (#[.agg #[.string x0, .string x1, .int .i64 x2]] ++ #[.pointer (some ⟨g, 0, none⟩)]) w fun e w' => e = .returned (.bool (x0.toList == nm.toList)) ∧ Below w.heap.size w w' := by
 have hu57 := Tryz.underlying57
 have BK := am hb
 clear hb
 go_enter Tryz.func81, Tryz.ntmps81
 go_wp2_with (first | ((with_reducible refine gate_dst (N := 2) rfl ?_); refine bx (N := 2) (cs := #[.string x0, .string x1, .int .i64 x2]) (t := 57) ?_; intro gb hg w2 hbox hb; replace BK := am (blk_below BK.out hb); have BX := am hbox; have HB := am hb; clear hb hbox hg; have hc0 := bc BX 0; have hd0 := bc BK 0))
 go_ret
 exact ⟨rfl, HB.out⟩
theorem impl_placeOf.index (k : Nat) (A0 : Option Addr) (c0 : Nat) (l0 : List S57) (g : Nat) (nm : ByteArray) (r : Int) (w : World) (hr0 : Kd.C k57 w A0 l0.length l0) (hc0 : l0.length ≤ c0) (hb : w.heap[g]? = some (.cells #[.string nm] 9 (0, 0))) (h : impl_placeOf.f k l0 nm = some r) :
  Calls Tryz.prog 80 #[.slice A0 l0.length c0, .func (.func 81) #[] #[.pointer (some ⟨g, 0, none⟩)]] w fun e w' => e = .returned (.int .i64 r) ∧ Below w.heap.size w w' := by
 have hu57 := Tryz.underlying57
 have HR0 := am hr0
 have HC0 := am hc0
 have BK := am hb
 clear hr0 hc0 hb
 have H' := am (show impl_placeOf.l0 k l0 nm 0 = some r from h)
 clear h
 go_enter Tryz.func80, Tryz.ntmps80
 go_wp2
 go_loopg [8] k (fun kq v8 w' => ∃ (j : Int), v8 = .int .i64 j ∧ Aside0 (impl_placeOf.l0 kq l0 nm j = some r) ∧ Aside0 (kq ≤ k) ∧ Aside0 (Below w.heap.size w w'))
 case atStart => exact ⟨0, be_, H', ⟨Nat.le_refl _⟩, ⟨Below.refl _ _⟩⟩
 case round =>
  clear H'; obtain ⟨j, rfl, HA, HK1, HB⟩ := hrel
  cases gk with
  | zero => exact absurd HA.out (by simp [impl_placeOf.l0])
  | succ k1 =>
   have H := HA.out; clear HA; simp only [impl_placeOf.l0] at H
   by_cases c1 : j < (l0.length : Int)
   ·rw [if_pos c1] at H
    by_cases c2 : 0 ≤ j
    ·rw [if_pos c2] at H; obtain ⟨ad, e1, hx0, hx1, hx2⟩ := at_T57 (Kd.C_below HR0.out HB.out) j c2 c1; subst e1; have c1b := eq_true c1; have c2b := eq_true c2; clear c1 c2
     by_cases c3 : ((rd_T57 l0 j).f0.toList == nm.toList) = true
     ·rw [if_pos c3] at H; obtain rfl := Option.some.inj H; have hq := am c3; clear c3
      go_wp2_with (go_at_call 81; refine (impl_placeOf.asked g nm _ _ _ _ (blk_below BK.out HB.out)).mono ?_; rintro e w2 ⟨rfl, hb⟩; rw [hq.out]; replace HB := am (below_step HB.out hb); clear hb)
      go_ret; exact ⟨rfl, HB.out⟩
     ·rw [if_neg c3] at H; have hq := am (Bool.eq_false_iff.mpr c3); clear c3
      have H' := am H
      clear H
      go_wp2_with (go_at_call 81; refine (impl_placeOf.asked g nm _ _ _ _ (blk_below BK.out HB.out)).mono ?_; rintro e w2 ⟨rfl, hb⟩; rw [hq.out]; replace HB := am (below_step HB.out hb); clear hb)
      go_roundg k1
      case measure => have := HK1.out; omega
      case rel => exact ⟨wrap64 (j + 1), be_, H', ⟨(by have := HK1.out; omega)⟩, ⟨HB.out⟩⟩
    ·rw [if_neg c2] at H; exact absurd H (by simp)
   ·rw [if_neg c1] at H; obtain rfl := Option.some.inj H; have c1b := eq_false c1; clear c1
    go_wp2
    go_ret; exact ⟨rfl, HB.out⟩
theorem box_behind (w : World) (o o2 : Obj) : ((w.alloc o).alloc o2).heap[w.heap.size + 1]? = some o2 := by
 have h := blk_new (w.alloc o) o2
 have e : (w.alloc o).heap.size = w.heap.size + 1 := by first | exact Array.size_push _ | (unfold World.alloc; exact Array.size_push _) | (unfold World.alloc; simp only [Array.size_push])
 rw [e] at h
 exact h
theorem impl_placeOf.calls (k : Nat) (aR : Option Addr) (aA : Nat) (B : List (S57)) (a1 : ByteArray) (r : Int) (w : World) (bI : Kd.C k57 w aR B.length B) (bH : B.length ≤ aA) (h : impl_placeOf.f k B a1 = some r) :
  Calls Tryz.prog 61 #[.agg #[.slice aR B.length aA], .string a1] w fun e w' => e = .returned (.int .i64 r) ∧ Below w.heap.size w w' := by
 have dG := Tryz.underlying26
 have cz := am bI
 have dm := am bH
 have HFF := am h
 have HB := am (Below.refl w.heap.size w)
 clear bI bH h
 go_enter Tryz.func61, Tryz.ntmps61
 go_wp2_with (go_at_call 80; refine (impl_placeOf.index k aR aA B (w.heap.size + 1) a1 r _ ?s1 ?s2 ?s3 HFF.out).mono ?_; (case s1 => exact Kd.C_alloc (Kd.C_alloc cz.out _) _); (case s2 => exact dm.out); (case s3 => exact box_behind w _ _); rintro e w2 ⟨rfl, hb⟩; replace HB := am (below_step (below_alloc (below_alloc HB.out _) _) hb); clear hb)
 go_ret
 exact ⟨rfl, HB.out⟩

def impl_hasFile.f (k : Nat) (B : List (S57)) (a1 : ByteArray) : Option (Bool) := (impl_placeOf.f k B a1).bind fun df => (some (decide (df ≥ 0)))
theorem impl_hasFile.calls (k : Nat) (aR : Option Addr) (aA : Nat) (B : List (S57)) (a1 : ByteArray) (r : Bool) (w : World) (bI : Kd.C k57 w aR B.length B) (bH : B.length ≤ aA) (h : impl_hasFile.f k B a1 = some r) :
  Calls Tryz.prog 35 #[.agg #[.slice aR B.length aA], .string a1] w fun e w' => e = .returned (.bool r) ∧ Below w.heap.size w w' := by
 have dG := Tryz.underlying26
 have cA := am bI
 have dn := am bH
 clear bI bH
 have HB := am (Below.refl w.heap.size w)
 have Y := h
 clear h
 unfold impl_hasFile.f at Y
 obtain ⟨df, A3, U⟩ := bsi Y
 (try dsimp only at U)
 obtain rfl := Option.some.inj U
 clear U Y
 go_enter Tryz.func35, Tryz.ntmps35
 go_wp2_with (first | ((with_reducible refine gate_dst (N := 2) rfl ?_); refine bx (N := 2) (cs := #[.slice aR B.length aA]) (t := 26) ?_; intro ey hg w4 hbox hb; have cy := am hbox; have dl := gA hg HB; replace HB := hA HB hb; clear hb hbox hg; have gB : w4.cell? ⟨ey, 0, none⟩ = some (.slice aR B.length aA) := bc cy 0; have gI := blk_frozen cy.out 0) | ((with_reducible refine gate_callee (f := 61) rfl ?_); refine goesL_ (some 7) rfl rfl Tryz.func61 gk_ rfl #[.agg #[.slice aR B.length aA], .string a1] rfl gm_ ?_; (with_reducible refine (impl_placeOf.calls k _ _ B a1 df _ ?z1 ?z2 A3.out).mono ?_); (case z1 => repeat (first | exact (Kd.C_below cA.out HB.out) | (with_reducible refine Kd.C_alloc ?_ _) | (with_reducible refine Kd.C_drewN ?_ _) | (with_reducible refine Kd.C_drew ?_))); (case z2 => exact dn.out); rintro e w6 ⟨rfl, hb⟩; refine ⟨_, rfl, ?_⟩; replace cy := bA cy hb; replace HB := De1 HB dl hb))
 go_ret
 exact ⟨(by first | rfl | (simp [errW_none, errW_some] <;> rfl) | (simp [*, errW_none, errW_some] <;> rfl)), (Ae1 HB dl)⟩
end
end Go.Proofs.YtfikaimmclgajaaGreatDoor.QFnSnaps
