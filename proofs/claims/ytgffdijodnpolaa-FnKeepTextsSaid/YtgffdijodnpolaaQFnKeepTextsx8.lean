/- Functions that a law reaches, as functions of Lean, and the walks that show that the calls come to their answers. No condition. -/
import Derived.Test.YtgffdijodnpolaaQFnKeepTextsx0
import Derived.Test.YtgffdijodnpolaaQFnKeepTextsx3
import Derived.Test.YtgffdijodnpolaaQFnKeepTextsx6
import Derived.Test.YtgffdijodnpolaaQFnKeepTextsx7
import Derived.Test.YtgffdijodnpolaaVFnKeepTextshort3
import Derived.Test.YtgffdijodnpolaaVFnKeepTextsShort2
import Derived.Test.YtgffdijodnpolaaVFnKeepTextsShort
import Derived.Test.YtgffdijodnpolaaVFnKeepTextshort8
namespace Go.Proofs.Ytgffdijodnpolaa.QFnKeepTexts
open Go.RowKit Go.Proofs.YtgffdijodnpolaaW.PrintWords Go.Proofs.YtgffdijodnpolaaW.PrintLast Go.Proofs.YtgffdijodnpolaaW.PrintMore Go.Proofs.Ytgffdijodnpolaa.Short
set_option linter.unusedVariables false
set_option linter.unusedSimpArgs false
set_option maxHeartbeats 8000000
set_option maxRecDepth 100000
variable {p : Prop}
theorem D8x0_ (h : p := by exact ⟨B25x4_, B25x0_, (Ae1 HB (IsS92.gf aj)), (Ak0 HK)⟩) : p := h
section
attribute [local go_sem] max2_int min2_int max_two min_two max_three min_three max_four min_four
theorem B25x0_ (h : p := by repeat (first | (with_reducible first | exact aj.out | apply IsS92.alloc | apply IsS92.drewN | apply IsS92.drew | apply IsS92.set_0 | apply IsS92.set_1 | apply IsS92.set_2) | exact aj.out)) : p := h
theorem B25x4_ (h : p := by first | rfl | (simp [errW_none, errW_some] <;> rfl) | (simp [*, errW_none, errW_some] <;> rfl)) : p := h
theorem B25x7_ (h : p := by first | rfl | (simp; done) | (simp only [← dh, ← df, ← ci] <;> (first | rfl | simp)) | (simp [*]; done)) : p := h
theorem B25x10_ (h : p := by have := aR.out; first | omega | exact Nat.le_refl _) : p := h
mutual
def impl_ReadVar.l0 : Nat → ByteArray → Int → Int → Int → Option (Int × Int × Bool)
 | 0, _, _, _, _ => none
 | k + 1, x0, x1, x7, x8 => if x8 < 5 then (impl_ReadVar.j1 k x0 x1 x7 x8 (decide ((wrap64 (x1 + x8)) < (x0.size : Int)))) else (impl_ReadVar.j1 k x0 x1 x7 x8 false)
def impl_ReadVar.j1 : Nat → ByteArray → Int → Int → Int → Bool → Option (Int × Int × Bool)
 | 0, _, _, _, _, _ => none
 | k + 1, x0, x1, x7, x8, g7 => if g7 = true then (if 0 ≤ (wrap64 (x1 + x8)) then (if (wrap64 (x1 + x8)) < (x0.size : Int) then (if 0 ≤ (wrap64 (7 * x8)) then (if (wrap64 (bt x0 (wrap64 (x1 + x8)))) > 127 then (impl_ReadVar.l0 k x0 x1 (wrap64 (x7 + (shl .i64 (Int.tmod (wrap64 (bt x0 (wrap64 (x1 + x8)))) 128) (wrap64 (7 * x8))))) (wrap64 (x8 + 1))) else (if x8 > 0 then (if (wrap64 (bt x0 (wrap64 (x1 + x8)))) = 0 then (some (0, 0, false)) else (if (wrap64 (x7 + (shl .i64 (Int.tmod (wrap64 (bt x0 (wrap64 (x1 + x8)))) 128) (wrap64 (7 * x8))))) > 1000000000 then (some (0, 0, false)) else (some (wrap64 (x7 + (shl .i64 (Int.tmod (wrap64 (bt x0 (wrap64 (x1 + x8)))) 128) (wrap64 (7 * x8)))), wrap64 ((wrap64 (x1 + x8)) + 1), true)))) else (if (wrap64 (x7 + (shl .i64 (Int.tmod (wrap64 (bt x0 (wrap64 (x1 + x8)))) 128) (wrap64 (7 * x8))))) > 1000000000 then (some (0, 0, false)) else (some (wrap64 (x7 + (shl .i64 (Int.tmod (wrap64 (bt x0 (wrap64 (x1 + x8)))) 128) (wrap64 (7 * x8)))), wrap64 ((wrap64 (x1 + x8)) + 1), true))))) else (none)) else (none)) else (none)) else (some (0, 0, false))
end
def impl_ReadVar.f (k : Nat) (j : ByteArray) (a1 : Int) : Option (Int × Int × Bool) := (impl_within.f a1 0 (j.size : Int)).bind fun eJ => (if eJ = true then (impl_ReadVar.l0 k j a1 0 0) else (some (0, 0, false)))
theorem impl_ReadVar.calls (k : Nat) (j : ByteArray) (a1 : Int) (r1 : Int) (r2 : Int) (r3 : Bool) (w : World) (h : impl_ReadVar.f k j a1 = some (r1, r2, r3)) :
  Calls Try.prog 94 #[.string j, .int .i64 a1] w fun e w' => e = .returned (.tuple #[.int .i64 r1, .int .i64 r2, .bool r3]) ∧ Drawn0 w w' := by
 have J := h
 clear h
 unfold impl_ReadVar.f at J
 obtain ⟨eJ, A3, D⟩ := bsi J
 (try dsimp only at D)
 obtain ⟨rfl, z⟩ | ⟨rfl, z⟩ := sb D
 ·replace z := am z; clear J D; go_enter Try.func94, Try.ntmps94
  go_wp2_with (first | ((with_reducible refine gate_callee (f := 45) rfl ?_); refine gM (some 13) Try.func45 (impl_within.calls a1 0 (j.size : Int) true _ A3.out) ?_; rintro w' ⟨nd, rfl⟩))
  go_loopg [7, 8] k (fun kq v7 v8 w' => ∃ (bK : Int) (bh : Int), v7 = .int .i64 bK ∧ v8 = .int .i64 bh ∧ Aside0 (impl_ReadVar.l0 kq j a1 bK bh = some (r1, r2, r3)) ∧ Aside0 (kq ≤ k) ∧ Drawn0 w w')
  case atStart => exact ⟨(0), 0, be_, be_, z, ⟨Nat.le_refl _⟩, gd_⟩
  case round =>
   clear z
   try clear c4
   obtain ⟨bK, bh, rfl, rfl, Y, aR, ⟨m1, rfl⟩⟩ := hrel
   cases gk with
   | zero => exact absurd Y.out (by simp [impl_ReadVar.l0])
   | succ k1 => ?_
   replace Y := Y.out; simp only [impl_ReadVar.l0] at Y; replace Y := am Y
   go_upto_region 5 with (fail)
   go_cut [24] (fun g0 wc => ∃ (kq : Nat) (ea : Bool), g0 = .bool ea ∧ Aside0 (impl_ReadVar.j1 kq j a1 bK bh ea = some (r1, r2, r3)) ∧ Aside0 (kq ≤ k1) ∧ Drawn0 w wc)
   case first =>
    replace Y := Y.out
    obtain ⟨bY, ae⟩ | ⟨bY, ae⟩ := sd Y
    ·(first | rw [bY] | (simp only [i64_w, i32_w]; rw [bY]) | skip)
     replace ae := am ae; clear Y
     go_wp2
     go_meet
     case rel => exact ⟨_, (decide ((wrap64 (a1 + bh)) < (j.size : Int))), be_, ae, ⟨B25x10_⟩, gd_⟩
    ·(first | rw [bY] | (simp only [i64_w, i32_w]; rw [bY]) | skip)
     replace ae := am ae; clear Y
     go_wp2
     go_meet
     case rel => exact ⟨_, false, be_, ae, ⟨B25x10_⟩, gd_⟩
   case rest =>
    clear Y
    try clear c4
    obtain ⟨kq, ea, rfl, ap, eq, ⟨iI, rfl⟩⟩ := hcut
    cases kq with
    | zero => exact absurd ap.out (by simp [impl_ReadVar.j1])
    | succ gY => ?_
    replace ap := ap.out; simp only [impl_ReadVar.j1] at ap
    obtain ⟨rfl, ax⟩ | ⟨rfl, ax⟩ := sb ap
    ·obtain ⟨ao, dh⟩ : ∃ j_ : Int, (wrap64 (a1 + bh)) = j_ := ⟨_, rfl⟩
     (first | rw [dh] at ax | simp only [dh] at ax)
     have hX : (IntKind.i64.wrap (a1 + bh)) = ao := (i64_w _).trans dh
     obtain ⟨gw, ay⟩ := yd ax; obtain ⟨ch, aH⟩ := yd ay; obtain ⟨bN, df⟩ : ∃ j_ : Int, (wrap64 (7 * bh)) = j_ := ⟨_, rfl⟩
     (first | rw [df] at aH | simp only [df] at aH)
     have hU : (IntKind.i64.wrap (7 * bh)) = bN := (i64_w _).trans df
     obtain ⟨fY, fZ, aw⟩ := ye aH; obtain ⟨bB, ci⟩ : ∃ j_ : Int, (shl .i64 (Int.tmod (wrap64 (bt j (ao))) 128) (bN)) = j_ := ⟨_, rfl⟩
     (first | rw [ci] at aw | simp only [ci] at aw)
     have gP : (IntKind.i64.wrap ((Int.tmod (wrap64 (bt j (ao))) 128) * 2 ^ min (bN).toNat 64)) = bB := ci
     have gQ : (bN) ≤ 64 → (IntKind.i64.wrap ((Int.tmod (wrap64 (bt j (ao))) 128) * 2 ^ (bN).toNat)) = bB := shl_small ci
     have hW : (wrap64 ((Int.tmod (wrap64 (bt j (ao))) 128) * 2 ^ min (bN).toNat 64)) = bB := (i64_w _).symm.trans gP
     have hV : (bN) ≤ 64 → (wrap64 ((Int.tmod (wrap64 (bt j (ao))) 128) * 2 ^ (bN).toNat)) = bB := fun h_ => (i64_w _).symm.trans (gQ h_)
     obtain ⟨bm, aA⟩ | ⟨bm, aA⟩ := sp aw
     ·have ez : decide (127 < (wrap64 (bt j (ao)))) = true := decide_eq_true bm
      clear bm; replace aA := am aA; clear ap ax ay aH aw
      have aN : 0 ≤ ((ao) : Int) := dga
      have aQ : (ao) < (j.size : Int) := dga
      have cG := bt_at j (ao); replace aN := eq_true aN; replace aQ := eq_true aQ
      go_wp2
      go_roundg gY
      case measure => have := aR.out; have := eq.out; omega
      case rel => exact ⟨(wrap64 (bK + (bB))), (wrap64 (bh + 1)), (by first | rfl | (simp; done) | (simp only [← ci] <;> (first | rfl | simp)) | (simp [*]; done)), be_, aA, ⟨(by have := aR.out; have := eq.out; omega)⟩, gd_⟩
     ·have ez : decide (127 < (wrap64 (bt j (ao)))) = false := decide_eq_false bm
      clear bm
      obtain ⟨cz, aT⟩ | ⟨cz, aT⟩ := sp aA
      ·have f7 : decide (0 < bh) = true := decide_eq_true cz
       clear cz
       obtain ⟨bz, aX⟩ | ⟨bz, aX⟩ := sp aT
       ·obtain ⟨eB, eC⟩ := yE bz; clear bz; obtain ⟨rfl, rfl, rfl⟩ := s3 aX; clear aX ap ax ay aH aw aA aT
        have aN : 0 ≤ ((ao) : Int) := dga
        have aQ : (ao) < (j.size : Int) := dga
        have cG := bt_at j (ao); replace aN := eq_true aN; replace aQ := eq_true aQ
        go_wp2
        go_ret3
        exact ⟨B25x7_, gd_⟩
       ·obtain ⟨eB, eC⟩ := nE bz
        obtain ⟨cA, a4⟩ | ⟨cA, a4⟩ := sp aX
        ·have ga : decide (1000000000 < (wrap64 (bK + (bB)))) = true := decide_eq_true cA
         clear cA; obtain ⟨rfl, rfl, rfl⟩ := s3 a4; clear a4 ap ax ay aH aw aA aT aX
         have aN : 0 ≤ ((ao) : Int) := dga
         have aQ : (ao) < (j.size : Int) := dga
         have cG := bt_at j (ao); replace aN := eq_true aN; replace aQ := eq_true aQ
         go_wp2
         go_ret3
         exact ⟨B25x7_, gd_⟩
        ·have ga : decide (1000000000 < (wrap64 (bK + (bB)))) = false := decide_eq_false cA
         clear cA; obtain ⟨rfl, rfl, rfl⟩ := s3 a4; clear a4 ap ax ay aH aw aA aT aX
         have aN : 0 ≤ ((ao) : Int) := dga
         have aQ : (ao) < (j.size : Int) := dga
         have cG := bt_at j (ao); replace aN := eq_true aN; replace aQ := eq_true aQ
         go_wp2
         go_ret3
         exact ⟨B25x7_, gd_⟩
      ·have f7 : decide (0 < bh) = false := decide_eq_false cz
       clear cz
       obtain ⟨cB, aG⟩ | ⟨cB, aG⟩ := sp aT
       ·have gb : decide (1000000000 < (wrap64 (bK + (bB)))) = true := decide_eq_true cB
        clear cB; obtain ⟨rfl, rfl, rfl⟩ := s3 aG; clear aG ap ax ay aH aw aA aT
        have aN : 0 ≤ ((ao) : Int) := dga
        have aQ : (ao) < (j.size : Int) := dga
        have cG := bt_at j (ao); replace aN := eq_true aN; replace aQ := eq_true aQ
        go_wp2
        go_ret3
        exact ⟨B25x7_, gd_⟩
       ·have gb : decide (1000000000 < (wrap64 (bK + (bB)))) = false := decide_eq_false cB
        clear cB; obtain ⟨rfl, rfl, rfl⟩ := s3 aG; clear aG ap ax ay aH aw aA aT
        have aN : 0 ≤ ((ao) : Int) := dga
        have aQ : (ao) < (j.size : Int) := dga
        have cG := bt_at j (ao); replace aN := eq_true aN; replace aQ := eq_true aQ
        go_wp2
        go_ret3
        exact ⟨B25x7_, gd_⟩
    ·obtain ⟨rfl, rfl, rfl⟩ := s3 ax; clear ax ap
     go_wp2
     go_ret3
     exact ⟨gr_, gd_⟩
 ·obtain ⟨rfl, rfl, rfl⟩ := s3 z; clear z J D; go_enter Try.func94, Try.ntmps94
  go_wp2_with (first | ((with_reducible refine gate_callee (f := 45) rfl ?_); refine gM (some 13) Try.func45 (impl_within.calls a1 0 (j.size : Int) false _ A3.out) ?_; rintro w' ⟨nd, rfl⟩))
  go_ret3
  exact ⟨gr_, gd_⟩

/-- A state of type 92 at block g of W; what its slices lead to came in by w0. -/
def IsS92 (w0 W : World) (g : Nat) (f0 : ByteArray) (f1 : Int) (f2 : Bool) : Prop := W.heap[g]? = some (.cells #[.string f0, .int .i64 f1, .bool f2] 92 (0, 0)) ∧ w0.heap.size ≤ g
theorem IsS92.grown {w0 W : World} {g : Nat} {f0 : ByteArray} {f1 : Int} {f2 : Bool} {W1 : World} {row : Option Nat} (h : IsS92 w0 W g f0 f1 f2) (hw : W.grownBy W1 row) (hne : some g ≠ row) : IsS92 w0 W1 g f0 f1 f2 := by
 obtain ⟨hb, hg⟩ := h
 exact ⟨blk_grown hb hw hne, hg⟩
theorem IsS92.own_neN {w0 W : World} {g : Nat} {f0 : ByteArray} {f1 : Int} {f2 : Bool} {α : Type} {d : Kd α} {e : Nat} {base : Nat} {ok : Nat → Prop} {v : Value} {xs : List α} (h : IsS92 w0 W g f0 f1 f2) (ho : Kd.N d e W base ok v xs) (ht : e ≠ 92) : some g ≠ v.ownBlock := by
 obtain ⟨hb, hg⟩ := h
 exact Kd.N_ne ho hb ht
theorem IsS92.fresh {w0 W : World} {g : Nat} {f0 : ByteArray} {f1 : Int} {f2 : Bool} (h : IsS92 w0 W g f0 f1 f2) : ∀ k, W.heap.size ≤ k → k ≠ g := by
 obtain ⟨hb, hg⟩ := h
 exact Kd.freshB hb
theorem IsS92.kept {w0 W : World} {g : Nat} {f0 : ByteArray} {f1 : Int} {f2 : Bool} {W1 : World} {S : Nat → Prop} (h : IsS92 w0 W g f0 f1 f2) (hk : Kept W W1 S) (hne : ¬ S g) : IsS92 w0 W1 g f0 f1 f2 := by
 obtain ⟨hb, hg⟩ := h
 exact ⟨blk_kept hb hk hne, hg⟩
theorem IsS92.below {w0 W : World} {g : Nat} {f0 : ByteArray} {f1 : Int} {f2 : Bool} {W1 : World} (h : IsS92 w0 W g f0 f1 f2) (hw : Below W.heap.size W W1) : IsS92 w0 W1 g f0 f1 f2 := h.grown (grown_of_below hw none) (by simp)
theorem IsS92.alloc {w0 W : World} {g : Nat} {f0 : ByteArray} {f1 : Int} {f2 : Bool} (h : IsS92 w0 W g f0 f1 f2) (o : Obj) : IsS92 w0 (W.alloc o) g f0 f1 f2 := h.below (below_alloc (Below.refl _ _) o)
theorem IsS92.drewN {w0 W : World} {g : Nat} {f0 : ByteArray} {f1 : Int} {f2 : Bool} (h : IsS92 w0 W g f0 f1 f2) (m : Nat) : IsS92 w0 (W.drewN m) g f0 f1 f2 := h
theorem IsS92.drew {w0 W : World} {g : Nat} {f0 : ByteArray} {f1 : Int} {f2 : Bool} (h : IsS92 w0 W g f0 f1 f2) : IsS92 w0 W.drew g f0 f1 f2 := h
theorem IsS92.at_ {w0 W : World} {g : Nat} {f0 : ByteArray} {f1 : Int} {f2 : Bool} {w' : World} {m : Nat} (hq : W.drewN m = w') (h : IsS92 w0 W g f0 f1 f2) : IsS92 w0 w' g f0 f1 f2 := by subst hq; exact IsS92.drewN h m
theorem IsS92.apart {w0 W : World} {g : Nat} {f0 : ByteArray} {f1 : Int} {f2 : Bool} {α : Type} {d : Kd α} {e : Nat} {base : Nat} {ok : Nat → Prop} {v : Value} {xs : List α} (h : IsS92 w0 W g f0 f1 f2) (ho : d.R e W base ok v xs) (ht : ∀ q, q ∈ e :: d.E → q ≠ 92) : d.R e W base (fun k => ok k ∧ k ≠ g) v xs := by
 obtain ⟨hb, hg⟩ := h
 exact Kd.R_types ho hb ht
theorem IsS92.own_ne {w0 W : World} {g : Nat} {f0 : ByteArray} {f1 : Int} {f2 : Bool} {α : Type} {d : Kd α} {e : Nat} {base : Nat} {ok : Nat → Prop} {v : Value} {xs : List α} (h : IsS92 w0 W g f0 f1 f2) (ho : d.R e W base ok v xs) (ht : e ≠ 92) : some g ≠ v.ownBlock := by
 obtain ⟨hb, hg⟩ := h
 exact Kd.R_ne ho hb ht
theorem IsS92.apartQ {w0 W : World} {g : Nat} {f0 : ByteArray} {f1 : Int} {f2 : Bool} {α : Type} {d : Kd α} {e : Nat} {base : Nat} {ok : Nat → Prop} {v : Value} {xs : List α} (h : IsS92 w0 W g f0 f1 f2) (ho : d.Q e W base ok v xs) (ht : ∀ q, q ∈ e :: d.E → q ≠ 92) : d.Q e W base (fun k => ok k ∧ k ≠ g) v xs := by
 obtain ⟨hb, hg⟩ := h
 exact Kd.Q_types ho hb ht
theorem IsS92.own_neQ {w0 W : World} {g : Nat} {f0 : ByteArray} {f1 : Int} {f2 : Bool} {α : Type} {d : Kd α} {e : Nat} {base : Nat} {ok : Nat → Prop} {v : Value} {xs : List α} (h : IsS92 w0 W g f0 f1 f2) (ho : d.Q e W base ok v xs) (ht : e ≠ 92) : some g ≠ v.ownBlock := by
 obtain ⟨hb, hg⟩ := h
 exact Kd.Q_ne ho hb ht
theorem IsS92.apartS {w0 W : World} {g : Nat} {f0 : ByteArray} {f1 : Int} {f2 : Bool} {α : Type} {d : Kd α} {e : Nat} {base : Nat} {ok : Nat → Prop} {v : Value} {xs : List α} (h : IsS92 w0 W g f0 f1 f2) (ho : d.S e W base ok v xs) (ht : ∀ q, q ∈ e :: d.E → q ≠ 92) : d.S e W base (fun k => ok k ∧ k ≠ g) v xs := by
 obtain ⟨hb, hg⟩ := h
 exact Kd.S_types ho hb ht
theorem IsS92.own_neS {w0 W : World} {g : Nat} {f0 : ByteArray} {f1 : Int} {f2 : Bool} {α : Type} {d : Kd α} {e : Nat} {base : Nat} {ok : Nat → Prop} {v : Value} {xs : List α} (h : IsS92 w0 W g f0 f1 f2) (ho : d.S e W base ok v xs) (ht : e ≠ 92) : some g ≠ v.ownBlock := by
 obtain ⟨hb, hg⟩ := h
 exact Kd.S_ne ho hb ht
theorem IsS92.lt {w0 W : World} {g : Nat} {f0 : ByteArray} {f1 : Int} {f2 : Bool} (h : IsS92 w0 W g f0 f1 f2) : g < W.heap.size := by
 obtain ⟨hb, hg⟩ := h
 exact blk_lt hb
theorem IsS92.ge {w0 W : World} {g : Nat} {f0 : ByteArray} {f1 : Int} {f2 : Bool} (h : IsS92 w0 W g f0 f1 f2) : w0.heap.size ≤ g := by
 obtain ⟨hb, hg⟩ := h
 exact hg
theorem IsS92.gf {w0 W : World} {g : Nat} {f0 : ByteArray} {f1 : Int} {f2 : Bool} (h : Aside0 (IsS92 w0 W g f0 f1 f2)) : Aside0 (w0.heap.size ≤ g) := ⟨h.out.ge⟩
theorem IsS92.ne_blk {w0 W : World} {g : Nat} {f0 : ByteArray} {f1 : Int} {f2 : Bool} {a : Nat} {cs : Array Value} {t : TypeId} {fr : Nat × Nat} (h : IsS92 w0 W g f0 f1 f2) (hb2 : W.heap[a]? = some (.cells cs t fr)) (ht : t ≠ 92) : g ≠ a := by
 obtain ⟨hb, hg⟩ := h
 rintro rfl
 rw [hb] at hb2
 injection hb2 with hb2
 injection hb2 with _ ht2
 exact ht ht2.symm
theorem IsS92.far {w0 W : World} {g : Nat} {f0 : ByteArray} {f1 : Int} {f2 : Bool} {p : Addr} (h : IsS92 w0 W g f0 f1 f2) (hne : g ≠ p.block) (u : Value) : IsS92 w0 (W.setCell p u) g f0 f1 f2 := by
 obtain ⟨hb, hg⟩ := h
 exact ⟨blk_far hb hne u, hg⟩
theorem cellS92_0 {W : World} {g : Nat} {f0 : ByteArray} {f1 : Int} {f2 : Bool} (h : W.heap[g]? = some (.cells #[.string f0, .int .i64 f1, .bool f2] 92 (0, 0))) : W.cell? ⟨g, 0, none⟩ = some (.string f0) := (blk_cell h 0).trans rfl
theorem IsS92.set_0 {w0 W : World} {g : Nat} {f0 : ByteArray} {f1 : Int} {f2 : Bool} (h : IsS92 w0 W g f0 f1 f2) (x : ByteArray) : IsS92 w0 (W.setCell ⟨g, 0, none⟩ (.string x)) g x f1 f2 := by
 obtain ⟨hb, hg⟩ := h
 exact ⟨(by simpa using blk_set hb 0 (.string x)), hg⟩
theorem cellS92_1 {W : World} {g : Nat} {f0 : ByteArray} {f1 : Int} {f2 : Bool} (h : W.heap[g]? = some (.cells #[.string f0, .int .i64 f1, .bool f2] 92 (0, 0))) : W.cell? ⟨g, 1, none⟩ = some (.int .i64 f1) := (blk_cell h 1).trans rfl
theorem IsS92.set_1 {w0 W : World} {g : Nat} {f0 : ByteArray} {f1 : Int} {f2 : Bool} (h : IsS92 w0 W g f0 f1 f2) (x : Int) : IsS92 w0 (W.setCell ⟨g, 1, none⟩ (.int .i64 x)) g f0 x f2 := by
 obtain ⟨hb, hg⟩ := h
 exact ⟨(by simpa using blk_set hb 1 (.int .i64 x)), hg⟩
theorem cellS92_2 {W : World} {g : Nat} {f0 : ByteArray} {f1 : Int} {f2 : Bool} (h : W.heap[g]? = some (.cells #[.string f0, .int .i64 f1, .bool f2] 92 (0, 0))) : W.cell? ⟨g, 2, none⟩ = some (.bool f2) := (blk_cell h 2).trans rfl
theorem IsS92.set_2 {w0 W : World} {g : Nat} {f0 : ByteArray} {f1 : Int} {f2 : Bool} (h : IsS92 w0 W g f0 f1 f2) (x : Bool) : IsS92 w0 (W.setCell ⟨g, 2, none⟩ (.bool x)) g f0 f1 x := by
 obtain ⟨hb, hg⟩ := h
 exact ⟨(by simpa using blk_set hb 2 (.bool x)), hg⟩
theorem IsS92.new (w0 W : World) (f0 : ByteArray) (f1 : Int) (f2 : Bool) (hB : Below w0.heap.size w0 W) : IsS92 w0 (W.alloc (.cells #[.string f0, .int .i64 f1, .bool f2] 92)) W.heap.size f0 f1 f2 := ⟨(by simpa using heap_alloc_new W _), hB.size⟩

def impl_scan_number.f (k : Nat) (Z : ByteArray) (aa : Int) (ar : Bool) : Option (Int × ByteArray × Int × Bool) := (impl_ReadVar.f k Z aa).bind fun dJ => (if ar = true then (some (0, Z, aa, true)) else (if dJ.2.2 = true then (some (dJ.1, Z, dJ.2.1, ar)) else (some (0, Z, aa, true))))
theorem impl_scan_number.calls (k : Nat) (g : Nat) (Z : ByteArray) (aa : Int) (ar : Bool) (r1 : Int) (r2 : ByteArray) (r3 : Int) (r4 : Bool) (w0 w : World) (hI : IsS92 w0 w g Z aa ar) (hB : Below w0.heap.size w0 w) (h : impl_scan_number.f k Z aa ar = some (r1, r2, r3, r4)) :
  Calls Try.prog 67 #[.pointer (some ⟨g, 0, none⟩)] w fun e w' => e = .returned (.int .i64 r1) ∧ IsS92 w0 w' g r2 r3 r4 ∧ Below w0.heap.size w0 w' ∧ KeepBut w w' g none := by
 have aj := am hI
 have HK := am (KeepBut.refl w g none)
 have HL := am hB.size
 clear hI
 have dD := am hB.size
 have HB := am hB
 clear hB
 have J := h
 clear h
 unfold impl_scan_number.f at J
 obtain ⟨⟨bC, bD, dZ⟩, A2, D⟩ := bsi J
 (try dsimp only at D)
 obtain ⟨rfl, z⟩ | ⟨rfl, z⟩ := sb D
 ·obtain ⟨rfl, rfl, rfl, rfl⟩ := s4 z; clear z J D; obtain ⟨aJ, cD⟩ := aj.out; have fb := cellS92_0 aJ; have fc := cellS92_1 aJ; have fd := cellS92_2 aJ; obtain ⟨fj, fk, fl⟩ := fr3 aJ; clear aJ cD; go_enter Try.func67, Try.ntmps67
  go_wp2_with (first | (go_at_call 94; refine (impl_ReadVar.calls k Z aa bC bD dZ _ A2.out).mono ?_; rintro e w' ⟨rfl, ⟨nd, rfl⟩⟩; (try first | exact ⟨rfl, _, World.drewN_drewN _ _ _⟩ | exact ⟨rfl, _, Eq.trans (World.drewN_drewN _ _ _) (congrArg (World.drewN _) (Nat.add_assoc _ _ _))⟩)))
  repeat (go_quiet (first | (go_at_call 94; (with_reducible refine (impl_ReadVar.calls k Z aa bC bD dZ _ A2.out).mono ?_); rintro e w' ⟨rfl, ⟨nd, rfl⟩⟩; (try first | exact ⟨rfl, _, World.drewN_drewN _ _ _⟩ | exact ⟨rfl, _, Eq.trans (World.drewN_drewN _ _ _) (congrArg (World.drewN _) (Nat.add_assoc _ _ _))⟩))); try go_wp2_with (first | (go_at_call 94; (with_reducible refine (impl_ReadVar.calls k Z aa bC bD dZ _ A2.out).mono ?_); rintro e w' ⟨rfl, ⟨nd, rfl⟩⟩; (try first | exact ⟨rfl, _, World.drewN_drewN _ _ _⟩ | exact ⟨rfl, _, Eq.trans (World.drewN_drewN _ _ _) (congrArg (World.drewN _) (Nat.add_assoc _ _ _))⟩))))
  go_ret; exact D8x0_
 ·obtain ⟨rfl, Y⟩ | ⟨rfl, Y⟩ := sb z
  ·obtain ⟨rfl, rfl, rfl, rfl⟩ := s4 Y; clear Y J D z; obtain ⟨aK, cE⟩ := aj.out; have fg := cellS92_0 aK; have fh := cellS92_1 aK; have fi := cellS92_2 aK; obtain ⟨fo, fp, fq⟩ := fr3 aK; clear aK cE; go_enter Try.func67, Try.ntmps67
   go_wp2_with (first | (go_at_call 94; refine (impl_ReadVar.calls k Z aa bC bD true _ A2.out).mono ?_; rintro e w' ⟨rfl, ⟨nd, rfl⟩⟩; (try first | exact ⟨rfl, _, World.drewN_drewN _ _ _⟩ | exact ⟨rfl, _, Eq.trans (World.drewN_drewN _ _ _) (congrArg (World.drewN _) (Nat.add_assoc _ _ _))⟩)))
   repeat (go_quiet (first | (go_at_call 94; (with_reducible refine (impl_ReadVar.calls k Z aa bC bD true _ A2.out).mono ?_); rintro e w' ⟨rfl, ⟨nd, rfl⟩⟩; (try first | exact ⟨rfl, _, World.drewN_drewN _ _ _⟩ | exact ⟨rfl, _, Eq.trans (World.drewN_drewN _ _ _) (congrArg (World.drewN _) (Nat.add_assoc _ _ _))⟩))); try go_wp2_with (first | (go_at_call 94; (with_reducible refine (impl_ReadVar.calls k Z aa bC bD true _ A2.out).mono ?_); rintro e w' ⟨rfl, ⟨nd, rfl⟩⟩; (try first | exact ⟨rfl, _, World.drewN_drewN _ _ _⟩ | exact ⟨rfl, _, Eq.trans (World.drewN_drewN _ _ _) (congrArg (World.drewN _) (Nat.add_assoc _ _ _))⟩))))
   go_ret; exact D8x0_
  ·obtain ⟨rfl, rfl, rfl, rfl⟩ := s4 Y; clear Y J D z; obtain ⟨bi, dO⟩ := aj.out; have ha := cellS92_0 bi; have he := cellS92_1 bi; have hf := cellS92_2 bi; obtain ⟨hh, hj, hl⟩ := fr3 bi; clear bi dO; go_enter Try.func67, Try.ntmps67
   go_wp2_with (first | (go_at_call 94; refine (impl_ReadVar.calls k Z aa bC bD false _ A2.out).mono ?_; rintro e w' ⟨rfl, ⟨nd, rfl⟩⟩; (try first | exact ⟨rfl, _, World.drewN_drewN _ _ _⟩ | exact ⟨rfl, _, Eq.trans (World.drewN_drewN _ _ _) (congrArg (World.drewN _) (Nat.add_assoc _ _ _))⟩)))
   repeat (go_quiet (first | (go_at_call 94; (with_reducible refine (impl_ReadVar.calls k Z aa bC bD false _ A2.out).mono ?_); rintro e w' ⟨rfl, ⟨nd, rfl⟩⟩; (try first | exact ⟨rfl, _, World.drewN_drewN _ _ _⟩ | exact ⟨rfl, _, Eq.trans (World.drewN_drewN _ _ _) (congrArg (World.drewN _) (Nat.add_assoc _ _ _))⟩))); try go_wp2_with (first | (go_at_call 94; (with_reducible refine (impl_ReadVar.calls k Z aa bC bD false _ A2.out).mono ?_); rintro e w' ⟨rfl, ⟨nd, rfl⟩⟩; (try first | exact ⟨rfl, _, World.drewN_drewN _ _ _⟩ | exact ⟨rfl, _, Eq.trans (World.drewN_drewN _ _ _) (congrArg (World.drewN _) (Nat.add_assoc _ _ _))⟩))))
   go_ret; exact D8x0_

def impl_scan_count.f (k : Nat) (Z : ByteArray) (aa : Int) (ar : Bool) (a1 : Int) : Option (Int × ByteArray × Int × Bool) := (impl_scan_number.f k Z aa ar).bind fun bX => (if bX.1 > a1 then (some (0, bX.2.1, bX.2.2.1, true)) else (some (bX.1, bX.2.1, bX.2.2.1, bX.2.2.2)))
theorem impl_scan_count.calls (k : Nat) (g : Nat) (Z : ByteArray) (aa : Int) (ar : Bool) (a1 : Int) (r1 : Int) (r2 : ByteArray) (r3 : Int) (r4 : Bool) (w0 w : World) (hI : IsS92 w0 w g Z aa ar) (hB : Below w0.heap.size w0 w) (h : impl_scan_count.f k Z aa ar a1 = some (r1, r2, r3, r4)) :
  Calls Try.prog 66 #[.pointer (some ⟨g, 0, none⟩), .int .i64 a1] w fun e w' => e = .returned (.int .i64 r1) ∧ IsS92 w0 w' g r2 r3 r4 ∧ Below w0.heap.size w0 w' ∧ KeepBut w w' g none := by
 have aj := am hI
 have HK := am (KeepBut.refl w g none)
 have HL := am hB.size
 clear hI
 have dD := am hB.size
 have HB := am hB
 clear hB
 have J := h
 clear h
 unfold impl_scan_count.f at J
 obtain ⟨⟨di, eK, eL, eM⟩, A3, D⟩ := bsi J
 (try dsimp only at D)
 obtain ⟨c4, z⟩ | ⟨c4, z⟩ := sp D
 ·have dN : decide (a1 < di) = true := decide_eq_true c4
  clear c4; obtain ⟨rfl, rfl, rfl, rfl⟩ := s4 z; clear z J D; go_enter Try.func66, Try.ntmps66
  go_wp2_with (first | ((with_reducible refine gate_callee (f := 67) rfl ?_); refine gM (some 7) Try.func67 (impl_scan_number.calls k g Z aa ar di eK eL eM w0 _ B25x0_ (Ae1 HB (IsS92.gf aj)) A3.out) ?_; rintro w5 ⟨hi, hb, hk⟩; replace HK := Dk0 HK hk; replace HB := am hb; replace aj := am hi; obtain ⟨aK, cE⟩ := aj.out; have fg := cellS92_0 aK; have fh := cellS92_1 aK; have fi := cellS92_2 aK; obtain ⟨fo, fp, fq⟩ := fr3 aK; clear aK cE))
  go_ret; exact D8x0_
 ·have dN : decide (a1 < di) = false := decide_eq_false c4
  clear c4; obtain ⟨rfl, rfl, rfl, rfl⟩ := s4 z; clear z J D; go_enter Try.func66, Try.ntmps66
  go_wp2_with (first | ((with_reducible refine gate_callee (f := 67) rfl ?_); refine gM (some 7) Try.func67 (impl_scan_number.calls k g Z aa ar di eK eL eM w0 _ B25x0_ (Ae1 HB (IsS92.gf aj)) A3.out) ?_; rintro w7 ⟨hi, hb, hk⟩; replace HK := Dk0 HK hk; replace HB := am hb; replace aj := am hi))
  go_ret; exact D8x0_

def impl_ReadShort.f (k : Nat) (j : ByteArray) (a1 : Int) : Option (ByteArray × Int × Bool) := (impl_ReadVar.f k j a1).bind fun aV => (if aV.2.2 = true then (if aV.1 > 20000 then (some ((⟨#[]⟩ : ByteArray), 0, false)) else (if aV.1 > (wrap64 ((j.size : Int) - aV.2.1)) then (some ((⟨#[]⟩ : ByteArray), 0, false)) else (if 0 ≤ aV.2.1 then (if aV.2.1 ≤ (wrap64 (aV.2.1 + aV.1)) then (if (wrap64 (aV.2.1 + aV.1)) ≤ (j.size : Int) then (some (j.extract (aV.2.1 : Int).toNat ((wrap64 (aV.2.1 + aV.1)) : Int).toNat, wrap64 (aV.2.1 + aV.1), true)) else (none)) else (none)) else (none)))) else (some ((⟨#[]⟩ : ByteArray), 0, false)))
theorem impl_ReadShort.calls (k : Nat) (j : ByteArray) (a1 : Int) (r1 : ByteArray) (r2 : Int) (r3 : Bool) (w : World) (h : impl_ReadShort.f k j a1 = some (r1, r2, r3)) :
  Calls Try.prog 95 #[.string j, .int .i64 a1] w fun e w' => e = .returned (.tuple #[.string r1, .int .i64 r2, .bool r3]) ∧ Drawn0 w w' := by
 have J := h
 clear h
 unfold impl_ReadShort.f at J
 obtain ⟨⟨bO, cj, iJ⟩, A3, D⟩ := bsi J
 (try dsimp only at D)
 obtain ⟨rfl, z⟩ | ⟨rfl, z⟩ := sb D
 ·obtain ⟨c5, Y⟩ | ⟨c5, Y⟩ := sp z
  ·have gv : decide (20000 < bO) = true := decide_eq_true c5
   clear c5; obtain ⟨rfl, rfl, rfl⟩ := s3 Y; clear Y J D z; go_enter Try.func95, Try.ntmps95
   go_wp2_with (first | ((with_reducible refine gate_callee (f := 94) rfl ?_); refine gM (some 13) Try.func94 (impl_ReadVar.calls k j a1 bO cj true _ A3.out) ?_; rintro w' ⟨nd, rfl⟩))
   go_ret3
   exact ⟨gr_, gd_⟩
  ·have gv : decide (20000 < bO) = false := decide_eq_false c5
   clear c5
   obtain ⟨c6, ae⟩ | ⟨c6, ae⟩ := sp Y
   ·have bY : decide ((wrap64 ((j.size : Int) - cj)) < bO) = true := decide_eq_true c6
    clear c6; obtain ⟨rfl, rfl, rfl⟩ := s3 ae; clear ae J D z Y; go_enter Try.func95, Try.ntmps95
    go_wp2_with (first | ((with_reducible refine gate_callee (f := 94) rfl ?_); refine gM (some 13) Try.func94 (impl_ReadVar.calls k j a1 bO cj true _ A3.out) ?_; rintro w' ⟨nd, rfl⟩))
    go_ret3
    exact ⟨gr_, gd_⟩
   ·have bY : decide ((wrap64 ((j.size : Int) - cj)) < bO) = false := decide_eq_false c6
    clear c6; obtain ⟨hM, hN, ap⟩ := ye ae; obtain ⟨c8, ax⟩ := yn ap; have hO := eq_true c8; have hP := decide_eq_true c8; obtain ⟨c9, ay⟩ := yn ax; have gw := eq_true c9; have hQ := decide_eq_true c9; obtain ⟨rfl, rfl, rfl⟩ := s3 ay; clear ay J D z Y ae ap ax; go_enter Try.func95, Try.ntmps95
    go_wp2_with (first | ((with_reducible refine gate_callee (f := 94) rfl ?_); refine gM (some 13) Try.func94 (impl_ReadVar.calls k j a1 bO cj true _ A3.out) ?_; rintro w' ⟨nd, rfl⟩))
    go_ret3
    exact ⟨gr_, gd_⟩
 ·obtain ⟨rfl, rfl, rfl⟩ := s3 z; clear z J D; go_enter Try.func95, Try.ntmps95
  go_wp2_with (first | ((with_reducible refine gate_callee (f := 94) rfl ?_); refine gM (some 13) Try.func94 (impl_ReadVar.calls k j a1 bO cj false _ A3.out) ?_; rintro w' ⟨nd, rfl⟩))
  go_ret3
  exact ⟨gr_, gd_⟩

def impl_scan_short.f (k : Nat) (Z : ByteArray) (aa : Int) (ar : Bool) : Option (ByteArray × ByteArray × Int × Bool) := (impl_ReadShort.f k Z aa).bind fun dK => (if ar = true then (some ((⟨#[]⟩ : ByteArray), Z, aa, true)) else (if dK.2.2 = true then (some (dK.1, Z, dK.2.1, ar)) else (some ((⟨#[]⟩ : ByteArray), Z, aa, true))))
theorem impl_scan_short.calls (k : Nat) (g : Nat) (Z : ByteArray) (aa : Int) (ar : Bool) (r1 : ByteArray) (r2 : ByteArray) (r3 : Int) (r4 : Bool) (w0 w : World) (hI : IsS92 w0 w g Z aa ar) (hB : Below w0.heap.size w0 w) (h : impl_scan_short.f k Z aa ar = some (r1, r2, r3, r4)) :
  Calls Try.prog 68 #[.pointer (some ⟨g, 0, none⟩)] w fun e w' => e = .returned (.string r1) ∧ IsS92 w0 w' g r2 r3 r4 ∧ Below w0.heap.size w0 w' ∧ KeepBut w w' g none := by
 have aj := am hI
 have HK := am (KeepBut.refl w g none)
 have HL := am hB.size
 clear hI
 have dD := am hB.size
 have HB := am hB
 clear hB
 have J := h
 clear h
 unfold impl_scan_short.f at J
 obtain ⟨⟨bE, bF, d0⟩, A2, D⟩ := bsi J
 (try dsimp only at D)
 obtain ⟨rfl, z⟩ | ⟨rfl, z⟩ := sb D
 ·obtain ⟨rfl, rfl, rfl, rfl⟩ := s4 z; clear z J D; obtain ⟨aJ, cD⟩ := aj.out; have fb := cellS92_0 aJ; have fc := cellS92_1 aJ; have fd := cellS92_2 aJ; obtain ⟨fj, fk, fl⟩ := fr3 aJ; clear aJ cD; go_enter Try.func68, Try.ntmps68
  go_wp2_with (first | (go_at_call 95; refine (impl_ReadShort.calls k Z aa bE bF d0 _ A2.out).mono ?_; rintro e w' ⟨rfl, ⟨nd, rfl⟩⟩; (try first | exact ⟨rfl, _, World.drewN_drewN _ _ _⟩ | exact ⟨rfl, _, Eq.trans (World.drewN_drewN _ _ _) (congrArg (World.drewN _) (Nat.add_assoc _ _ _))⟩)))
  repeat (go_quiet (first | (go_at_call 95; (with_reducible refine (impl_ReadShort.calls k Z aa bE bF d0 _ A2.out).mono ?_); rintro e w' ⟨rfl, ⟨nd, rfl⟩⟩; (try first | exact ⟨rfl, _, World.drewN_drewN _ _ _⟩ | exact ⟨rfl, _, Eq.trans (World.drewN_drewN _ _ _) (congrArg (World.drewN _) (Nat.add_assoc _ _ _))⟩))); try go_wp2_with (first | (go_at_call 95; (with_reducible refine (impl_ReadShort.calls k Z aa bE bF d0 _ A2.out).mono ?_); rintro e w' ⟨rfl, ⟨nd, rfl⟩⟩; (try first | exact ⟨rfl, _, World.drewN_drewN _ _ _⟩ | exact ⟨rfl, _, Eq.trans (World.drewN_drewN _ _ _) (congrArg (World.drewN _) (Nat.add_assoc _ _ _))⟩))))
  go_ret; exact D8x0_
 ·obtain ⟨rfl, Y⟩ | ⟨rfl, Y⟩ := sb z
  ·obtain ⟨rfl, rfl, rfl, rfl⟩ := s4 Y; clear Y J D z; obtain ⟨aK, cE⟩ := aj.out; have fg := cellS92_0 aK; have fh := cellS92_1 aK; have fi := cellS92_2 aK; obtain ⟨fo, fp, fq⟩ := fr3 aK; clear aK cE; go_enter Try.func68, Try.ntmps68
   go_wp2_with (first | (go_at_call 95; refine (impl_ReadShort.calls k Z aa bE bF true _ A2.out).mono ?_; rintro e w' ⟨rfl, ⟨nd, rfl⟩⟩; (try first | exact ⟨rfl, _, World.drewN_drewN _ _ _⟩ | exact ⟨rfl, _, Eq.trans (World.drewN_drewN _ _ _) (congrArg (World.drewN _) (Nat.add_assoc _ _ _))⟩)))
   repeat (go_quiet (first | (go_at_call 95; (with_reducible refine (impl_ReadShort.calls k Z aa bE bF true _ A2.out).mono ?_); rintro e w' ⟨rfl, ⟨nd, rfl⟩⟩; (try first | exact ⟨rfl, _, World.drewN_drewN _ _ _⟩ | exact ⟨rfl, _, Eq.trans (World.drewN_drewN _ _ _) (congrArg (World.drewN _) (Nat.add_assoc _ _ _))⟩))); try go_wp2_with (first | (go_at_call 95; (with_reducible refine (impl_ReadShort.calls k Z aa bE bF true _ A2.out).mono ?_); rintro e w' ⟨rfl, ⟨nd, rfl⟩⟩; (try first | exact ⟨rfl, _, World.drewN_drewN _ _ _⟩ | exact ⟨rfl, _, Eq.trans (World.drewN_drewN _ _ _) (congrArg (World.drewN _) (Nat.add_assoc _ _ _))⟩))))
   go_ret; exact D8x0_
  ·obtain ⟨rfl, rfl, rfl, rfl⟩ := s4 Y; clear Y J D z; obtain ⟨bi, dO⟩ := aj.out; have ha := cellS92_0 bi; have he := cellS92_1 bi; have hf := cellS92_2 bi; obtain ⟨hh, hj, hl⟩ := fr3 bi; clear bi dO; go_enter Try.func68, Try.ntmps68
   go_wp2_with (first | (go_at_call 95; refine (impl_ReadShort.calls k Z aa bE bF false _ A2.out).mono ?_; rintro e w' ⟨rfl, ⟨nd, rfl⟩⟩; (try first | exact ⟨rfl, _, World.drewN_drewN _ _ _⟩ | exact ⟨rfl, _, Eq.trans (World.drewN_drewN _ _ _) (congrArg (World.drewN _) (Nat.add_assoc _ _ _))⟩)))
   repeat (go_quiet (first | (go_at_call 95; (with_reducible refine (impl_ReadShort.calls k Z aa bE bF false _ A2.out).mono ?_); rintro e w' ⟨rfl, ⟨nd, rfl⟩⟩; (try first | exact ⟨rfl, _, World.drewN_drewN _ _ _⟩ | exact ⟨rfl, _, Eq.trans (World.drewN_drewN _ _ _) (congrArg (World.drewN _) (Nat.add_assoc _ _ _))⟩))); try go_wp2_with (first | (go_at_call 95; (with_reducible refine (impl_ReadShort.calls k Z aa bE bF false _ A2.out).mono ?_); rintro e w' ⟨rfl, ⟨nd, rfl⟩⟩; (try first | exact ⟨rfl, _, World.drewN_drewN _ _ _⟩ | exact ⟨rfl, _, Eq.trans (World.drewN_drewN _ _ _) (congrArg (World.drewN _) (Nat.add_assoc _ _ _))⟩))))
   go_ret; exact D8x0_

def impl_scan_done.f (Z : ByteArray) (aa : Int) (ar : Bool) : Option (Bool × ByteArray × Int × Bool) := if ar = true then (some (false, Z, aa, ar)) else (some ((aa == (Z.size : Int)), Z, aa, ar))
theorem impl_scan_done.calls (g : Nat) (Z : ByteArray) (aa : Int) (ar : Bool) (r1 : Bool) (r2 : ByteArray) (r3 : Int) (r4 : Bool) (w0 w : World) (hI : IsS92 w0 w g Z aa ar) (hB : Below w0.heap.size w0 w) (h : impl_scan_done.f Z aa ar = some (r1, r2, r3, r4)) :
  Calls Try.prog 69 #[.pointer (some ⟨g, 0, none⟩)] w fun e w' => e = .returned (.bool r1) ∧ IsS92 w0 w' g r2 r3 r4 ∧ Below w0.heap.size w0 w' ∧ KeepBut w w' g none := by
 have aj := am hI
 have HK := am (KeepBut.refl w g none)
 have HL := am hB.size
 clear hI
 have dD := am hB.size
 have HB := am hB
 clear hB
 have J := h
 clear h
 unfold impl_scan_done.f at J
 obtain ⟨rfl, D⟩ | ⟨rfl, D⟩ := sb J
 ·obtain ⟨rfl, rfl, rfl, rfl⟩ := s4 D; clear D J; obtain ⟨ct, gO⟩ := aj.out; have jc := cellS92_0 ct; have jd := cellS92_1 ct; have je := cellS92_2 ct; obtain ⟨jl, jm, jn⟩ := fr3 ct; clear ct gO; go_enter Try.func69, Try.ntmps69
  go_wp2
  repeat (go_quiet (fail); try go_wp2)
  go_ret; exact D8x0_
 obtain ⟨rfl, rfl, rfl, rfl⟩ := s4 D
 clear D J
 obtain ⟨aJ, cD⟩ := aj.out
 have fb := cellS92_0 aJ
 have fc := cellS92_1 aJ
 have fd := cellS92_2 aJ
 obtain ⟨fj, fk, fl⟩ := fr3 aJ
 clear aJ cD
 go_enter Try.func69, Try.ntmps69
 go_wp2
 repeat (go_quiet (fail); try go_wp2)
 go_ret
 exact D8x0_
theorem B26x0_ (h : p := by repeat (first | (with_reducible first | exact B.out | apply IsS92.alloc | apply IsS92.drewN | apply IsS92.drew | apply IsS92.set_0 | apply IsS92.set_1 | apply IsS92.set_2 | refine IsS92.far ?_ cf.out _ | refine IsS92.far ?_ bw.out _) | exact B.out)) : p := h
theorem B26x2_ (h : p := by repeat (first | (with_reducible first | exact B.out | apply IsS92.alloc | apply IsS92.drewN | apply IsS92.drew | apply IsS92.set_0 | apply IsS92.set_1 | apply IsS92.set_2 | refine IsS92.far ?_ cf.out _ | refine IsS92.far ?_ bw.out _ | refine IsS92.far ?_ dI.out _) | exact B.out)) : p := h
theorem B26x3_ (h : p := by repeat (first | (with_reducible first | exact B.out | apply IsS92.alloc | apply IsS92.drewN | apply IsS92.drew | apply IsS92.set_0 | apply IsS92.set_1 | apply IsS92.set_2 | refine IsS92.far ?_ cf.out _ | refine IsS92.far ?_ bw.out _ | refine IsS92.far ?_ dH.out _) | exact B.out)) : p := h
theorem B26x22_ (h : p := by repeat (first | exact (Kd.R_reads' ac.out).2.2 | (with_reducible refine Kd.C_alloc ?_ _) | (with_reducible refine Kd.C_drewN ?_ _) | (with_reducible refine Kd.C_drew ?_))) : p := h
theorem B26x23_ (h : p := by repeat (first | exact (Kd.R_reads' ah.out).2.2 | (with_reducible refine Kd.C_alloc ?_ _) | (with_reducible refine Kd.C_drewN ?_ _) | (with_reducible refine Kd.C_drew ?_))) : p := h
mutual
def impl_ReadKeep.l0 : Nat → Int → Int → ByteArray → Int → Bool → List (S83) → Option ((List (S83)) × (List (S81)) × Bool)
 | 0, _, _, _, _, _, _ => none
 | k + 1, e5, e6, cO, cP, cQ, b7 => if e6 < e5 then ((impl_scan_number.f k cO cP cQ).bind fun cV => ((impl_scan_number.f k cV.2.1 cV.2.2.1 cV.2.2.2).bind fun cW => ((impl_scan_short.f k cW.2.1 cW.2.2.1 cW.2.2.2).bind fun cX => (if b7.length < 4398046511104 then (impl_ReadKeep.l0 k e5 (wrap64 (e6 + 1)) cX.2.1 cX.2.2.1 cX.2.2.2 (b7 ++ [(⟨cV.1, cW.1, cX.1⟩ : S83)])) else (none))))) else ((impl_scan_count.f k cO cP cQ 8).bind fun cY => (impl_ReadKeep.l1 k cY.1 0 cY.2.1 cY.2.2.1 cY.2.2.2 b7 ([] : List (S81))))
def impl_ReadKeep.l1 : Nat → Int → Int → ByteArray → Int → Bool → List (S83) → List (S81) → Option ((List (S83)) × (List (S81)) × Bool)
 | 0, _, _, _, _, _, _, _ => none
 | k + 1, e7, e8, cO, cP, cQ, b7, du => if e8 < e7 then ((impl_scan_short.f k cO cP cQ).bind fun cZ => ((impl_scan_short.f k cZ.2.1 cZ.2.2.1 cZ.2.2.2).bind fun da => ((impl_scan_number.f k da.2.1 da.2.2.1 da.2.2.2).bind fun db => (if du.length < 3518437208883 then (impl_ReadKeep.l1 k e7 (wrap64 (e8 + 1)) db.2.1 db.2.2.1 db.2.2.2 b7 (du ++ [(⟨cZ.1, da.1, db.1⟩ : S81)])) else (none))))) else ((impl_scan_done.f cO cP cQ).bind fun fX => (if fX.1 = true then ((impl_KeepOk.f k b7 du).bind fun e1 => (if e1 = true then (some (b7, du, true)) else (some (([] : List (S83)), ([] : List (S81)), false)))) else (some (([] : List (S83)), ([] : List (S81)), false))))
end
def impl_ReadKeep.f (k : Nat) (j : ByteArray) : Option ((List (S83)) × (List (S81)) × Bool) := (impl_scan_count.f k j 0 false 3).bind fun cU => (impl_ReadKeep.l0 k cU.1 0 cU.2.1 cU.2.2.1 cU.2.2.2 ([] : List (S83)))
theorem impl_ReadKeep.calls (k : Nat) (j : ByteArray) (r1 : List (S83)) (r2 : List (S81)) (r3 : Bool) (w : World) (h : impl_ReadKeep.f k j = some (r1, r2, r3)) :
  Calls Try.prog 27 #[.string j] w fun e w' => ∃ e3 e4 : Value, e = .returned (.tuple #[.agg #[e3, e4], .bool r3]) ∧ Kd.R k83 83 w' w.heap.size (fun _ => True) e3 r1 ∧ Kd.R k81 81 w' w.heap.size (fun _ => True) e4 r2 ∧ Below w.heap.size w w' := by
 have gV := Try.underlying47
 have iH := Try.underlying92
 have gX := Try.underlying83
 have gW := Try.underlying81
 have HB := am (Below.refl w.heap.size w)
 have J := h
 clear h
 unfold impl_ReadKeep.f at J
 obtain ⟨⟨eN, eO, eP, eQ⟩, A2, D⟩ := bsi J
 (try dsimp only at D)
 replace D := am D
 clear J
 go_enter Try.func27, Try.ntmps27
 go_wp2_with (first | ((with_reducible refine gate_dst (N := 2) rfl ?_); refine bx (N := 2) (cs := #[.slice none 0 0, .slice none 0 0]) (t := 47) ?_; intro aZ hg w3 hbox hb; have l := am hbox; have ai := gA hg HB; replace HB := hA HB hb; clear hb hbox hg) | ((with_reducible refine gate_dst (N := 12) rfl ?_); refine bx (N := 12) (cs := #[.string j, .int .i64 0, .bool false]) (t := 92) ?_; intro ak hg w4 hbox hb; have cp := am hbox; have dz := gA hg HB; replace HB := De1 HB ai hb; have aY := nA hg l; have cf := mA hg l; replace l := bA l hb; clear hb hbox hg) | ((with_reducible refine gate_dst (N := 5) rfl ?_); refine bx (N := 5) (cs := #[.slice none 0 0, .slice none 0 0]) (t := 47) ?_; intro bj hg w5 hbox hb; have M := am hbox; have al := gA hg HB; replace HB := De2 HB ai dz hb; have bv := nA hg l; have cg := mA hg l; replace l := bA l hb; have bw := nA hg cp; have aU := mA hg cp; replace cp := bA cp hb; clear hb hbox hg; have h8 := cg.out; have ix := bv.out; have ic := aU.out; have iB := bw.out; obtain ⟨b8, b9, ca, cc⟩ := cf2 M) | ((with_reducible refine gate_callee (f := 66) rfl ?_); refine gL (some 15) Try.func66 #[.pointer (some ⟨ak, 0, none⟩), .int .i64 3] ?_; (with_reducible refine (impl_scan_count.calls k ak j 0 false 3 eN eO eP eQ w _ ?z1 ?z2 A2.out).mono ?_); (case z1 => exact ⟨(Ap1 cp bw), dz.out⟩); (case z2 => repeat (first | (with_reducible first | exact HB.out | apply below_alloc | apply pw_below_drewN | apply below_drew1 | refine below_set ?_ ai.out | refine below_set ?_ dz.out | refine below_set ?_ al.out) | exact HB.out)); rintro e w9 ⟨rfl, hi, hb, hk⟩; refine ⟨_, rfl, ?_⟩; replace l := am (KeepBut.blk hk (g' := aZ) (o := .cells #[.slice none 0 0, .slice none 0 0] 47 (0, 0)) (Ap1 l bv) aY.out (by simp)); replace M := am (KeepBut.blk hk (g' := bj) (o := .cells #[.slice none 0 0, .slice none 0 0] 47 (0, 0)) (Ap0 M) aU.out (by simp)); replace HB := am hb; have B := am hi))
 go_loopg [17] k (fun kq gZ w' => ∃ (ds : Int) (b4 : ByteArray) (b5 : Int) (b6 : Bool) (br : List (S83)) (a2 : Value), gZ = .int .i64 ds ∧ Aside0 (impl_ReadKeep.l0 kq eN ds b4 b5 b6 br = some (r1, r2, r3)) ∧ Aside0 (kq ≤ k) ∧ Aside0 (Kd.R k83 83 w' w.heap.size (fun _ => True) a2 br) ∧ Aside0 (w'.heap[aZ]? = some (.cells #[(.slice none 0 0), (.slice none 0 0)] 47 (0, 0))) ∧ Aside0 (w'.heap[bj]? = some (.cells #[a2, (.slice none 0 0)] 47 (0, 0))) ∧ Aside0 (IsS92 w w' ak b4 b5 b6) ∧ Aside0 (Below w.heap.size w w'))
 case atStart => exact ⟨(0), eO, eP, eQ, (([] : List (S83))), (.slice none 0 0), be_, D, ⟨Nat.le_refl _⟩, ⟨gn_⟩, Cb l, Cb M, ⟨B26x0_⟩, Ce3 HB (IsS92.gf B) ai al⟩
 case round =>
  clear D; obtain ⟨ds, b4, b5, b6, br, a2, rfl, z, aR, ac, l, M, B, HB⟩ := hrel
  cases gk with
  | zero => exact absurd z.out (by simp [impl_ReadKeep.l0])
  | succ k1 => ?_
  replace z := z.out; simp only [impl_ReadKeep.l0] at z
  obtain ⟨ch, Y⟩ | ⟨ch, Y⟩ := sd z
  ·obtain ⟨⟨bn, d1, d2, d3⟩, fs, ae⟩ := bsi Y; (try dsimp only at ae); obtain ⟨⟨bG, d4, d5, d6⟩, dv, ap⟩ := bsi ae; (try dsimp only at ap); obtain ⟨⟨bP, eR, eS, eT⟩, ft, ax⟩ := bsi ap; (try dsimp only at ax); obtain ⟨fH, ay⟩ := ya ax; obtain ⟨e9, cH⟩ : ∃ y_ : List (S83), y_ = (br ++ [(⟨bn, bG, bP⟩ : S83)]) := ⟨_, rfl⟩
   (first | with_reducible replace ay := hq cH ay | rw [← cH] at ay | simp only [← cH] at ay)
   have fR := am cH; clear cH; replace ay := am ay; clear z Y ae ap ax
   go_wp2_with (first | ((with_reducible refine gate_dst (N := 7) rfl ?_); refine bx (N := 7) (cs := #[.int .i64 0, .int .i64 0, .string (⟨#[]⟩ : ByteArray)]) (t := 83) ?_; intro aM hg iQ hbox hb; replace ac := am (Kd.R_below (Kd.R_elderB (Ar ac) aM (Nat.le_of_eq hg.symm)) hb); have a3 := am hbox; have cd := gA hg HB; replace HB := De3 HB (IsS92.gf B) ai al hb; have cv := nA hg l; have fL := mA hg l; replace l := bA l hb; have cx := nA hg M; have fM := mA hg M; replace M := bA M hb; have dH := am (nl hg (IsS92.lt B.out)); have cS := am (ng hg (IsS92.lt B.out)); replace B := am (IsS92.below B26x0_ hb); clear hb hbox hg; have hY := fL.out; have ik := cv.out; have hZ := fM.out; have il := cx.out; have h0 := cS.out; have im := dH.out; obtain ⟨eb, ec, ed, eh, ei, ej⟩ := cf3 a3) | ((with_reducible refine gate_callee (f := 67) rfl ?_); refine gM (some 21) Try.func67 (impl_scan_number.calls k1 ak b4 b5 b6 bn d1 d2 d3 w _ B26x3_ (Ae4 HB (IsS92.gf B) ai al cd) fs.out) ?_; rintro iR ⟨hi, hb, hk⟩; replace ac := am (Kd.R_mono (Kd.R_keep (IsS92.apart (show IsS92 w _ ak b4 b5 b6 from B26x3_) (by (with_reducible repeat (first | apply Kd.R_alloc | apply Kd.R_drewN | apply Kd.R_drew)); exact (Kd.R_mono (Kd.R_far (p := ⟨aM, 2, none⟩) (Kd.R_far (p := ⟨aM, 1, none⟩) (Kd.R_far (p := ⟨aM, 0, none⟩) (Kd.R_mono ac.out (fun k_ hk => (⟨hk, hk.2⟩ : _ ∧ k_ ≠ aM))) (fun _ hk => hk.2) (.int .i64 0)) (fun _ hk => hk.2) (.int .i64 0)) (fun _ hk => hk.2) (.string (⟨#[]⟩ : ByteArray))) (fun _ h_ => h_.1))) (by decide)) hk (fun _ h => h.2)) (fun _ h => h.1)); replace l := am (KeepBut.blk hk (g' := aZ) (o := .cells #[.slice none 0 0, .slice none 0 0] 47 (0, 0)) (Ap1 l cv) aY.out (by simp)); replace M := am (KeepBut.blk hk (g' := bj) (o := .cells #[a2, .slice none 0 0] 47 (0, 0)) (Ap1 M cx) aU.out (by simp)); replace a3 := am (KeepBut.blk hk (g' := aM) (o := .cells #[.int .i64 0, .int .i64 0, .string (⟨#[]⟩ : ByteArray)] 83 (0, 0)) (Ap0 a3) cS.out (by simp)); replace HB := am hb; replace B := am hi; obtain ⟨eb, ec, ed, eh, ei, ej⟩ := cf3 a3) | ((with_reducible refine gate_callee (f := 67) rfl ?_); refine gM (some 24) Try.func67 (impl_scan_number.calls k1 ak d1 d2 d3 bG d4 d5 d6 w _ B26x3_ (Ae4 HB (IsS92.gf B) ai al cd) dv.out) ?_; rintro cN ⟨hi, hb, hk⟩; replace ac := am (Kd.R_mono (Kd.R_keep (IsS92.apart (show IsS92 w _ ak d1 d2 d3 from B26x3_) (by (with_reducible repeat (first | apply Kd.R_alloc | apply Kd.R_drewN | apply Kd.R_drew)); exact (Kd.R_mono (Kd.R_far (p := ⟨aM, 0, none⟩) (Kd.R_mono ac.out (fun k_ hk => (⟨hk, hk.2⟩ : _ ∧ k_ ≠ aM))) (fun _ hk => hk.2) (.int .i64 bn)) (fun _ h_ => h_.1))) (by decide)) hk (fun _ h => h.2)) (fun _ h => h.1)); replace l := am (KeepBut.blk hk (g' := aZ) (o := .cells #[.slice none 0 0, .slice none 0 0] 47 (0, 0)) (Ap1 l cv) aY.out (by simp)); replace M := am (KeepBut.blk hk (g' := bj) (o := .cells #[a2, .slice none 0 0] 47 (0, 0)) (Ap1 M cx) aU.out (by simp)); replace a3 := am (KeepBut.blk hk (g' := aM) (o := .cells #[.int .i64 bn, .int .i64 0, .string (⟨#[]⟩ : ByteArray)] 83 (0, 0)) (Ap0 a3) cS.out (by simp)); replace HB := am hb; replace B := am hi; obtain ⟨eb, ec, ed, eh, ei, ej⟩ := cf3 a3) | ((with_reducible refine gate_callee (f := 68) rfl ?_); refine gM (some 27) Try.func68 (impl_scan_short.calls k1 ak d4 d5 d6 bP eR eS eT w _ B26x3_ (Ae4 HB (IsS92.gf B) ai al cd) ft.out) ?_; rintro g3 ⟨hi, hb, hk⟩; replace ac := am (Kd.R_mono (Kd.R_keep (IsS92.apart (show IsS92 w _ ak d4 d5 d6 from B26x3_) (by (with_reducible repeat (first | apply Kd.R_alloc | apply Kd.R_drewN | apply Kd.R_drew)); exact (Kd.R_mono (Kd.R_far (p := ⟨aM, 1, none⟩) (Kd.R_mono ac.out (fun k_ hk => (⟨hk, hk.2⟩ : _ ∧ k_ ≠ aM))) (fun _ hk => hk.2) (.int .i64 bG)) (fun _ h_ => h_.1))) (by decide)) hk (fun _ h => h.2)) (fun _ h => h.1)); replace l := am (KeepBut.blk hk (g' := aZ) (o := .cells #[.slice none 0 0, .slice none 0 0] 47 (0, 0)) (Ap1 l cv) aY.out (by simp)); replace M := am (KeepBut.blk hk (g' := bj) (o := .cells #[a2, .slice none 0 0] 47 (0, 0)) (Ap1 M cx) aU.out (by simp)); replace a3 := am (KeepBut.blk hk (g' := aM) (o := .cells #[.int .i64 bn, .int .i64 bG, .string (⟨#[]⟩ : ByteArray)] 83 (0, 0)) (Ap0 a3) cS.out (by simp)); replace HB := am hb; replace B := am hi; obtain ⟨eb, ec, ed, eh, ei, ej⟩ := cf3 a3; have h2 := cg.out; have ip := bv.out; have h3 := aU.out; have iq := bw.out; obtain ⟨b8, b9, ca, cc⟩ := cf2 M) | ((with_reducible refine gate_builtin (b := .append) (xs := #[.tmp 30, .tmp 32]) rfl ?_); at_builtin; refine Kd.R_append k83 (w0 := w) w.heap.size rfl (.tmp 30) (.tmp 32) 44 83 (.agg #[(.int .i64 0), (.int .i64 0), (.string ⟨#[]⟩)]) 32 rfl Try.underlying44 info83 rfl (by decide) (by omega) a2 br (⟨bn, bG, bP⟩ : S83) [.int .i64 bn, .int .i64 bG, .string bP] (fun k_ => k_ ≠ aM) (fun _ => False) rfl gs_ ?aP (fun _ hk => hk.elim) ?aF ?aO ?aB ?aS ?aL ?_; (case aP => exact k83_mkM _ _ _ (⟨bn, bG, bP⟩ : S83)); (case aB => exact (Ae4 HB (IsS92.gf B) ai al cd)); (case aF => exact (fun k_ hk => Kd.freshB (g := aM) (o := .cells #[.int .i64 bn, .int .i64 bG, .string bP] 83 (0, 0)) (Ap0 a3) k_ hk)); (case aO => (with_reducible repeat (first | apply Kd.R_alloc | apply Kd.R_drewN | apply Kd.R_drew)); exact Kd.R_mono (Kd.R_far (p := ⟨aM, 2, none⟩) (Kd.R_mono ac.out (fun k_ hk => (⟨hk, hk.2⟩ : _ ∧ k_ ≠ aM))) (fun _ hk => hk.2) (.string bP)) (fun _ hk => hk.1.2)); (case aS => exact (below_size (Ae4 HB (IsS92.gf B) ai al cd))); (case aL => have := fH.out; omega); intro iL iV ho hb hg hat; rw [← fR.out] at ho; replace l := am (blk_grown (g := aZ) (o := .cells #[.slice none 0 0, .slice none 0 0] 47 (0, 0)) (Ap1 l cv) hg (Kd.R_ne ac.out l.out (by decide))); replace M := am (blk_grown (g := bj) (o := .cells #[a2, .slice none 0 0] 47 (0, 0)) (Ap1 M cx) hg (Kd.R_ne ac.out M.out (by decide))); replace B := am (IsS92.grown (IsS92.far B.out dH.out _) hg (IsS92.own_ne B.out ac.out (by decide))); replace a3 := am (blk_grown (g := aM) (o := .cells #[.int .i64 bn, .int .i64 bG, .string bP] 83 (0, 0)) (Ap0 a3) hg (Kd.R_away ac.out (fun _ hk => hk.2))); replace HB := am hb; have er := am ho; clear ac; clear ho hb hg hat; obtain ⟨fA, gx, gF⟩ := Kd.R_slice er.out; subst gF; obtain ⟨b8, b9, ca, cc⟩ := cf2 M))
   go_roundg k1
   case measure => have := aR.out; omega
   case rel => exact ⟨(wrap64 (ds + 1)), eR, eS, eT, e9, (.slice fA e9.length gx), be_, ay, ⟨(by have := aR.out; omega)⟩, ⟨tfg er.out M.out (by decide)⟩, Cp1 l bv, Cp0 M, ⟨B26x3_⟩, Ce4 HB (IsS92.gf B) ai al cd⟩
  ·obtain ⟨⟨eU, eV, eW, eX⟩, fx, aH⟩ := bsi Y; (try dsimp only at aH); replace aH := am aH; clear z Y
   go_wp2_with (first | ((with_reducible refine gate_callee (f := 66) rfl ?_); refine gM (some 37) Try.func66 (impl_scan_count.calls k1 ak b4 b5 b6 8 eU eV eW eX w _ B26x0_ (Ae3 HB (IsS92.gf B) ai al) fx.out) ?_; rintro iX ⟨hi, hb, hk⟩; replace ac := am (Kd.R_mono (Kd.R_keep (IsS92.apart (show IsS92 w _ ak b4 b5 b6 from B26x0_) (Ar ac) (by decide)) hk (fun _ h => h.2)) (fun _ h => h.1)); replace l := kA hk l aY; replace M := kA hk M aU; replace HB := am hb; replace B := am hi))
   go_loopg [39] k1 (fun kq g1 w' => ∃ (dt : Int) (a6 : ByteArray) (a7 : Int) (a8 : Bool) (bR : List (S81)) (bQ : Value), g1 = .int .i64 dt ∧ Aside0 (impl_ReadKeep.l1 kq eU dt a6 a7 a8 br bR = some (r1, r2, r3)) ∧ Aside0 (kq ≤ k1) ∧ Aside0 (Kd.R k83 83 w' w.heap.size (fun _ => True) a2 br) ∧ Aside0 (Kd.R k81 81 w' w.heap.size (fun _ => True) bQ bR) ∧ Aside0 (w'.heap[aZ]? = some (.cells #[(.slice none 0 0), (.slice none 0 0)] 47 (0, 0))) ∧ Aside0 (w'.heap[bj]? = some (.cells #[a2, bQ] 47 (0, 0))) ∧ Aside0 (IsS92 w w' ak a6 a7 a8) ∧ Aside0 (Below w.heap.size w w'))
   case atStart => exact ⟨(0), eV, eW, eX, (([] : List (S81))), (.slice none 0 0), be_, aH, ⟨Nat.le_refl _⟩, Cr ac, ⟨gn_⟩, Cb l, Cb M, ⟨B26x0_⟩, Ce3 HB (IsS92.gf B) ai al⟩
   case round =>
    clear aH
    try clear c10
    try clear ch
    obtain ⟨dt, a6, a7, a8, bR, bQ, rfl, aw, cu, ac, ah, l, M, B, HB⟩ := hrel
    cases gk with
    | zero => exact absurd aw.out (by simp [impl_ReadKeep.l1])
    | succ k2 => ?_
    replace aw := aw.out; simp only [impl_ReadKeep.l1] at aw
    obtain ⟨eE, aA⟩ | ⟨eE, aA⟩ := sd aw
    ·obtain ⟨⟨bk, dj, dk, dl⟩, dw, aT⟩ := bsi aA; (try dsimp only at aT); obtain ⟨⟨bo, dm, dn, dp⟩, fz, aX⟩ := bsi aT; (try dsimp only at aX); obtain ⟨⟨bH, eY, eZ, e0⟩, dx, a4⟩ := bsi aX; (try dsimp only at a4); obtain ⟨fI, aG⟩ := ya a4; obtain ⟨fa, cI⟩ : ∃ y_ : List (S81), y_ = (bR ++ [(⟨bk, bo, bH⟩ : S81)]) := ⟨_, rfl⟩
     (first | with_reducible replace aG := hq cI aG | rw [← cI] at aG | simp only [← cI] at aG)
     have fS := am cI; clear cI; replace aG := am aG; clear aw aA aT aX a4
     go_wp2_with (first | ((with_reducible refine gate_dst (N := 9) rfl ?_); refine bx (N := 9) (cs := #[.string (⟨#[]⟩ : ByteArray), .string (⟨#[]⟩ : ByteArray), .int .i64 0]) (t := 81) ?_; intro aC hg iY hbox hb; replace ac := rA ac hb; replace ah := am (Kd.R_below (Kd.R_elderB (Ar ah) aC (Nat.le_of_eq hg.symm)) hb); have aI := am hbox; have ce := gA hg HB; replace HB := De3 HB (IsS92.gf B) ai al hb; have cw := nA hg l; have fN := mA hg l; replace l := bA l hb; have cy := nA hg M; have fO := mA hg M; replace M := bA M hb; have dI := am (nl hg (IsS92.lt B.out)); have cT := am (ng hg (IsS92.lt B.out)); replace B := am (IsS92.below B26x0_ hb); clear hb hbox hg; have h4 := fN.out; have ir := cw.out; have gR := fO.out; have gU := cy.out; have h5 := cT.out; have iu := dI.out; obtain ⟨ee, ef, eg, ek, el, em⟩ := cf3 aI) | ((with_reducible refine gate_callee (f := 68) rfl ?_); refine gM (some 43) Try.func68 (impl_scan_short.calls k2 ak a6 a7 a8 bk dj dk dl w _ B26x2_ (Ae4 HB (IsS92.gf B) ai al ce) dw.out) ?_; rintro g5 ⟨hi, hb, hk⟩; replace ac := am (Kd.R_mono (Kd.R_keep (IsS92.apart (show IsS92 w _ ak a6 a7 a8 from B26x2_) (tfr ac.out aI.out (by decide)) (by decide)) hk (fun _ h => h.2)) (fun _ h => h.1)); replace ah := am (Kd.R_mono (Kd.R_keep (IsS92.apart (show IsS92 w _ ak a6 a7 a8 from B26x2_) (by (with_reducible repeat (first | apply Kd.R_alloc | apply Kd.R_drewN | apply Kd.R_drew)); exact (Kd.R_mono (Kd.R_far (p := ⟨aC, 2, none⟩) (Kd.R_far (p := ⟨aC, 1, none⟩) (Kd.R_far (p := ⟨aC, 0, none⟩) (Kd.R_mono ah.out (fun k_ hk => (⟨hk, hk.2⟩ : _ ∧ k_ ≠ aC))) (fun _ hk => hk.2) (.string (⟨#[]⟩ : ByteArray))) (fun _ hk => hk.2) (.string (⟨#[]⟩ : ByteArray))) (fun _ hk => hk.2) (.int .i64 0)) (fun _ h_ => h_.1))) (by decide)) hk (fun _ h => h.2)) (fun _ h => h.1)); replace l := am (KeepBut.blk hk (g' := aZ) (o := .cells #[.slice none 0 0, .slice none 0 0] 47 (0, 0)) (Ap1 l cw) aY.out (by simp)); replace M := am (KeepBut.blk hk (g' := bj) (o := .cells #[a2, bQ] 47 (0, 0)) (Ap1 M cy) aU.out (by simp)); replace aI := am (KeepBut.blk hk (g' := aC) (o := .cells #[.string (⟨#[]⟩ : ByteArray), .string (⟨#[]⟩ : ByteArray), .int .i64 0] 81 (0, 0)) (Ap0 aI) cT.out (by simp)); replace HB := am hb; replace B := am hi; obtain ⟨ee, ef, eg, ek, el, em⟩ := cf3 aI) | ((with_reducible refine gate_callee (f := 68) rfl ?_); refine gM (some 46) Try.func68 (impl_scan_short.calls k2 ak dj dk dl bo dm dn dp w _ B26x2_ (Ae4 HB (IsS92.gf B) ai al ce) fz.out) ?_; rintro g6 ⟨hi, hb, hk⟩; replace ac := am (Kd.R_mono (Kd.R_keep (IsS92.apart (show IsS92 w _ ak dj dk dl from B26x2_) (tr (Kd.R_mono (Kd.R_far (p := ⟨aC, 0, none⟩) (Kd.R_types ac.out aI.out (by decide)) (fun _ hk => hk.2) (.string bk)) (fun _ h_ => h_.1))) (by decide)) hk (fun _ h => h.2)) (fun _ h => h.1)); replace ah := am (Kd.R_mono (Kd.R_keep (IsS92.apart (show IsS92 w _ ak dj dk dl from B26x2_) (by (with_reducible repeat (first | apply Kd.R_alloc | apply Kd.R_drewN | apply Kd.R_drew)); exact (Kd.R_mono (Kd.R_far (p := ⟨aC, 0, none⟩) (Kd.R_mono ah.out (fun k_ hk => (⟨hk, hk.2⟩ : _ ∧ k_ ≠ aC))) (fun _ hk => hk.2) (.string bk)) (fun _ h_ => h_.1))) (by decide)) hk (fun _ h => h.2)) (fun _ h => h.1)); replace l := am (KeepBut.blk hk (g' := aZ) (o := .cells #[.slice none 0 0, .slice none 0 0] 47 (0, 0)) (Ap1 l cw) aY.out (by simp)); replace M := am (KeepBut.blk hk (g' := bj) (o := .cells #[a2, bQ] 47 (0, 0)) (Ap1 M cy) aU.out (by simp)); replace aI := am (KeepBut.blk hk (g' := aC) (o := .cells #[.string bk, .string (⟨#[]⟩ : ByteArray), .int .i64 0] 81 (0, 0)) (Ap0 aI) cT.out (by simp)); replace HB := am hb; replace B := am hi; obtain ⟨ee, ef, eg, ek, el, em⟩ := cf3 aI) | ((with_reducible refine gate_callee (f := 67) rfl ?_); refine gM (some 49) Try.func67 (impl_scan_number.calls k2 ak dm dn dp bH eY eZ e0 w _ B26x2_ (Ae4 HB (IsS92.gf B) ai al ce) dx.out) ?_; rintro i1 ⟨hi, hb, hk⟩; replace ac := am (Kd.R_mono (Kd.R_keep (IsS92.apart (show IsS92 w _ ak dm dn dp from B26x2_) (tr (Kd.R_mono (Kd.R_far (p := ⟨aC, 1, none⟩) (Kd.R_types ac.out aI.out (by decide)) (fun _ hk => hk.2) (.string bo)) (fun _ h_ => h_.1))) (by decide)) hk (fun _ h => h.2)) (fun _ h => h.1)); replace ah := am (Kd.R_mono (Kd.R_keep (IsS92.apart (show IsS92 w _ ak dm dn dp from B26x2_) (by (with_reducible repeat (first | apply Kd.R_alloc | apply Kd.R_drewN | apply Kd.R_drew)); exact (Kd.R_mono (Kd.R_far (p := ⟨aC, 1, none⟩) (Kd.R_mono ah.out (fun k_ hk => (⟨hk, hk.2⟩ : _ ∧ k_ ≠ aC))) (fun _ hk => hk.2) (.string bo)) (fun _ h_ => h_.1))) (by decide)) hk (fun _ h => h.2)) (fun _ h => h.1)); replace l := am (KeepBut.blk hk (g' := aZ) (o := .cells #[.slice none 0 0, .slice none 0 0] 47 (0, 0)) (Ap1 l cw) aY.out (by simp)); replace M := am (KeepBut.blk hk (g' := bj) (o := .cells #[a2, bQ] 47 (0, 0)) (Ap1 M cy) aU.out (by simp)); replace aI := am (KeepBut.blk hk (g' := aC) (o := .cells #[.string bk, .string bo, .int .i64 0] 81 (0, 0)) (Ap0 aI) cT.out (by simp)); replace HB := am hb; replace B := am hi; obtain ⟨ee, ef, eg, ek, el, em⟩ := cf3 aI; have h6 := cg.out; have iv := bv.out; have h7 := aU.out; have iw := bw.out; obtain ⟨b8, b9, ca, cc⟩ := cf2 M) | ((with_reducible refine gate_builtin (b := .append) (xs := #[.tmp 52, .tmp 54]) rfl ?_); at_builtin; refine Kd.R_append k81 (w0 := w) w.heap.size rfl (.tmp 52) (.tmp 54) 45 81 (.agg #[(.string ⟨#[]⟩), (.string ⟨#[]⟩), (.int .i64 0)]) 40 rfl Try.underlying45 info81 rfl (by decide) (by omega) bQ bR (⟨bk, bo, bH⟩ : S81) [.string bk, .string bo, .int .i64 bH] (fun k_ => k_ ≠ aC) (fun _ => False) rfl gs_ ?aP (fun _ hk => hk.elim) ?aF ?aO ?aB ?aS ?aL ?_; (case aP => exact k81_mkM _ _ _ (⟨bk, bo, bH⟩ : S81)); (case aB => exact (Ae4 HB (IsS92.gf B) ai al ce)); (case aF => exact (fun k_ hk => Kd.freshB (g := aC) (o := .cells #[.string bk, .string bo, .int .i64 bH] 81 (0, 0)) (Ap0 aI) k_ hk)); (case aO => (with_reducible repeat (first | apply Kd.R_alloc | apply Kd.R_drewN | apply Kd.R_drew)); exact Kd.R_mono (Kd.R_far (p := ⟨aC, 2, none⟩) (Kd.R_mono ah.out (fun k_ hk => (⟨hk, hk.2⟩ : _ ∧ k_ ≠ aC))) (fun _ hk => hk.2) (.int .i64 bH)) (fun _ hk => hk.1.2)); (case aS => exact (below_size (Ae4 HB (IsS92.gf B) ai al ce))); (case aL => have := fI.out; omega); intro iM i4 ho hb hg hat; rw [← fS.out] at ho; replace ac := am (Kd.R_over' (tfg ac.out aI.out (by decide)) (Kd.R_typed (by (with_reducible repeat (first | apply Kd.R_alloc | apply Kd.R_drewN | apply Kd.R_drew)); exact (Kd.R_mono (Kd.R_far (p := ⟨aC, 2, none⟩) (Kd.R_mono ah.out (fun k_ hk => (⟨hk, hk.2⟩ : _ ∧ k_ ≠ aC))) (fun _ hk => hk.2) (.int .i64 bH)) (fun _ h_ => h_.1)))) (by decide) hg); replace l := am (blk_grown (g := aZ) (o := .cells #[.slice none 0 0, .slice none 0 0] 47 (0, 0)) (Ap1 l cw) hg (Kd.R_ne ah.out l.out (by decide))); replace M := am (blk_grown (g := bj) (o := .cells #[a2, bQ] 47 (0, 0)) (Ap1 M cy) hg (Kd.R_ne ah.out M.out (by decide))); replace B := am (IsS92.grown (IsS92.far B.out dI.out _) hg (IsS92.own_ne B.out ah.out (by decide))); replace aI := am (blk_grown (g := aC) (o := .cells #[.string bk, .string bo, .int .i64 bH] 81 (0, 0)) (Ap0 aI) hg (Kd.R_away ah.out (fun _ hk => hk.2))); replace HB := am hb; have et := am ho; clear ah; clear ho hb hg hat; obtain ⟨fB, gy, gG⟩ := Kd.R_slice et.out; subst gG; obtain ⟨b8, b9, ca, cc⟩ := cf2 M))
     go_roundg k2
     case measure => have := aR.out; have := cu.out; omega
     case rel => exact ⟨(wrap64 (dt + 1)), eY, eZ, e0, fa, (.slice fB fa.length gy), be_, aG, ⟨(by have := aR.out; have := cu.out; omega)⟩, ⟨tfg ac.out M.out (by decide)⟩, ⟨tfg et.out M.out (by decide)⟩, Cp1 l bv, Cp0 M, ⟨B26x2_⟩, Ce4 HB (IsS92.gf B) ai al ce⟩
    ·obtain ⟨⟨iK, d7, d8, d9⟩, dy, a5⟩ := bsi aA; (try dsimp only at a5)
     obtain ⟨rfl, a9⟩ | ⟨rfl, a9⟩ := sb a5
     ·obtain ⟨e1, en, bW⟩ := bsi a9; (try dsimp only at bW)
      obtain ⟨rfl, bu⟩ | ⟨rfl, bu⟩ := sb bW
      ·obtain ⟨rfl, rfl, rfl⟩ := s3 bu; clear bu aw aA a5 a9 bW
       go_wp2_with (first | ((with_reducible refine gate_callee (f := 69) rfl ?_); refine gM (some 59) Try.func69 (impl_scan_done.calls ak a6 a7 a8 true d7 d8 d9 w _ B26x0_ (Ae3 HB (IsS92.gf B) ai al) dy.out) ?_; rintro i5 ⟨hi, hb, hk⟩; replace ac := am (Kd.R_mono (Kd.R_keep (IsS92.apart (show IsS92 w _ ak a6 a7 a8 from B26x0_) (Ar ac) (by decide)) hk (fun _ h => h.2)) (fun _ h => h.1)); replace ah := am (Kd.R_mono (Kd.R_keep (IsS92.apart (show IsS92 w _ ak a6 a7 a8 from B26x0_) (Ar ah) (by decide)) hk (fun _ h => h.2)) (fun _ h => h.1)); replace l := kA hk l aY; replace M := kA hk M aU; replace HB := am hb; replace B := am hi; have h9 := cg.out; have iy := bv.out; have ia := aU.out; have iz := bw.out; obtain ⟨b8, b9, ca, cc⟩ := cf2 M; obtain ⟨fC, gB, gH⟩ := Kd.R_slice ac.out; subst gH; obtain ⟨fD, gC, gI⟩ := Kd.R_slice ah.out; subst gI) | (go_at_call 63; refine (impl_KeepOk.calls k2 _ _ br _ _ bR true _ B26x22_ ((Kd.R_reads' ac.out).2.1) B26x23_ ((Kd.R_reads' ah.out).2.1) en.out).mono ?_; rintro e i6 ⟨rfl, hb⟩; replace ac := rA ac hb; replace ah := rA ah hb; replace l := bA l hb; replace M := bA M hb; replace HB := De3 HB (IsS92.gf B) ai al hb; replace B := am (IsS92.below B26x0_ hb); obtain ⟨b8, b9, ca, cc⟩ := cf2 M; have ib := aY.out; have iA := cf.out; obtain ⟨fe, ff, fm, fn⟩ := cf2 l))
       refine bodyPost_ret (results_ct rfl _ _ aZ 47 #[.slice fC br.length gB, .slice fD bR.length gC] (0, 0) _ rfl (Ap0 l) Try.underlying47 rfl gk_) rfl ?_; exact ⟨_, _, B25x4_, (tfg ac.out l.out (by decide)), (tfg ah.out l.out (by decide)), (Ae3 HB (IsS92.gf B) ai al)⟩
      ·obtain ⟨rfl, rfl, rfl⟩ := s3 bu; clear bu aw aA a5 a9 bW
       go_wp2_with (first | ((with_reducible refine gate_callee (f := 69) rfl ?_); refine gM (some 59) Try.func69 (impl_scan_done.calls ak a6 a7 a8 true d7 d8 d9 w _ B26x0_ (Ae3 HB (IsS92.gf B) ai al) dy.out) ?_; rintro i7 ⟨hi, hb, hk⟩; replace ac := am (Kd.R_mono (Kd.R_keep (IsS92.apart (show IsS92 w _ ak a6 a7 a8 from B26x0_) (Ar ac) (by decide)) hk (fun _ h => h.2)) (fun _ h => h.1)); replace ah := am (Kd.R_mono (Kd.R_keep (IsS92.apart (show IsS92 w _ ak a6 a7 a8 from B26x0_) (Ar ah) (by decide)) hk (fun _ h => h.2)) (fun _ h => h.1)); replace l := kA hk l aY; replace M := kA hk M aU; replace HB := am hb; replace B := am hi; have ie := cg.out; have iC := bv.out; have ig := aU.out; have iD := bw.out; obtain ⟨b8, b9, ca, cc⟩ := cf2 M; obtain ⟨hm, hR, gJ⟩ := Kd.R_slice ac.out; subst gJ; obtain ⟨hn, hS, gN⟩ := Kd.R_slice ah.out; subst gN) | (go_at_call 63; refine (impl_KeepOk.calls k2 _ _ br _ _ bR false _ B26x22_ ((Kd.R_reads' ac.out).2.1) B26x23_ ((Kd.R_reads' ah.out).2.1) en.out).mono ?_; rintro e i9 ⟨rfl, hb⟩; replace ac := rA ac hb; replace ah := rA ah hb; replace l := bA l hb; replace M := bA M hb; replace HB := De3 HB (IsS92.gf B) ai al hb; replace B := am (IsS92.below B26x0_ hb); have ih := aY.out; have iE := cf.out; obtain ⟨fe, ff, fm, fn⟩ := cf2 l))
       refine bodyPost_ret (results_ct rfl _ _ aZ 47 #[.slice none 0 0, .slice none 0 0] (0, 0) _ rfl (Ap0 l) Try.underlying47 rfl gk_) rfl ?_; exact ⟨_, _, B25x4_, gn_, gn_, (Ae3 HB (IsS92.gf B) ai al)⟩
     ·obtain ⟨rfl, rfl, rfl⟩ := s3 a9; clear a9 aw aA a5
      go_wp2_with (first | ((with_reducible refine gate_callee (f := 69) rfl ?_); refine gM (some 59) Try.func69 (impl_scan_done.calls ak a6 a7 a8 false d7 d8 d9 w _ B26x0_ (Ae3 HB (IsS92.gf B) ai al) dy.out) ?_; rintro ja ⟨hi, hb, hk⟩; replace l := kA hk l aY; replace HB := am hb; replace B := am hi; have ii := bv.out; have iF := cg.out; have ij := aY.out; have iG := cf.out; obtain ⟨fe, ff, fm, fn⟩ := cf2 l))
      refine bodyPost_ret (results_ct rfl _ _ aZ 47 #[.slice none 0 0, .slice none 0 0] (0, 0) _ rfl (Ap0 l) Try.underlying47 rfl gk_) rfl ?_; exact ⟨_, _, B25x4_, gn_, gn_, (Ae3 HB (IsS92.gf B) ai al)⟩

def spec_l01Var.l0 : Nat → Int → List Int → Option (ByteArray)
 | 0, _, _ => none
 | k + 1, x0, x3 => if x0 > 127 then (if x3.length < 140737488355328 then (spec_l01Var.l0 k (wrap64 (Int.tdiv x0 128)) (x3 ++ [(wrap64 ((Int.tmod x0 128) + 128)) % 256])) else (none)) else (if x3.length < 140737488355328 then (some (strOfNums (x3 ++ [(x0) % 256]))) else (none))
def spec_l01Var.f (k : Nat) (j : Int) : Option (ByteArray) := spec_l01Var.l0 k j (([] : List Int))
theorem spec_l01Var.calls (k : Nat) (j : Int) (r : ByteArray) (w : World) (h : spec_l01Var.f k j = some r) :
  Calls Try.prog 59 #[.int .i64 j] w fun e w' => e = .returned (.string r) ∧ Below w.heap.size w w' := by
 have HB := am (Below.refl w.heap.size w)
 have J := h
 clear h
 unfold spec_l01Var.f at J
 obtain ⟨g8, cJ⟩ : ∃ y_ : List Int, y_ = (([] : List Int)) := ⟨_, rfl⟩
 (first | with_reducible replace J := hq cJ J | rw [← cJ] at J | simp only [← cJ] at J)
 have ey := am cJ
 clear cJ
 replace J := am J
 go_enter Try.func59, Try.ntmps59
 go_wp2_with (first | ((with_reducible refine gate_dst (N := 4) rfl ?_); refine lL (Kd.int .u8) 5 4 ([] : List Int) [] (Reps.none _ _) ?_; intro iN w2 cF hb; (first | rw [← ey.out] at cF | (simp only [Int.reduceToNat] at cF; rw [← ey.out] at cF)); have fE := am (Kd.R_lower cF (below_size (Ae0 HB))); replace HB := hA HB hb; clear hb cF))
 go_loopg [0, 3] k (fun kq v0 v3 w' => ∃ (be : Int) (b3 : List Int), v0 = .int .i64 be ∧ Aside0 (spec_l01Var.l0 kq be b3 = some r) ∧ Aside0 (kq ≤ k) ∧ Aside0 (Kd.R (Kd.int .u8) 5 w' w.heap.size (fun _ => True) v3 b3) ∧ Aside0 (Below w.heap.size w w'))
 case atStart => exact ⟨(j), g8, be_, J, ⟨Nat.le_refl _⟩, Cr fE, Ce0 HB⟩
 case round =>
  clear J; obtain ⟨be, b3, rfl, D, aR, cR, HB⟩ := hrel
  cases gk with
  | zero => exact absurd D.out (by simp [spec_l01Var.l0])
  | succ k1 => ?_
  replace D := D.out; simp only [spec_l01Var.l0] at D
  obtain ⟨c4, z⟩ | ⟨c4, z⟩ := sp D
  ·have dN : decide (127 < be) = true := decide_eq_true c4
   clear c4; obtain ⟨fJ, Y⟩ := ya z; obtain ⟨g9, cK⟩ : ∃ y_ : List Int, y_ = (b3 ++ [(wrap64 ((Int.tmod be 128) + 128)) % 256]) := ⟨_, rfl⟩
   (first | with_reducible replace Y := hq cK Y | rw [← cK] at Y | simp only [← cK] at Y)
   have fT := am cK; clear cK; replace Y := am Y; clear D z
   go_wp2_with (first | ((with_reducible refine gate_builtin (b := .append) (xs := #[.tmp 7, .tmp 12]) rfl ?_); at_builtin; refine Kd.R_append (Kd.int .u8) (w0 := w) w.heap.size rfl (.tmp 7) (.tmp 12) 22 5 (.int .u8 0) 1 rfl Try.underlying22 info5 rfl (by decide) (by omega) u3 b3 ((wrap64 ((Int.tmod be 128) + 128)) % 256) [.int .u8 ((wrap64 ((Int.tmod be 128) + 128)) % 256)] (fun _ => True) (fun _ => False) rfl rfl ?aP (fun _ hk => hk.elim) ?aF ?aO ?aB ?aS ?aL ?_; (case aP => exact rfl); (case aB => exact (Ae0 HB)); (case aF => exact (fun _ _ => trivial)); (case aO => exact (Ar cR)); (case aS => exact (below_size (Ae0 HB))); (case aL => have := fJ.out; omega); intro iO w6 ho hb hg hat; rw [← fT.out] at ho; replace HB := am hb; have fF := am ho; clear cR; clear ho hb hg hat))
   go_roundg k1
   case measure => have := aR.out; omega
   case rel => exact ⟨(wrap64 (Int.tdiv be 128)), g9, be_, Y, ⟨(by have := aR.out; omega)⟩, Cr fF, Ce0 HB⟩
  ·have dN : decide (127 < be) = false := decide_eq_false c4
   clear c4; obtain ⟨fK, ae⟩ := ya z; obtain ⟨jb, cL⟩ : ∃ y_ : List Int, y_ = (b3 ++ [(be) % 256]) := ⟨_, rfl⟩
   (first | with_reducible replace ae := hq cL ae | rw [← cL] at ae | simp only [← cL] at ae)
   have fU := am cL; clear cL; obtain rfl := Option.some.inj ae; clear ae D z
   go_wp2_with (first | ((with_reducible refine gate_builtin (b := .append) (xs := #[.tmp 16, .tmp 19]) rfl ?_); at_builtin; refine Kd.R_append (Kd.int .u8) (w0 := w) w.heap.size rfl (.tmp 16) (.tmp 19) 22 5 (.int .u8 0) 1 rfl Try.underlying22 info5 rfl (by decide) (by omega) u3 b3 ((be) % 256) [.int .u8 ((be) % 256)] (fun _ => True) (fun _ => False) rfl rfl ?aP (fun _ hk => hk.elim) ?aF ?aO ?aB ?aS ?aL ?_; (case aP => exact rfl); (case aB => exact (Ae0 HB)); (case aF => exact (fun _ _ => trivial)); (case aO => exact (Ar cR)); (case aS => exact (below_size (Ae0 HB))); (case aL => have := fK.out; omega); intro iP w8 ho hb hg hat; rw [← fU.out] at ho; replace HB := am hb; have fG := am ho; clear cR; clear ho hb hg hat; have hT := own_string (P := Try.prog) Try.underlying22 Try.underlying5 Try.underlying9 (Kd.own_of_R fG.out)))
   go_ret; exact ⟨B25x4_, (Ae0 HB)⟩

def spec_l16Short.f (k : Nat) (j : ByteArray) : Option (ByteArray) := (spec_l01Var.f k (j.size : Int)).bind fun cM => (if cM.size + j.size ≤ 9223372036854775807 then (some (cM ++ j)) else (none))
theorem spec_l16Short.calls (k : Nat) (j : ByteArray) (r : ByteArray) (w : World) (h : spec_l16Short.f k j = some r) :
  Calls Try.prog 60 #[.string j] w fun e w' => e = .returned (.string r) ∧ Below w.heap.size w w' := by
 have HB := am (Below.refl w.heap.size w)
 have J := h
 clear h
 unfold spec_l16Short.f at J
 obtain ⟨cM, A2, D⟩ := bsi J
 (try dsimp only at D)
 obtain ⟨c3, z⟩ := yn D
 have hJ := eq_true c3
 have hL := decide_eq_true c3
 try have gs : (9223372036854775807 < cM.size + j.size) = False := eq_false (Nat.not_lt.2 c3)
 try (have gu := gs; simp only [ByteArray.size_append] at gu)
 obtain rfl := Option.some.inj z
 clear z J D
 go_enter Try.func60, Try.ntmps60
 go_wp2_with (first | ((with_reducible refine gate_callee (f := 59) rfl ?_); refine gM (some 5) Try.func59 (spec_l01Var.calls k (j.size : Int) cM _ A2.out) ?_; rintro w4 hb; replace HB := hA HB hb))
 go_ret
 exact ⟨B25x4_, (Ae0 HB)⟩
mutual
def spec_KeepText.l0 : Nat → ByteArray → Int → List (S83) → List (S81) → Option (ByteArray × Bool)
 | 0, _, _, _, _ => none
 | k + 1, x4, x5, bS, bJ => if x5 < (bS.length : Int) then (if 0 ≤ x5 then ((spec_l01Var.f k ((rd_T83 bS x5).f0)).bind fun ba => (if x4.size + ba.size ≤ 9223372036854775807 then ((spec_l01Var.f k ((rd_T83 bS x5).f1)).bind fun bp => (if (x4 ++ ba).size + bp.size ≤ 9223372036854775807 then ((spec_l16Short.f k ((rd_T83 bS x5).f2)).bind fun b1 => (if ((x4 ++ ba) ++ bp).size + b1.size ≤ 9223372036854775807 then (spec_KeepText.l0 k (((x4 ++ ba) ++ bp) ++ b1) (wrap64 (x5 + 1)) bS bJ) else (none))) else (none))) else (none))) else (none)) else ((spec_l01Var.f k (bJ.length : Int)).bind fun ck => (if x4.size + ck.size ≤ 9223372036854775807 then (spec_KeepText.l1 k (x4 ++ ck) 0 bS bJ) else (none)))
def spec_KeepText.l1 : Nat → ByteArray → Int → List (S83) → List (S81) → Option (ByteArray × Bool)
 | 0, _, _, _, _ => none
 | k + 1, x4, x7, bS, bJ => if x7 < (bJ.length : Int) then (if 0 ≤ x7 then ((spec_l16Short.f k ((rd_T81 bJ x7).f0)).bind fun bd => (if x4.size + bd.size ≤ 9223372036854775807 then ((spec_l16Short.f k ((rd_T81 bJ x7).f1)).bind fun bq => (if (x4 ++ bd).size + bq.size ≤ 9223372036854775807 then ((spec_l01Var.f k ((rd_T81 bJ x7).f2)).bind fun b2 => (if ((x4 ++ bd) ++ bq).size + b2.size ≤ 9223372036854775807 then (spec_KeepText.l1 k (((x4 ++ bd) ++ bq) ++ b2) (wrap64 (x7 + 1)) bS bJ) else (none))) else (none))) else (none))) else (none)) else (some (x4, true))
end
def spec_KeepText.f (k : Nat) (ad : List (S83)) (af : List (S81)) : Option (ByteArray × Bool) := (spec_KeepOk.f k ad af).bind fun e2 => (if e2 = true then ((spec_l01Var.f k (ad.length : Int)).bind fun dq => (spec_KeepText.l0 k dq 0 ad af)) else (some ((⟨#[]⟩ : ByteArray), false)))
def spec_KeepText.T8 : Bool × List (List Nat × List Nat) := (true, [([], []), ([], []), ([1], [1]), ([2], [2]), ([0, 3], [0, 3]), ([], []), ([5], [5]), ([6, 3], [6]), ([4, 7], [4, 7]), ([], []), ([9], [9]), ([10, 7], [10]), ([8, 11], [8, 11]), ([12, 11, 0, 1, 2, 3, 4, 5, 6, 7, 8, 9, 10, 11, 12], [0, 12])])
def spec_KeepText.B8 : List Nat := [0, 0, 2, 6, 15, 0, 32, 110, 255, 0, 512, 1774, 4095, 8191]
theorem spec_KeepText.tab8 : rtab .any (opsOf Try.f22 8) = spec_KeepText.T8 := by kernel_rfl
theorem spec_KeepText.bits8 : waitsOk spec_KeepText.T8.2 spec_KeepText.B8 = true := by kernel_rfl
def spec_KeepText.T14 : Bool × List (List Nat × List Nat) := (true, [([], []), ([], []), ([1], [1]), ([2], [2]), ([0, 3], [0, 3]), ([], []), ([5], [5]), ([6, 3], [6]), ([4, 7], [4, 7]), ([], []), ([9], [9]), ([10, 7], [10]), ([8, 11], [8, 11]), ([12, 11, 0, 1, 2, 3, 4, 5, 6, 7, 8, 9, 10, 11, 12], [0, 12])])
def spec_KeepText.B14 : List Nat := [0, 0, 2, 6, 15, 0, 32, 110, 255, 0, 512, 1774, 4095, 8191]
theorem spec_KeepText.tab14 : rtab .any (opsOf Try.f22 14) = spec_KeepText.T14 := by kernel_rfl
theorem spec_KeepText.bits14 : waitsOk spec_KeepText.T14.2 spec_KeepText.B14 = true := by kernel_rfl
theorem spec_KeepText.calls (k : Nat) (bT : Option Addr) (bL : Nat) (ad : List (S83)) (bU : Option Addr) (bM : Nat) (af : List (S81)) (r1 : ByteArray) (r2 : Bool) (w : World) (eH : Kd.C k83 w bT ad.length ad) (eF : ad.length ≤ bL) (eI : Kd.C k81 w bU af.length af) (eG : af.length ≤ bM) (h : spec_KeepText.f k ad af = some (r1, r2)) :
  Calls Try.prog 22 #[.agg #[.slice bT ad.length bL, .slice bU af.length bM]] w fun e w' => e = .returned (.tuple #[.string r1, .bool r2]) ∧ Below w.heap.size w w' := by
 have gV := Try.underlying47
 have gX := Try.underlying83
 have gW := Try.underlying81
 have dB := am eH
 have eo := am eF
 clear eH eF
 have dC := am eI
 have ep := am eG
 clear eI eG
 have HB := am (Below.refl w.heap.size w)
 have J := h
 clear h
 unfold spec_KeepText.f at J
 obtain ⟨e2, A2, D⟩ := bsi J
 (try dsimp only at D)
 obtain ⟨rfl, z⟩ | ⟨rfl, z⟩ := sb D
 ·obtain ⟨dq, A4, Y⟩ := bsi z; (try dsimp only at Y); replace Y := am Y; clear J D z; go_enter Try.func22, Try.ntmps22
  go_wp2_with (first | ((with_reducible refine gate_dst (N := 1) rfl ?_); refine bx (N := 1) (cs := #[.slice bT ad.length bL, .slice bU af.length bM]) (t := 47) ?_; intro cC hg w5 hbox hb; have U := am hbox; have az := gA hg HB; replace HB := hA HB hb; clear hb hbox hg; obtain ⟨cl, cm, cn, co⟩ := cf2 U) | ((with_reducible refine gate_callee (f := 28) rfl ?_); refine gM (some 10) Try.func28 (spec_KeepOk.calls k _ _ ad _ _ af true _ (tc (Kd.C_below dB.out HB.out)) eo.out (tc (Kd.C_below dC.out HB.out)) ep.out A2.out) ?_; rintro w7 hb; replace U := bA U hb; replace HB := De1 HB az hb; obtain ⟨cl, cm, cn, co⟩ := cf2 U) | ((with_reducible refine gate_callee (f := 59) rfl ?_); refine gM (some 15) Try.func59 (spec_l01Var.calls k (ad.length : Int) dq _ A4.out) ?_; rintro w9 hb; replace U := bA U hb; replace HB := De1 HB az hb))
  go_loopg [4, 5] k (fun kq v4 v5 w' => ∃ (bl : ByteArray) (aD : Int), v4 = .string bl ∧ v5 = .int .i64 aD ∧ Aside0 (spec_KeepText.l0 kq bl aD ad af = some (r1, r2)) ∧ Aside0 (kq ≤ k) ∧ Aside0 (w'.heap[cC]? = some (.cells #[(.slice bT ad.length bL), (.slice bU af.length bM)] 47 (0, 0))) ∧ Aside0 (Below w.heap.size w w'))
  case atStart => exact ⟨(dq), 0, be_, be_, Y, ⟨Nat.le_refl _⟩, Cb U, Ce1 HB az⟩
  case round =>
   clear Y
   try clear c3
   obtain ⟨bl, aD, rfl, rfl, ae, aR, U, HB⟩ := hrel
   cases gk with
   | zero => exact absurd ae.out (by simp [spec_KeepText.l0])
   | succ k1 => ?_
   replace ae := ae.out; simp only [spec_KeepText.l0] at ae
   obtain ⟨ch, ap⟩ | ⟨ch, ap⟩ := sd ae
   ·obtain ⟨hp, ax⟩ := yd ap; obtain ⟨ba, dv, ay⟩ := bsi ax; (try dsimp only at ay); obtain ⟨dL, aH⟩ := yn ay; have fY := eq_true dL; have fZ := decide_eq_true dL
    try have f3 : (9223372036854775807 < bl.size + ba.size) = False := eq_false (Nat.not_lt.2 dL)
    try (have f4 := f3; simp only [ByteArray.size_append] at f4)
    obtain ⟨bp, fu, aw⟩ := bsi aH; (try dsimp only at aw); obtain ⟨bm, aA⟩ := yn aw; have ez := eq_true bm; have hs := decide_eq_true bm
    try have f5 : (9223372036854775807 < (bl ++ ba).size + bp.size) = False := eq_false (Nat.not_lt.2 bm)
    try have hu : (9223372036854775807 < bl.size + ba.size + bp.size) = False := eq_false (by have h_ := bm; simp only [ByteArray.size_append, ByteArray.size_extract, decide_eq_true_eq, decide_eq_false_iff_not] at *; omega)
    try (have f6 := f5; simp only [ByteArray.size_append] at f6)
    obtain ⟨b1, fv, aT⟩ := bsi aA; (try dsimp only at aT); obtain ⟨bz, aX⟩ := yn aT; have eB := eq_true bz; have eC := decide_eq_true bz
    try have f8 : (9223372036854775807 < ((bl ++ ba) ++ bp).size + b1.size) = False := eq_false (Nat.not_lt.2 bz)
    try have hv : (9223372036854775807 < bl.size + ba.size + bp.size + b1.size) = False := eq_false (by have h_ := bz; simp only [ByteArray.size_append, ByteArray.size_extract, decide_eq_true_eq, decide_eq_false_iff_not] at *; omega)
    try (have f9 := f8; simp only [ByteArray.size_append] at f9)
    replace aX := am aX; clear ae ap ax ay aH aw aA aT; obtain ⟨cl, cm, cn, co⟩ := cf2 U
    have dV : 0 ≤ (aD : Int) := dga
    have dX : aD < (ad.length : Int) := dga
    obtain ⟨fV, gD, dP, dQ, dR⟩ := at_T83 dB.out aD dV dX; cases gD; replace dP := (hbc HB dP).trans dP; replace dQ := (hbc HB dQ).trans dQ; replace dR := (hbc HB dR).trans dR; replace dV := eq_true dV; replace dX := eq_true dX
    try go_wp2_with (first | ((with_reducible refine gate_dst (N := 6) rfl ?_); refine bx (N := 6) (cs := #[.int .i64 0, .int .i64 0, .string (⟨#[]⟩ : ByteArray)]) (t := 83) ?_; intro bZ hg g2 hbox hb; have au := am hbox; have cq := gA hg HB; replace HB := De1 HB az hb; have ew := nA hg U; have fP := mA hg U; replace U := bA U hb; clear hb hbox hg; have h1 := fP.out; have io := ew.out; obtain ⟨jf, jg, jh, jo, jp, jq⟩ := cf3 au))
    generalize hw : (((g2.setCell ⟨bZ, 0, none⟩ (.int .i64 ((rd_T83 ad aD).f0))).setCell ⟨bZ, 1, none⟩ (.int .i64 ((rd_T83 ad aD).f1))).setCell ⟨bZ, 2, none⟩ (.string ((rd_T83 ad aD).f2))) = cN; replace hw := hw.symm
    replace U : Hc cN cC #[.slice (some fV) ad.length bL, .slice bU af.length bM] 47 := ⟨wAp1 U ew⟩
    replace au : Hc cN bZ #[.int .i64 ((rd_T83 ad aD).f0), .int .i64 ((rd_T83 ad aD).f1), .string ((rd_T83 ad aD).f2)] 83 := ⟨wAp0 au⟩
    replace HB : Hb w cN := ⟨wAe2 HB az cq⟩
    clear hw; replace U := dA U; replace au := dA au; replace HB := bdr HB; refine st_ 14 (fun w' => w'.cell? ⟨bZ, 0, none⟩ = some (.int .i64 ((rd_T83 ad aD).f0)) ∧ w'.cell? ⟨bZ, 1, none⟩ = some (.int .i64 ((rd_T83 ad aD).f1)) ∧ w'.cell? ⟨bZ, 2, none⟩ = some (.string ((rd_T83 ad aD).f2))) [] spec_KeepText.tab8 spec_KeepText.bits8 ⟨bc au 0, bc au 1, bc au 2⟩ (fun aW ag bV => ?_); generalize cN.drew = iS at U au HB aW ⊢; refine pu_ 0 28 ag ?_; refine pu_ 1 29 ag ?_; refine pu_ 5 33 ag ?_; refine pu_ 9 37 ag ?_; refine ta_ 2 30 ag bV aW ?_; refine ta_ 6 34 ag bV aW ?_; refine ta_ 10 38 ag bV aW ?_; refine on_ 3 (some 31) ag (fun K hK => ?_); refine gT Try.func59 (spec_l01Var.calls k1 ((rd_T83 ad aD).f0) ba _ dv.out) ?_; rintro g3 hb; replace U := bA U hb; replace au := bA au hb; replace HB := De2 HB az cq hb; refine hK.out _ _ ⟨bc au 0, bc au 1, bc au 2⟩ (fun aW => nm_ ?_); clear hK K; refine pu_ 4 32 ag ?_; refine on_ 7 (some 35) ag (fun K hK => ?_); refine gT Try.func59 (spec_l01Var.calls k1 ((rd_T83 ad aD).f1) bp _ fu.out) ?_; rintro iT hb; replace U := bA U hb; replace au := bA au hb; replace HB := De2 HB az cq hb; refine hK.out _ _ ⟨bc au 0, bc au 1, bc au 2⟩ (fun aW => nm_ ?_); clear hK K; refine pu_ 8 36 ag ?_; refine on_ 11 (some 39) ag (fun K hK => ?_); refine gT Try.func60 (spec_l16Short.calls k1 ((rd_T83 ad aD).f2) b1 _ fv.out) ?_; rintro iU hb; replace U := bA U hb; replace au := bA au hb; replace HB := De2 HB az cq hb; refine hK.out _ _ ⟨bc au 0, bc au 1, bc au 2⟩ (fun aW => nm_ ?_); clear hK K; refine pu_ 12 40 ag ?_; refine pu_ 13 4 ag ?_; refine done_ (done_of ag.out gk_) ?_
    try go_wp2
    go_roundg k1
    case measure => have := aR.out; omega
    case rel => exact ⟨(((bl ++ ba) ++ bp) ++ b1), (wrap64 (aD + 1)), be_, be_, aX, ⟨(by have := aR.out; omega)⟩, Cb U, Ce2 HB az cq⟩
   obtain ⟨ck, fw, a4⟩ := bsi ap; (try dsimp only at a4); obtain ⟨dc, aG⟩ := yn a4; have gg := eq_true dc; have gh := decide_eq_true dc
   try have eD : (9223372036854775807 < bl.size + ck.size) = False := eq_false (Nat.not_lt.2 dc)
   try (have gi := eD; simp only [ByteArray.size_append] at gi)
   replace aG := am aG; clear ae ap a4; obtain ⟨cl, cm, cn, co⟩ := cf2 U
   go_wp2_with (first | ((with_reducible refine gate_callee (f := 59) rfl ?_); refine gM (some 45) Try.func59 (spec_l01Var.calls k1 (af.length : Int) ck _ fw.out) ?_; rintro iW hb; replace U := bA U hb; replace HB := De1 HB az hb))
   go_loopg [4, 7] k1 (fun kq v4 v7 w' => ∃ (bI : ByteArray) (aE : Int), v4 = .string bI ∧ v7 = .int .i64 aE ∧ Aside0 (spec_KeepText.l1 kq bI aE ad af = some (r1, r2)) ∧ Aside0 (kq ≤ k1) ∧ Aside0 (w'.heap[cC]? = some (.cells #[(.slice bT ad.length bL), (.slice bU af.length bM)] 47 (0, 0))) ∧ Aside0 (Below w.heap.size w w'))
   case atStart => exact ⟨(bl ++ ck), 0, be_, be_, aG, ⟨Nat.le_refl _⟩, Cb U, Ce1 HB az⟩
   case round =>
    clear aG
    try clear c3
    try clear c10
    try clear ch
    try clear dc
    try clear gg
    try clear gh
    try clear eD
    obtain ⟨bI, aE, rfl, rfl, a5, cu, U, HB⟩ := hrel
    cases gk with
    | zero => exact absurd a5.out (by simp [spec_KeepText.l1])
    | succ k2 => ?_
    replace a5 := a5.out; simp only [spec_KeepText.l1] at a5
    obtain ⟨gj, a9⟩ | ⟨gj, a9⟩ := sd a5
    ·obtain ⟨hx, bW⟩ := yd a9; obtain ⟨bd, fy, bu⟩ := bsi bW; (try dsimp only at bu); obtain ⟨dM, eu⟩ := yn bu; have eE := eq_true dM; have hz := decide_eq_true dM
     try have gl : (9223372036854775807 < bI.size + bd.size) = False := eq_false (Nat.not_lt.2 dM)
     try (have gm := gl; simp only [ByteArray.size_append] at gm)
     obtain ⟨bq, dw, dE⟩ := bsi eu; (try dsimp only at dE); obtain ⟨dd, ev⟩ := yn dE; have hC := eq_true dd; have hD := decide_eq_true dd
     try have gn : (9223372036854775807 < (bI ++ bd).size + bq.size) = False := eq_false (Nat.not_lt.2 dd)
     try have hE : (9223372036854775807 < bI.size + bd.size + bq.size) = False := eq_false (by have h_ := dd; simp only [ByteArray.size_append, ByteArray.size_extract, decide_eq_true_eq, decide_eq_false_iff_not] at *; omega)
     try (have gp := gn; simp only [ByteArray.size_append] at gp)
     obtain ⟨b2, dx, dF⟩ := bsi ev; (try dsimp only at dF); obtain ⟨de, dG⟩ := yn dF; have hF := eq_true de; have hG := decide_eq_true de
     try have gq : (9223372036854775807 < ((bI ++ bd) ++ bq).size + b2.size) = False := eq_false (Nat.not_lt.2 de)
     try have hH : (9223372036854775807 < bI.size + bd.size + bq.size + b2.size) = False := eq_false (by have h_ := de; simp only [ByteArray.size_append, ByteArray.size_extract, decide_eq_true_eq, decide_eq_false_iff_not] at *; omega)
     try (have gr := gq; simp only [ByteArray.size_append] at gr)
     replace dG := am dG; clear a5 a9 bW bu eu dE ev dF; obtain ⟨cl, cm, cn, co⟩ := cf2 U
     have dW : 0 ≤ (aE : Int) := dga
     have dY : aE < (af.length : Int) := dga
     obtain ⟨fW, gE, dS, dT, dU⟩ := at_T81 dC.out aE dW dY; cases gE; replace dS := (hbc HB dS).trans dS; replace dT := (hbc HB dT).trans dT; replace dU := (hbc HB dU).trans dU; replace dW := eq_true dW; replace dY := eq_true dY
     try go_wp2_with (first | ((with_reducible refine gate_dst (N := 8) rfl ?_); refine bx (N := 8) (cs := #[.string (⟨#[]⟩ : ByteArray), .string (⟨#[]⟩ : ByteArray), .int .i64 0]) (t := 81) ?_; intro b0 hg g4 hbox hb; have av := am hbox; have cr := gA hg HB; replace HB := De1 HB az hb; have ex := nA hg U; have fQ := mA hg U; replace U := bA U hb; clear hb hbox hg; have gR := fQ.out; have gU := ex.out; obtain ⟨ji, jj, jk, jr, js, jt⟩ := cf3 av))
     generalize hw : (((g4.setCell ⟨b0, 0, none⟩ (.string ((rd_T81 af aE).f0))).setCell ⟨b0, 1, none⟩ (.string ((rd_T81 af aE).f1))).setCell ⟨b0, 2, none⟩ (.int .i64 ((rd_T81 af aE).f2))) = dr; replace hw := hw.symm
     replace U : Hc dr cC #[.slice bT ad.length bL, .slice (some fW) af.length bM] 47 := ⟨wAp1 U ex⟩
     replace av : Hc dr b0 #[.string ((rd_T81 af aE).f0), .string ((rd_T81 af aE).f1), .int .i64 ((rd_T81 af aE).f2)] 81 := ⟨wAp0 av⟩
     replace HB : Hb w dr := ⟨wAe2 HB az cr⟩
     clear hw; replace U := dA U; replace av := dA av; replace HB := bdr HB; refine st_ 14 (fun w' => w'.cell? ⟨b0, 0, none⟩ = some (.string ((rd_T81 af aE).f0)) ∧ w'.cell? ⟨b0, 1, none⟩ = some (.string ((rd_T81 af aE).f1)) ∧ w'.cell? ⟨b0, 2, none⟩ = some (.int .i64 ((rd_T81 af aE).f2))) [] spec_KeepText.tab14 spec_KeepText.bits14 ⟨bc av 0, bc av 1, bc av 2⟩ (fun aW ag bV => ?_); generalize dr.drew = g5 at U av HB aW ⊢; refine pu_ 0 59 ag ?_; refine pu_ 1 60 ag ?_; refine pu_ 5 64 ag ?_; refine pu_ 9 68 ag ?_; refine ta_ 2 61 ag bV aW ?_; refine ta_ 6 65 ag bV aW ?_; refine ta_ 10 69 ag bV aW ?_; refine on_ 3 (some 62) ag (fun K hK => ?_); refine gT Try.func60 (spec_l16Short.calls k2 ((rd_T81 af aE).f0) bd _ fy.out) ?_; rintro iZ hb; replace U := bA U hb; replace av := bA av hb; replace HB := De2 HB az cr hb; refine hK.out _ _ ⟨bc av 0, bc av 1, bc av 2⟩ (fun aW => nm_ ?_); clear hK K; refine pu_ 4 63 ag ?_; refine on_ 7 (some 66) ag (fun K hK => ?_); refine gT Try.func60 (spec_l16Short.calls k2 ((rd_T81 af aE).f1) bq _ dw.out) ?_; rintro g6 hb; replace U := bA U hb; replace av := bA av hb; replace HB := De2 HB az cr hb; refine hK.out _ _ ⟨bc av 0, bc av 1, bc av 2⟩ (fun aW => nm_ ?_); clear hK K; refine pu_ 8 67 ag ?_; refine on_ 11 (some 70) ag (fun K hK => ?_); refine gT Try.func59 (spec_l01Var.calls k2 ((rd_T81 af aE).f2) b2 _ dx.out) ?_; rintro i0 hb; replace U := bA U hb; replace av := bA av hb; replace HB := De2 HB az cr hb; refine hK.out _ _ ⟨bc av 0, bc av 1, bc av 2⟩ (fun aW => nm_ ?_); clear hK K; refine pu_ 12 71 ag ?_; refine pu_ 13 4 ag ?_; refine done_ (done_of ag.out gk_) ?_
     try go_wp2
     go_roundg k2
     case measure => have := aR.out; have := cu.out; omega
     case rel => exact ⟨(((bI ++ bd) ++ bq) ++ b2), (wrap64 (aE + 1)), be_, be_, dG, ⟨(by have := aR.out; have := cu.out; omega)⟩, Cb U, Ce2 HB az cr⟩
    obtain ⟨rfl, rfl⟩ := s2 a9; clear a9 a5; obtain ⟨cl, cm, cn, co⟩ := cf2 U
    go_wp2
    go_ret2
    exact ⟨B25x4_, (Ae1 HB az)⟩
 obtain ⟨rfl, rfl⟩ := s2 z
 clear z J D
 go_enter Try.func22, Try.ntmps22
 go_wp2_with (first | ((with_reducible refine gate_dst (N := 1) rfl ?_); refine bx (N := 1) (cs := #[.slice bT ad.length bL, .slice bU af.length bM]) (t := 47) ?_; intro cC hg i2 hbox hb; have U := am hbox; have az := gA hg HB; replace HB := hA HB hb; clear hb hbox hg; obtain ⟨cl, cm, cn, co⟩ := cf2 U) | ((with_reducible refine gate_callee (f := 28) rfl ?_); refine gM (some 10) Try.func28 (spec_KeepOk.calls k _ _ ad _ _ af false _ (tc (Kd.C_below dB.out HB.out)) eo.out (tc (Kd.C_below dC.out HB.out)) ep.out A2.out) ?_; rintro i3 hb; replace U := bA U hb; replace HB := De1 HB az hb))
 go_ret2
 exact ⟨B25x4_, (Ae1 HB az)⟩
end
end Go.Proofs.Ytgffdijodnpolaa.QFnKeepTexts
