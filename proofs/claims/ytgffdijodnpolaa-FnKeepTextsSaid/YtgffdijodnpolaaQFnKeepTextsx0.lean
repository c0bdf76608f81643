/- Functions that a law reaches, as functions of Lean, and the walks that show that the calls come to their answers. No condition. -/
import Derived.Test.YtgffdijodnpolaaProg
import Derived.Below
import Derived.Deep.Draws
import Derived.Deep.AppendLies
import Derived.Maps.AppendAt
import Derived.OwnWalk
import Derived.Laws.BytesArg
import Derived.Laws.MakeOwn
import Derived.Laws.OwnMore
import Derived.Deep.OwnRows
import Derived.Tactics
import Derived.Lib.ConvBytes
import Derived.Laws.Slices
import Derived.WalkKit
import Derived.KernelRfl
import Derived.RowKit3
import Derived.Deep.LoopGhost
import Derived.Deep.QuietTactic
import Derived.BigQuiet
import Derived.WideLaws
import Derived.Deep.DeepCutAuto
import Derived.Deep.CutBlock
import Derived.Deep.RegionHeld3
import Derived.Laws.Rows
import Derived.Lib.AppendStr
import Derived.ArgAppend
import Derived.Laws.IdiomCopy
import Derived.OrdersHeld
import Derived.Laws.BitsLemmas
import Derived.RowKit
import Derived.Test.YtgffdijodnpolaaVFnKeepTextsWords
import Derived.Test.YtgffdijodnpolaaVFnKeepTextsLast
import Derived.Test.YtgffdijodnpolaaVFnKeepTextsTab
import Derived.Test.YtgffdijodnpolaaVFnKeepTextsFour
import Derived.Test.YtgffdijodnpolaaVFnKeepTextsQPut
import Derived.Test.YtgffdijodnpolaaVFnKeepTextsApart
import Derived.Test.YtgffdijodnpolaaVFnKeepTextsArr
import Derived.Test.YtgffdijodnpolaaVFnKeepTextsZeros
import Derived.Test.YtgffdijodnpolaaVFnKeepTextsFoot
import Derived.Test.YtgffdijodnpolaaVFnKeepTextsKept
import Derived.Test.YtgffdijodnpolaaVFnKeepTextsShare
import Derived.Test.YtgffdijodnpolaaVFnKeepTextsN
import Derived.Test.YtgffdijodnpolaaVFnKeepTextsFootNe
import Derived.Test.YtgffdijodnpolaaVFnKeepTextsAt
import Derived.Test.YtgffdijodnpolaaVFnKeepTextsEqStruct
import Derived.Test.YtgffdijodnpolaaVFnKeepTextsRepsOne
import Derived.Test.YtgffdijodnpolaaVFnKeepTextsInv
import Derived.Test.YtgffdijodnpolaaVFnKeepTextsInvWords
import Derived.Test.YtgffdijodnpolaaVFnKeepTextsGuard
import Derived.Test.YtgffdijodnpolaaVFnKeepTextsNEv
import Derived.Test.YtgffdijodnpolaaVFnKeepTextsMore
import Derived.Test.YtgffdijodnpolaaVFnKeepTextsShort
import Derived.Test.YtgffdijodnpolaaVFnKeepTextshort3
import Derived.Test.YtgffdijodnpolaaVFnKeepTextsShort2
import Derived.Test.YtgffdijodnpolaaVFnKeepTextshort8
namespace Go.Proofs.Ytgffdijodnpolaa.QFnKeepTexts
open Go.RowKit Go.Proofs.YtgffdijodnpolaaW.PrintWords Go.Proofs.YtgffdijodnpolaaW.PrintLast Go.Proofs.YtgffdijodnpolaaW.PrintMore Go.Proofs.Ytgffdijodnpolaa.Short
set_option linter.unusedVariables false
set_option linter.unusedSimpArgs false
set_option maxHeartbeats 8000000
set_option maxRecDepth 100000
variable {p : Prop}
theorem D0x0_ (h : p := by exact ⟨B4x7_, B4x0_, (Ae1 HB (IsS107.gf ah)), (Ak0 HK)⟩) : p := h
theorem D0x1_ (h : p := by exact ⟨B4x7_, (Ae1 HB aD)⟩) : p := h
section
attribute [local go_sem] max2_int min2_int max_two min_two max_three min_three max_four min_four
theorem B0x0_ (h : p := by rw [← add_field _ _ 1 (by omega)]; exact hc 1 _ rfl) : p := h
theorem B0x1_ (h : p := by rw [← add_field _ _ 2 (by omega)]; exact hc 2 _ rfl) : p := h
def errW : Option Int → Value
 | none => .nilIface
 | some c => .iface 0 (.int .i64 c)
theorem errW_none : errW none = .nilIface := rfl
theorem errW_some (c : Int) : errW (some c) = .iface 0 (.int .i64 c) := rfl

theorem info3 : (Try.prog.info? 3).map (fun i => (i.zero, i.size, i.bytes)) = some (some (.int .i64 0), 1, 8) := by kernel_rfl
theorem info5 : (Try.prog.info? 5).map (fun i => (i.zero, i.size, i.bytes)) = some (some (.int .u8 0), 1, 1) := by kernel_rfl
theorem info9 : (Try.prog.info? 9).map (fun i => (i.zero, i.size, i.bytes)) = some (some (.string ⟨#[]⟩), 1, 16) := by kernel_rfl
theorem info81 : (Try.prog.info? 81).map (fun i => (i.zero, i.size, i.bytes)) = some (some (.agg #[(.string ⟨#[]⟩), (.string ⟨#[]⟩), (.int .i64 0)]), 3, 40) := by kernel_rfl
theorem info83 : (Try.prog.info? 83).map (fun i => (i.zero, i.size, i.bytes)) = some (some (.agg #[(.int .i64 0), (.int .i64 0), (.string ⟨#[]⟩)]), 3, 32) := by kernel_rfl
-- the values' own types
structure S83 where
 f0 : Int
 f1 : Int
 f2 : ByteArray
def z83 : S83 := ⟨(0 : Int), (0 : Int), (⟨#[]⟩ : ByteArray)⟩
def k83 : Kd S83 := Kd.iso (Kd.pair (Kd.int .i64) (Kd.pair (Kd.int .i64) Kd.string)) (fun x : S83 => (x.f0, x.f1, x.f2))
theorem k83_open {w : World} {x : S83} {cs : List Value} (h : k83.K w x cs) : cs = [.int .i64 x.f0, .int .i64 x.f1, .string x.f2] := by
 obtain ⟨_, _, rfl, rfl, ⟨_, _, rfl, rfl, rfl⟩⟩ := h
 exact rfl
theorem k83_openM {w : World} {base : Nat} {ok : Nat → Prop} {x : S83} {cs : List Value} (h : k83.M w base ok x cs) : cs = [.int .i64 x.f0, .int .i64 x.f1, .string x.f2] := by
 obtain ⟨_, _, rfl, rfl, ⟨_, _, rfl, rfl, rfl⟩⟩ := h
 exact rfl
theorem k83_mk (w : World) (x : S83)  : k83.K w x [.int .i64 x.f0, .int .i64 x.f1, .string x.f2] := ⟨[.int .i64 x.f0], [.int .i64 x.f1, .string x.f2], rfl, rfl, ⟨[.int .i64 x.f1], [.string x.f2], rfl, rfl, rfl⟩⟩
theorem k83_mkM (w : World) (base : Nat) (ok : Nat → Prop) (x : S83)  : k83.M w base ok x [.int .i64 x.f0, .int .i64 x.f1, .string x.f2] := ⟨[.int .i64 x.f0], [.int .i64 x.f1, .string x.f2], rfl, rfl, ⟨[.int .i64 x.f1], [.string x.f2], rfl, rfl, rfl⟩⟩
def rd_T83 (xs : List S83) (i : Int) : S83 := xs.getD i.toNat z83
theorem at_T83 {w : World} {A : Option Addr} {n : Nat} {xs : List S83} (h : Kd.C k83 w A n xs) (i : Int) (h0 : 0 ≤ i) (h1 : i < n) : ∃ ad , A = some ad ∧ w.cell? (ad.add (i.toNat * 3)) = some (.int .i64 (rd_T83 xs i).f0) ∧ w.cell? ⟨(ad.add (i.toNat * 3)).block, (ad.add (i.toNat * 3)).off + 1, none⟩ = some (.int .i64 (rd_T83 xs i).f1) ∧ w.cell? ⟨(ad.add (i.toNat * 3)).block, (ad.add (i.toNat * 3)).off + 2, none⟩ = some (.string (rd_T83 xs i).f2) := by
 obtain ⟨ad, c, e, _, hK, hc0⟩ := Kd.C_get h z83 i h0 h1
 have hc : ∀ j u, c[j]? = some u → w.cell? (ad.add (i.toNat * 3 + j)) = some u := hc0
 obtain rfl := k83_open hK
 exact ⟨ad, e, hc 0 _ rfl, B0x0_, B0x1_⟩

structure S81 where
 f0 : ByteArray
 f1 : ByteArray
 f2 : Int
def z81 : S81 := ⟨(⟨#[]⟩ : ByteArray), (⟨#[]⟩ : ByteArray), (0 : Int)⟩
def k81 : Kd S81 := Kd.iso (Kd.pair Kd.string (Kd.pair Kd.string (Kd.int .i64))) (fun x : S81 => (x.f0, x.f1, x.f2))
theorem k81_open {w : World} {x : S81} {cs : List Value} (h : k81.K w x cs) : cs = [.string x.f0, .string x.f1, .int .i64 x.f2] := by
 obtain ⟨_, _, rfl, rfl, ⟨_, _, rfl, rfl, rfl⟩⟩ := h
 exact rfl
theorem k81_openM {w : World} {base : Nat} {ok : Nat → Prop} {x : S81} {cs : List Value} (h : k81.M w base ok x cs) : cs = [.string x.f0, .string x.f1, .int .i64 x.f2] := by
 obtain ⟨_, _, rfl, rfl, ⟨_, _, rfl, rfl, rfl⟩⟩ := h
 exact rfl
theorem k81_mk (w : World) (x : S81)  : k81.K w x [.string x.f0, .string x.f1, .int .i64 x.f2] := ⟨[.string x.f0], [.string x.f1, .int .i64 x.f2], rfl, rfl, ⟨[.string x.f1], [.int .i64 x.f2], rfl, rfl, rfl⟩⟩
theorem k81_mkM (w : World) (base : Nat) (ok : Nat → Prop) (x : S81)  : k81.M w base ok x [.string x.f0, .string x.f1, .int .i64 x.f2] := ⟨[.string x.f0], [.string x.f1, .int .i64 x.f2], rfl, rfl, ⟨[.string x.f1], [.int .i64 x.f2], rfl, rfl, rfl⟩⟩
def rd_T81 (xs : List S81) (i : Int) : S81 := xs.getD i.toNat z81
theorem at_T81 {w : World} {A : Option Addr} {n : Nat} {xs : List S81} (h : Kd.C k81 w A n xs) (i : Int) (h0 : 0 ≤ i) (h1 : i < n) : ∃ ad , A = some ad ∧ w.cell? (ad.add (i.toNat * 3)) = some (.string (rd_T81 xs i).f0) ∧ w.cell? ⟨(ad.add (i.toNat * 3)).block, (ad.add (i.toNat * 3)).off + 1, none⟩ = some (.string (rd_T81 xs i).f1) ∧ w.cell? ⟨(ad.add (i.toNat * 3)).block, (ad.add (i.toNat * 3)).off + 2, none⟩ = some (.int .i64 (rd_T81 xs i).f2) := by
 obtain ⟨ad, c, e, _, hK, hc0⟩ := Kd.C_get h z81 i h0 h1
 have hc : ∀ j u, c[j]? = some u → w.cell? (ad.add (i.toNat * 3 + j)) = some u := hc0
 obtain rfl := k81_open hK
 exact ⟨ad, e, hc 0 _ rfl, B0x0_, B0x1_⟩
theorem B2x0_ (h : p := by go_simp; rfl) : p := h
theorem eqA81 (d : Nat) (w : World) (x0 y0 : ByteArray) (x1 y1 : ByteArray) (x2 y2 : Int) :
  (Op.equalIn (d + 2) 81 (.agg #[.string x0, .string x1, .int .i64 x2]) (.agg #[.string y0, .string y1, .int .i64 y2])).run Try.prog w = .ok (x0.toList == y0.toList && (x1.toList == y1.toList && (x2 == y2))) w := by
 refine eqA_of Try.underlying81 (by kernel_rfl) ?_
 refine eqf_cons (by rfl) B2x0_ B2x0_ (by go_simp) ?_
 refine eqf_cons (by rfl) B2x0_ B2x0_ (by go_simp) ?_
 exact eqf_last (by rfl) B2x0_ B2x0_ (by go_simp)
theorem eqA83 (d : Nat) (w : World) (x0 y0 : Int) (x1 y1 : Int) (x2 y2 : ByteArray) :
  (Op.equalIn (d + 2) 83 (.agg #[.int .i64 x0, .int .i64 x1, .string x2]) (.agg #[.int .i64 y0, .int .i64 y1, .string y2])).run Try.prog w = .ok (x0 == y0 && (x1 == y1 && (x2.toList == y2.toList))) w := by
 refine eqA_of Try.underlying83 (by kernel_rfl) ?_
 refine eqf_cons (by rfl) B2x0_ B2x0_ (by go_simp) ?_
 refine eqf_cons (by rfl) B2x0_ B2x0_ (by go_simp) ?_
 exact eqf_last (by rfl) B2x0_ B2x0_ (by go_simp)
attribute [local go_sem high] eqA81 eqA83
theorem B4x0_ (h : p := by repeat (first | (with_reducible first | exact ah.out | apply IsS107.alloc | apply IsS107.drewN | apply IsS107.drew | apply IsS107.set_1 | apply IsS107.set_2) | exact ah.out)) : p := h
theorem B4x7_ (h : p := by first | rfl | (simp [errW_none, errW_some] <;> rfl) | (simp [*, errW_none, errW_some] <;> rfl)) : p := h
theorem B4x16_ (h : p := by have := a4.out; omega) : p := h
def laws_big.f (l0 : List Int) : Option (Bool) := some (decide ((l0.length : Int) > 1048576))
theorem laws_big.calls (A0 : Option Addr) (c0 : Nat) (l0 : List Int) (r : Bool) (w : World) (bl : Kd.C (Kd.int .u8) w A0 l0.length l0) (be : l0.length ≤ c0) (h : laws_big.f l0 = some r) :
  Calls Try.prog 7 #[.slice A0 l0.length c0] w fun e w' => e = .returned (.bool r) ∧ Drawn0 w w' := by
 have bp := am bl
 have dc := am be
 clear bl be
 have z := h
 clear h
 unfold laws_big.f at z
 obtain rfl := Option.some.inj z
 clear z
 go_enter Try.func7, Try.ntmps7
 go_wp2
 go_ret
 exact ⟨gr_, gd_⟩

def impl_Session.l0 : Nat → List (S83) → List (S83) → Int → Int → Option (Bool)
 | 0, _, _, _, _ => none
 | k + 1, x0, x1, cD, ak => if ak < cD then (if 0 ≤ ak then (if ak < (x0.length : Int) then (if ak < (x1.length : Int) then (if (!(((rd_T83 x0 ak).f0) == ((rd_T83 x1 ak).f0)) || (!(((rd_T83 x0 ak).f1) == ((rd_T83 x1 ak).f1)) || (!((((rd_T83 x0 ak).f2).toList) == (((rd_T83 x1 ak).f2).toList))))) = true then (some false) else (impl_Session.l0 k x0 x1 cD (wrap64 (ak + 1)))) else (none)) else (none)) else (none)) else (some true)
def impl_Session.f (k : Nat) (l0 : List (S83)) (l1 : List (S83)) : Option (Bool) := if (l0.length : Int) = (l1.length : Int) then (impl_Session.l0 k l0 l1 (l0.length : Int) 0) else (some false)
theorem impl_Session.calls (k : Nat) (A0 : Option Addr) (c0 : Nat) (l0 : List (S83)) (A1 : Option Addr) (c1 : Nat) (l1 : List (S83)) (r : Bool) (w : World) (bl : Kd.C k83 w A0 l0.length l0) (be : l0.length ≤ c0) (bm : Kd.C k83 w A1 l1.length l1) (bh : l1.length ≤ c1) (h : impl_Session.f k l0 l1 = some r) :
  Calls Try.prog 61 #[.slice A0 l0.length c0, .slice A1 l1.length c1] w fun e w' => e = .returned (.bool r) ∧ Drawn0 w w' := by
 have hE := Try.underlying83
 have bp := am bl
 have dc := am be
 clear bl be
 have bu := am bm
 have de := am bh
 clear bm bh
 have z := h
 clear h
 unfold impl_Session.f at z
 obtain ⟨c3, l⟩ | ⟨c3, l⟩ := sp z
 ·obtain ⟨a7, bB⟩ := yE c3
  have cx : (l0.length == l1.length) = true := by first | simpa using c3 | (simp at c3 ⊢; omega)
  clear c3; replace l := am l; clear z; go_enter Try.func61, Try.ntmps61
  go_wp2
  repeat (go_quiet (fail); try go_wp2)
  go_loopg [13] k (fun kq dW w' => ∃ (D : Int), dW = .int .i64 D ∧ Aside0 (impl_Session.l0 kq l0 l1 (l0.length : Int) D = some r) ∧ Aside0 (kq ≤ k) ∧ Drawn0 w w')
  case atStart => exact ⟨(0), be_, l, ⟨Nat.le_refl _⟩, gd_⟩
  case round =>
   clear l
   try clear c1
   try clear c3
   try clear a7
   try clear bB
   try clear cx
   obtain ⟨D, rfl, B, a4, ⟨m1, rfl⟩⟩ := hrel
   cases gk with
   | zero => exact absurd B.out (by simp [impl_Session.l0])
   | succ k1 => ?_
   replace B := B.out; simp only [impl_Session.l0] at B
   obtain ⟨aK, J⟩ | ⟨aK, J⟩ := sd B
   ·obtain ⟨ci, af⟩ := yd J; obtain ⟨dx, ar⟩ := yd af; obtain ⟨bw, ai⟩ := yd ar
    obtain ⟨c8, ag⟩ | ⟨c8, ag⟩ := sp ai
    ·have dy : (!(((rd_T83 l0 D).f0) == ((rd_T83 l1 D).f0)) || (!(((rd_T83 l0 D).f1) == ((rd_T83 l1 D).f1)) || (!((((rd_T83 l0 D).f2).toList) == (((rd_T83 l1 D).f2).toList))))) = true := c8
     clear c8; obtain rfl := Option.some.inj ag; clear ag B J af ar ai
     have bW : 0 ≤ (D : Int) := dga
     have b1 : D < (l0.length : Int) := dga
     obtain ⟨e9, dz, fT, fU, fV⟩ := at_T83 bp.out D bW b1; cases dz; replace bW := eq_true bW; replace b1 := eq_true b1
     have bX : 0 ≤ (D : Int) := dga
     have b2 : D < (l1.length : Int) := dga
     obtain ⟨fa, dB, fW, fX, fY⟩ := at_T83 bu.out D bX b2; cases dB; replace bX := eq_true bX; replace b2 := eq_true b2
     go_wp2
     repeat (go_quiet (fail); try go_wp2)
     go_ret; exact ⟨gr_, gd_⟩
    ·have dy : (!(((rd_T83 l0 D).f0) == ((rd_T83 l1 D).f0)) || (!(((rd_T83 l0 D).f1) == ((rd_T83 l1 D).f1)) || (!((((rd_T83 l0 D).f2).toList) == (((rd_T83 l1 D).f2).toList))))) = false := by simpa using c8
     clear c8; replace ag := am ag; clear B J af ar ai
     have bW : 0 ≤ (D : Int) := dga
     have b1 : D < (l0.length : Int) := dga
     obtain ⟨e9, dz, fT, fU, fV⟩ := at_T83 bp.out D bW b1; cases dz; replace bW := eq_true bW; replace b1 := eq_true b1
     have bX : 0 ≤ (D : Int) := dga
     have b2 : D < (l1.length : Int) := dga
     obtain ⟨fa, dB, fW, fX, fY⟩ := at_T83 bu.out D bX b2; cases dB; replace bX := eq_true bX; replace b2 := eq_true b2
     go_wp2
     repeat (go_quiet (fail); try go_wp2)
     go_roundg k1
     case measure => have := a4.out; omega
     case rel => exact ⟨(wrap64 (D + 1)), be_, ag, ⟨B4x16_⟩, gd_⟩
   ·obtain rfl := Option.some.inj J; clear J B
    go_wp2
    repeat (go_quiet (fail); try go_wp2)
    go_ret; exact ⟨gr_, gd_⟩
 ·obtain ⟨a7, bB⟩ := nE c3
  have cx : (l0.length == l1.length) = false := by first | simpa using c3 | (simp at c3 ⊢; omega)
  obtain rfl := Option.some.inj l; clear l z; go_enter Try.func61, Try.ntmps61
  go_wp2
  repeat (go_quiet (fail); try go_wp2)
  go_ret; exact ⟨gr_, gd_⟩

def impl_Item.l0 : Nat → List (S81) → List (S81) → Int → Int → Option (Bool)
 | 0, _, _, _, _ => none
 | k + 1, x0, x1, cD, ak => if ak < cD then (if 0 ≤ ak then (if ak < (x0.length : Int) then (if ak < (x1.length : Int) then (if (!((((rd_T81 x0 ak).f0).toList) == (((rd_T81 x1 ak).f0).toList)) || (!((((rd_T81 x0 ak).f1).toList) == (((rd_T81 x1 ak).f1).toList)) || (!(((rd_T81 x0 ak).f2) == ((rd_T81 x1 ak).f2))))) = true then (some false) else (impl_Item.l0 k x0 x1 cD (wrap64 (ak + 1)))) else (none)) else (none)) else (none)) else (some true)
def impl_Item.f (k : Nat) (l0 : List (S81)) (l1 : List (S81)) : Option (Bool) := if (l0.length : Int) = (l1.length : Int) then (impl_Item.l0 k l0 l1 (l0.length : Int) 0) else (some false)
theorem impl_Item.calls (k : Nat) (A0 : Option Addr) (c0 : Nat) (l0 : List (S81)) (A1 : Option Addr) (c1 : Nat) (l1 : List (S81)) (r : Bool) (w : World) (bl : Kd.C k81 w A0 l0.length l0) (be : l0.length ≤ c0) (bm : Kd.C k81 w A1 l1.length l1) (bh : l1.length ≤ c1) (h : impl_Item.f k l0 l1 = some r) :
  Calls Try.prog 62 #[.slice A0 l0.length c0, .slice A1 l1.length c1] w fun e w' => e = .returned (.bool r) ∧ Drawn0 w w' := by
 have fS := Try.underlying81
 have bp := am bl
 have dc := am be
 clear bl be
 have bu := am bm
 have de := am bh
 clear bm bh
 have z := h
 clear h
 unfold impl_Item.f at z
 obtain ⟨c3, l⟩ | ⟨c3, l⟩ := sp z
 ·obtain ⟨a7, bB⟩ := yE c3
  have cx : (l0.length == l1.length) = true := by first | simpa using c3 | (simp at c3 ⊢; omega)
  clear c3; replace l := am l; clear z; go_enter Try.func62, Try.ntmps62
  go_wp2
  repeat (go_quiet (fail); try go_wp2)
  go_loopg [13] k (fun kq dW w' => ∃ (D : Int), dW = .int .i64 D ∧ Aside0 (impl_Item.l0 kq l0 l1 (l0.length : Int) D = some r) ∧ Aside0 (kq ≤ k) ∧ Drawn0 w w')
  case atStart => exact ⟨(0), be_, l, ⟨Nat.le_refl _⟩, gd_⟩
  case round =>
   clear l
   try clear c1
   try clear c3
   try clear a7
   try clear bB
   try clear cx
   obtain ⟨D, rfl, B, a4, ⟨m1, rfl⟩⟩ := hrel
   cases gk with
   | zero => exact absurd B.out (by simp [impl_Item.l0])
   | succ k1 => ?_
   replace B := B.out; simp only [impl_Item.l0] at B
   obtain ⟨aK, J⟩ | ⟨aK, J⟩ := sd B
   ·obtain ⟨ci, af⟩ := yd J; obtain ⟨dx, ar⟩ := yd af; obtain ⟨bw, ai⟩ := yd ar
    obtain ⟨c8, ag⟩ | ⟨c8, ag⟩ := sp ai
    ·have dy : (!((((rd_T81 l0 D).f0).toList) == (((rd_T81 l1 D).f0).toList)) || (!((((rd_T81 l0 D).f1).toList) == (((rd_T81 l1 D).f1).toList)) || (!(((rd_T81 l0 D).f2) == ((rd_T81 l1 D).f2))))) = true := c8
     clear c8; obtain rfl := Option.some.inj ag; clear ag B J af ar ai
     have bY : 0 ≤ (D : Int) := dga
     have b3 : D < (l0.length : Int) := dga
     obtain ⟨fb, dC, fZ, f3, f4⟩ := at_T81 bp.out D bY b3; cases dC; replace bY := eq_true bY; replace b3 := eq_true b3
     have bZ : 0 ≤ (D : Int) := dga
     have b4 : D < (l1.length : Int) := dga
     obtain ⟨fc, dD, f5, f6, f7⟩ := at_T81 bu.out D bZ b4; cases dD; replace bZ := eq_true bZ; replace b4 := eq_true b4
     go_wp2
     repeat (go_quiet (fail); try go_wp2)
     go_ret; exact ⟨gr_, gd_⟩
    ·have dy : (!((((rd_T81 l0 D).f0).toList) == (((rd_T81 l1 D).f0).toList)) || (!((((rd_T81 l0 D).f1).toList) == (((rd_T81 l1 D).f1).toList)) || (!(((rd_T81 l0 D).f2) == ((rd_T81 l1 D).f2))))) = false := by simpa using c8
     clear c8; replace ag := am ag; clear B J af ar ai
     have bY : 0 ≤ (D : Int) := dga
     have b3 : D < (l0.length : Int) := dga
     obtain ⟨fb, dC, fZ, f3, f4⟩ := at_T81 bp.out D bY b3; cases dC; replace bY := eq_true bY; replace b3 := eq_true b3
     have bZ : 0 ≤ (D : Int) := dga
     have b4 : D < (l1.length : Int) := dga
     obtain ⟨fc, dD, f5, f6, f7⟩ := at_T81 bu.out D bZ b4; cases dD; replace bZ := eq_true bZ; replace b4 := eq_true b4
     go_wp2
     repeat (go_quiet (fail); try go_wp2)
     go_roundg k1
     case measure => have := a4.out; omega
     case rel => exact ⟨(wrap64 (D + 1)), be_, ag, ⟨B4x16_⟩, gd_⟩
   ·obtain rfl := Option.some.inj J; clear J B
    go_wp2
    repeat (go_quiet (fail); try go_wp2)
    go_ret; exact ⟨gr_, gd_⟩
 ·obtain ⟨a7, bB⟩ := nE c3
  have cx : (l0.length == l1.length) = false := by first | simpa using c3 | (simp at c3 ⊢; omega)
  obtain rfl := Option.some.inj l; clear l z; go_enter Try.func62, Try.ntmps62
  go_wp2
  repeat (go_quiet (fail); try go_wp2)
  go_ret; exact ⟨gr_, gd_⟩

def impl_SameKeep.f (k : Nat) (Z : List (S83)) (U : List (S81)) (bn : List (S83)) (br : List (S81)) : Option (Bool) := (impl_Session.f k Z bn).bind fun eB => (if eB = true then ((impl_Item.f k U br).bind fun dU => (some dU)) else (some false))
theorem impl_SameKeep.calls (k : Nat) (av : Option Addr) (aA : Nat) (Z : List (S83)) (aw : Option Addr) (aC : Nat) (U : List (S81)) (cG : Option Addr) (cQ : Nat) (bn : List (S83)) (cH : Option Addr) (cR : Nat) (br : List (S81)) (r : Bool) (w : World) (bS : Kd.C k83 w av Z.length Z) (bD : Z.length ≤ aA) (bF : Kd.C k81 w aw U.length U) (bE : U.length ≤ aC) (eu : Kd.C k83 w cG bn.length bn) (er : bn.length ≤ cQ) (ev : Kd.C k81 w cH br.length br) (et : br.length ≤ cR) (h : impl_SameKeep.f k Z U bn br = some r) :
  Calls Try.prog 23 #[.agg #[.slice av Z.length aA, .slice aw U.length aC], .agg #[.slice cG bn.length cQ, .slice cH br.length cR]] w fun e w' => e = .returned (.bool r) ∧ Below w.heap.size w w' := by
 have ew := Try.underlying47
 have cd := am bS
 have cJ := am bD
 clear bS bD
 have bL := am bF
 have dd := am bE
 clear bF bE
 have ea := am eu
 have d7 := am er
 clear eu er
 have e5 := am ev
 have e2 := am et
 clear ev et
 have HB := am (Below.refl w.heap.size w)
 have z := h
 clear h
 unfold impl_SameKeep.f at z
 obtain ⟨eB, A3, l⟩ := bsi z
 (try dsimp only at l)
 obtain ⟨rfl, B⟩ | ⟨rfl, B⟩ := sb l
 ·obtain ⟨dU, A5, J⟩ := bsi B; (try dsimp only at J); obtain rfl := Option.some.inj J; clear J z l B; go_enter Try.func23, Try.ntmps23
  go_wp2_with (first | ((with_reducible refine gate_dst (N := 2) rfl ?_); refine bx (N := 2) (cs := #[.slice av Z.length aA, .slice aw U.length aC]) (t := 47) ?_; intro fJ hg w6 hbox hb; have bd := am hbox; have bK := gA hg HB; replace HB := hA HB hb; clear hb hbox hg) | ((with_reducible refine gate_dst (N := 3) rfl ?_); refine bx (N := 3) (cs := #[.slice cG bn.length cQ, .slice cH br.length cR]) (t := 47) ?_; intro fK hg w7 hbox hb; have db := am hbox; have cp := gA hg HB; replace HB := De1 HB bK hb; have di := nA hg bd; have dj := mA hg bd; replace bd := bA bd hb; clear hb hbox hg; have fP := di.out; have fR := dj.out; obtain ⟨gG, gH, gQ, gR⟩ := cf2 bd; obtain ⟨gI, gJ, gU, gV⟩ := cf2 db) | ((with_reducible refine gate_callee (f := 61) rfl ?_); refine gM (some 9) Try.func61 (impl_Session.calls k _ _ Z _ _ bn true _ (tc (Kd.C_below cd.out HB.out)) cJ.out (tc (Kd.C_below ea.out HB.out)) d7.out A3.out) ?_; rintro w' ⟨nd, rfl⟩) | (go_at_call 62; (with_reducible refine (impl_Item.calls k _ _ U _ _ br dU _ ?z1 ?z2 ?z3 ?z4 A5.out).mono ?_); (case z1 => repeat (first | exact (Kd.C_below bL.out (Ae2 HB bK cp)) | (with_reducible refine Kd.C_alloc ?_ _) | (with_reducible refine Kd.C_drewN ?_ _) | (with_reducible refine Kd.C_drew ?_))); (case z2 => exact dd.out); (case z3 => repeat (first | exact (Kd.C_below e5.out (Ae2 HB bK cp)) | (with_reducible refine Kd.C_alloc ?_ _) | (with_reducible refine Kd.C_drewN ?_ _) | (with_reducible refine Kd.C_drew ?_))); (case z4 => exact e2.out); rintro e w' ⟨rfl, ⟨nd, rfl⟩⟩))
  go_ret; exact ⟨B4x7_, (Ae2 HB bK cp)⟩
 ·obtain rfl := Option.some.inj B; clear B z l; go_enter Try.func23, Try.ntmps23
  go_wp2_with (first | ((with_reducible refine gate_dst (N := 2) rfl ?_); refine bx (N := 2) (cs := #[.slice av Z.length aA, .slice aw U.length aC]) (t := 47) ?_; intro fJ hg eN hbox hb; have bd := am hbox; have bK := gA hg HB; replace HB := hA HB hb; clear hb hbox hg) | ((with_reducible refine gate_dst (N := 3) rfl ?_); refine bx (N := 3) (cs := #[.slice cG bn.length cQ, .slice cH br.length cR]) (t := 47) ?_; intro fK hg dX hbox hb; have db := am hbox; have cp := gA hg HB; replace HB := De1 HB bK hb; have di := nA hg bd; have dj := mA hg bd; replace bd := bA bd hb; clear hb hbox hg; have fO := di.out; have fQ := dj.out; obtain ⟨gG, gH, gQ, gR⟩ := cf2 bd; obtain ⟨gI, gJ, gU, gV⟩ := cf2 db) | ((with_reducible refine gate_callee (f := 61) rfl ?_); refine gM (some 9) Try.func61 (impl_Session.calls k _ _ Z _ _ bn false _ (tc (Kd.C_below cd.out HB.out)) cJ.out (tc (Kd.C_below ea.out HB.out)) d7.out A3.out) ?_; rintro w' ⟨nd, rfl⟩))
  go_ret; exact ⟨B4x7_, (Ae2 HB bK cp)⟩

/-- A state of type 107 at block g of W; what its slices lead to came in by w0. -/
def IsS107 (w0 W : World) (g : Nat) (f0 : List Int) (f1 : Int) (f2 : Int) : Prop := ∃ A0 c0, W.heap[g]? = some (.cells #[.slice A0 f0.length c0, .int .i64 f1, .int .i64 f2] 107 (0, 0)) ∧ w0.heap.size ≤ g ∧ Kd.C (Kd.int .u8) w0 A0 f0.length f0
theorem IsS107.grown {w0 W : World} {g : Nat} {f0 : List Int} {f1 : Int} {f2 : Int} {W1 : World} {row : Option Nat} (h : IsS107 w0 W g f0 f1 f2) (hw : W.grownBy W1 row) (hne : some g ≠ row) : IsS107 w0 W1 g f0 f1 f2 := by
 obtain ⟨A0, c0, hb, hg, hr0⟩ := h
 exact ⟨A0, c0, blk_grown hb hw hne, hg, hr0⟩
theorem IsS107.own_neN {w0 W : World} {g : Nat} {f0 : List Int} {f1 : Int} {f2 : Int} {α : Type} {d : Kd α} {e : Nat} {base : Nat} {ok : Nat → Prop} {v : Value} {xs : List α} (h : IsS107 w0 W g f0 f1 f2) (ho : Kd.N d e W base ok v xs) (ht : e ≠ 107) : some g ≠ v.ownBlock := by
 obtain ⟨A0, c0, hb, hg, hr0⟩ := h
 exact Kd.N_ne ho hb ht
theorem IsS107.fresh {w0 W : World} {g : Nat} {f0 : List Int} {f1 : Int} {f2 : Int} (h : IsS107 w0 W g f0 f1 f2) : ∀ k, W.heap.size ≤ k → k ≠ g := by
 obtain ⟨A0, c0, hb, hg, hr0⟩ := h
 exact Kd.freshB hb
theorem IsS107.kept {w0 W : World} {g : Nat} {f0 : List Int} {f1 : Int} {f2 : Int} {W1 : World} {S : Nat → Prop} (h : IsS107 w0 W g f0 f1 f2) (hk : Kept W W1 S) (hne : ¬ S g) : IsS107 w0 W1 g f0 f1 f2 := by
 obtain ⟨A0, c0, hb, hg, hr0⟩ := h
 exact ⟨A0, c0, blk_kept hb hk hne, hg, hr0⟩
theorem IsS107.below {w0 W : World} {g : Nat} {f0 : List Int} {f1 : Int} {f2 : Int} {W1 : World} (h : IsS107 w0 W g f0 f1 f2) (hw : Below W.heap.size W W1) : IsS107 w0 W1 g f0 f1 f2 := h.grown (grown_of_below hw none) (by simp)
theorem IsS107.alloc {w0 W : World} {g : Nat} {f0 : List Int} {f1 : Int} {f2 : Int} (h : IsS107 w0 W g f0 f1 f2) (o : Obj) : IsS107 w0 (W.alloc o) g f0 f1 f2 := h.below (below_alloc (Below.refl _ _) o)
theorem IsS107.drewN {w0 W : World} {g : Nat} {f0 : List Int} {f1 : Int} {f2 : Int} (h : IsS107 w0 W g f0 f1 f2) (m : Nat) : IsS107 w0 (W.drewN m) g f0 f1 f2 := h
theorem IsS107.drew {w0 W : World} {g : Nat} {f0 : List Int} {f1 : Int} {f2 : Int} (h : IsS107 w0 W g f0 f1 f2) : IsS107 w0 W.drew g f0 f1 f2 := h
theorem IsS107.at_ {w0 W : World} {g : Nat} {f0 : List Int} {f1 : Int} {f2 : Int} {w' : World} {m : Nat} (hq : W.drewN m = w') (h : IsS107 w0 W g f0 f1 f2) : IsS107 w0 w' g f0 f1 f2 := by subst hq; exact IsS107.drewN h m
theorem IsS107.apart {w0 W : World} {g : Nat} {f0 : List Int} {f1 : Int} {f2 : Int} {α : Type} {d : Kd α} {e : Nat} {base : Nat} {ok : Nat → Prop} {v : Value} {xs : List α} (h : IsS107 w0 W g f0 f1 f2) (ho : d.R e W base ok v xs) (ht : ∀ q, q ∈ e :: d.E → q ≠ 107) : d.R e W base (fun k => ok k ∧ k ≠ g) v xs := by
 obtain ⟨A0, c0, hb, hg, hr0⟩ := h
 exact Kd.R_types ho hb ht
theorem IsS107.own_ne {w0 W : World} {g : Nat} {f0 : List Int} {f1 : Int} {f2 : Int} {α : Type} {d : Kd α} {e : Nat} {base : Nat} {ok : Nat → Prop} {v : Value} {xs : List α} (h : IsS107 w0 W g f0 f1 f2) (ho : d.R e W base ok v xs) (ht : e ≠ 107) : some g ≠ v.ownBlock := by
 obtain ⟨A0, c0, hb, hg, hr0⟩ := h
 exact Kd.R_ne ho hb ht
theorem IsS107.apartQ {w0 W : World} {g : Nat} {f0 : List Int} {f1 : Int} {f2 : Int} {α : Type} {d : Kd α} {e : Nat} {base : Nat} {ok : Nat → Prop} {v : Value} {xs : List α} (h : IsS107 w0 W g f0 f1 f2) (ho : d.Q e W base ok v xs) (ht : ∀ q, q ∈ e :: d.E → q ≠ 107) : d.Q e W base (fun k => ok k ∧ k ≠ g) v xs := by
 obtain ⟨A0, c0, hb, hg, hr0⟩ := h
 exact Kd.Q_types ho hb ht
theorem IsS107.own_neQ {w0 W : World} {g : Nat} {f0 : List Int} {f1 : Int} {f2 : Int} {α : Type} {d : Kd α} {e : Nat} {base : Nat} {ok : Nat → Prop} {v : Value} {xs : List α} (h : IsS107 w0 W g f0 f1 f2) (ho : d.Q e W base ok v xs) (ht : e ≠ 107) : some g ≠ v.ownBlock := by
 obtain ⟨A0, c0, hb, hg, hr0⟩ := h
 exact Kd.Q_ne ho hb ht
theorem IsS107.apartS {w0 W : World} {g : Nat} {f0 : List Int} {f1 : Int} {f2 : Int} {α : Type} {d : Kd α} {e : Nat} {base : Nat} {ok : Nat → Prop} {v : Value} {xs : List α} (h : IsS107 w0 W g f0 f1 f2) (ho : d.S e W base ok v xs) (ht : ∀ q, q ∈ e :: d.E → q ≠ 107) : d.S e W base (fun k => ok k ∧ k ≠ g) v xs := by
 obtain ⟨A0, c0, hb, hg, hr0⟩ := h
 exact Kd.S_types ho hb ht
theorem IsS107.own_neS {w0 W : World} {g : Nat} {f0 : List Int} {f1 : Int} {f2 : Int} {α : Type} {d : Kd α} {e : Nat} {base : Nat} {ok : Nat → Prop} {v : Value} {xs : List α} (h : IsS107 w0 W g f0 f1 f2) (ho : d.S e W base ok v xs) (ht : e ≠ 107) : some g ≠ v.ownBlock := by
 obtain ⟨A0, c0, hb, hg, hr0⟩ := h
 exact Kd.S_ne ho hb ht
theorem IsS107.lt {w0 W : World} {g : Nat} {f0 : List Int} {f1 : Int} {f2 : Int} (h : IsS107 w0 W g f0 f1 f2) : g < W.heap.size := by
 obtain ⟨A0, c0, hb, hg, hr0⟩ := h
 exact blk_lt hb
theorem IsS107.ge {w0 W : World} {g : Nat} {f0 : List Int} {f1 : Int} {f2 : Int} (h : IsS107 w0 W g f0 f1 f2) : w0.heap.size ≤ g := by
 obtain ⟨A0, c0, hb, hg, hr0⟩ := h
 exact hg
theorem IsS107.gf {w0 W : World} {g : Nat} {f0 : List Int} {f1 : Int} {f2 : Int} (h : Aside0 (IsS107 w0 W g f0 f1 f2)) : Aside0 (w0.heap.size ≤ g) := ⟨h.out.ge⟩
theorem IsS107.ne_blk {w0 W : World} {g : Nat} {f0 : List Int} {f1 : Int} {f2 : Int} {a : Nat} {cs : Array Value} {t : TypeId} {fr : Nat × Nat} (h : IsS107 w0 W g f0 f1 f2) (hb2 : W.heap[a]? = some (.cells cs t fr)) (ht : t ≠ 107) : g ≠ a := by
 obtain ⟨A0, c0, hb, hg, hr0⟩ := h
 rintro rfl
 rw [hb] at hb2
 injection hb2 with hb2
 injection hb2 with _ ht2
 exact ht ht2.symm
theorem IsS107.far {w0 W : World} {g : Nat} {f0 : List Int} {f1 : Int} {f2 : Int} {p : Addr} (h : IsS107 w0 W g f0 f1 f2) (hne : g ≠ p.block) (u : Value) : IsS107 w0 (W.setCell p u) g f0 f1 f2 := by
 obtain ⟨A0, c0, hb, hg, hr0⟩ := h
 exact ⟨A0, c0, blk_far hb hne u, hg, hr0⟩
theorem cellS107_0 {W : World} {g : Nat} {A0 : Option Addr} {c0 : Nat} {f0 : List Int} {f1 : Int} {f2 : Int} (h : W.heap[g]? = some (.cells #[.slice A0 f0.length c0, .int .i64 f1, .int .i64 f2] 107 (0, 0))) : W.cell? ⟨g, 0, none⟩ = some (.slice A0 f0.length c0) := (blk_cell h 0).trans rfl
theorem cellS107_1 {W : World} {g : Nat} {A0 : Option Addr} {c0 : Nat} {f0 : List Int} {f1 : Int} {f2 : Int} (h : W.heap[g]? = some (.cells #[.slice A0 f0.length c0, .int .i64 f1, .int .i64 f2] 107 (0, 0))) : W.cell? ⟨g, 1, none⟩ = some (.int .i64 f1) := (blk_cell h 1).trans rfl
theorem IsS107.set_1 {w0 W : World} {g : Nat} {f0 : List Int} {f1 : Int} {f2 : Int} (h : IsS107 w0 W g f0 f1 f2) (x : Int) : IsS107 w0 (W.setCell ⟨g, 1, none⟩ (.int .i64 x)) g f0 x f2 := by
 obtain ⟨A0, c0, hb, hg, hr0⟩ := h
 exact ⟨A0, c0, (by simpa using blk_set hb 1 (.int .i64 x)), hg, hr0⟩
theorem cellS107_2 {W : World} {g : Nat} {A0 : Option Addr} {c0 : Nat} {f0 : List Int} {f1 : Int} {f2 : Int} (h : W.heap[g]? = some (.cells #[.slice A0 f0.length c0, .int .i64 f1, .int .i64 f2] 107 (0, 0))) : W.cell? ⟨g, 2, none⟩ = some (.int .i64 f2) := (blk_cell h 2).trans rfl
theorem IsS107.set_2 {w0 W : World} {g : Nat} {f0 : List Int} {f1 : Int} {f2 : Int} (h : IsS107 w0 W g f0 f1 f2) (x : Int) : IsS107 w0 (W.setCell ⟨g, 2, none⟩ (.int .i64 x)) g f0 f1 x := by
 obtain ⟨A0, c0, hb, hg, hr0⟩ := h
 exact ⟨A0, c0, (by simpa using blk_set hb 2 (.int .i64 x)), hg, hr0⟩
theorem IsS107.new (w0 W : World) (A0 : Option Addr) (c0 : Nat) (f0 : List Int) (f1 : Int) (f2 : Int) (hB : Below w0.heap.size w0 W) (hr0 : Kd.C (Kd.int .u8) w0 A0 f0.length f0) : IsS107 w0 (W.alloc (.cells #[.slice A0 f0.length c0, .int .i64 f1, .int .i64 f2] 107)) W.heap.size f0 f1 f2 := ⟨A0, c0, (by simpa using heap_alloc_new W _), hB.size, hr0⟩

def spec_l01New.l0 : Nat → List Int → Int → Int → Option (List Int × Int × Int)
 | 0, _, _, _ => none
 | k + 1, x0, x3, x4 => if x4 < (x0.length : Int) then (if x4 < 4000 then (if 0 ≤ x4 then (spec_l01New.l0 k x0 (Go.bits .and .i64 (wrap64 ((wrap64 ((wrap64 (x3 * 131)) + (wrap64 (rd x0 x4)))) + 7)) 1073741823) (wrap64 (x4 + 1))) else (none)) else (some (x0, 0, x3))) else (some (x0, 0, x3))
def spec_l01New.f (k : Nat) (l0 : List Int) : Option (List Int × Int × Int) := spec_l01New.l0 k l0 (wrap64 (37401 + (l0.length : Int))) 0
theorem spec_l01New.calls (k : Nat) (A0 : Option Addr) (c0 : Nat) (l0 : List Int) (r1 : List Int) (r2 : Int) (r3 : Int) (w0 w : World) (hB : Below w0.heap.size w0 w) (bl : Kd.C (Kd.int .u8) w0 A0 l0.length l0) (be : l0.length ≤ c0) (h : spec_l01New.f k l0 = some (r1, r2, r3)) :
  Calls Try.prog 37 #[.slice A0 l0.length c0] w fun e w' => ∃ g_ : Nat, e = .returned (.pointer (some ⟨g_, 0, none⟩)) ∧ IsS107 w0 w' g_ r1 r2 r3 ∧ Below w0.heap.size w0 w' ∧ Below w.heap.size w w' := by
 have hC := Try.underlying107
 have bp := am bl
 have dc := am be
 clear bl be
 have HBW := am (Below.refl w.heap.size w)
 have bM := am hB.size
 have HB := am hB
 clear hB
 have z := h
 clear h
 unfold spec_l01New.f at z
 replace z := am z
 go_enter Try.func37, Try.ntmps37
 go_wp2
 go_loopg [3, 4] k (fun kq v3 v4 w' => ∃ (bI : Int) (aE : Int), v3 = .int .i64 bI ∧ v4 = .int .i64 aE ∧ Aside0 (spec_l01New.l0 kq l0 bI aE = some (r1, r2, r3)) ∧ Aside0 (kq ≤ k) ∧ Aside0 (Below w0.heap.size w0 w') ∧ Aside0 (Below w.heap.size w w'))
 case atStart => exact ⟨(wrap64 (37401 + (l0.length : Int))), 0, be_, be_, z, ⟨Nat.le_refl _⟩, Ce0 HB, Ce0 HBW⟩
 case round =>
  clear z; obtain ⟨bI, aE, rfl, rfl, l, a4, HB, HBW⟩ := hrel
  cases gk with
  | zero => exact absurd l.out (by simp [spec_l01New.l0])
  | succ k1 => ?_
  replace l := l.out; simp only [spec_l01New.l0] at l
  obtain ⟨bv, B⟩ | ⟨bv, B⟩ := sd l
  ·obtain ⟨a7, J⟩ | ⟨a7, J⟩ := sd B
   ·obtain ⟨aK, af⟩ := yd J; replace af := am af; clear l B J
    have dK : 0 ≤ (aE : Int) := dga
    have dP : aE < (l0.length : Int) := dga
    obtain ⟨g3, fE, ex⟩ := Kd.at_int bp.out aE dK dP; cases fE; replace ex := pw_cell_below HB.out ex; replace dK := eq_true dK; replace dP := eq_true dP
    go_wp2
    go_roundg k1
    case measure => have := a4.out; omega
    case rel => exact ⟨(Go.bits .and .i64 (wrap64 ((wrap64 ((wrap64 (bI * 131)) + (wrap64 (rd l0 aE)))) + 7)) 1073741823), (wrap64 (aE + 1)), be_, be_, af, ⟨B4x16_⟩, Ce0 HB, Ce0 HBW⟩
   ·obtain ⟨rfl, rfl, rfl⟩ := s3 J; clear J l B
    go_wp2_with (first | ((with_reducible refine gate_dst (N := 31) rfl ?_); refine bx (N := 31) (cs := #[.slice A0 l0.length c0, .int .i64 0, .int .i64 bI]) (t := 107) ?_; intro ej hg w5 hbox hb; replace HB := hA HB hb; have eY := am hbox; have e0 := gA hg HBW; have d5 := am (Nat.le_trans bM.out (bs hg (below_size HBW.out)) : w0.heap.size ≤ ej); replace HBW := am (below_step HBW.out hb); clear hb hbox hg))
    go_ret; exact ⟨_, rfl, (show IsS107 w0 _ ej l0 0 bI from ⟨_, _, (Ab eY), d5.out, bp.out⟩), (Ae1 HB d5), (Ae1 HBW e0)⟩
  ·obtain ⟨rfl, rfl, rfl⟩ := s3 B; clear B l
   go_wp2_with (first | ((with_reducible refine gate_dst (N := 31) rfl ?_); refine bx (N := 31) (cs := #[.slice A0 l0.length c0, .int .i64 0, .int .i64 bI]) (t := 107) ?_; intro ek hg w6 hbox hb; replace HB := hA HB hb; have eZ := am hbox; have e1 := gA hg HBW; have d6 := am (Nat.le_trans bM.out (bs hg (below_size HBW.out)) : w0.heap.size ≤ ek); replace HBW := am (below_step HBW.out hb); clear hb hbox hg))
   go_ret; exact ⟨_, rfl, (show IsS107 w0 _ ek l0 0 bI from ⟨_, _, (Ab eZ), d6.out, bp.out⟩), (Ae1 HB d6), (Ae1 HBW e1)⟩

def spec_l01Byte.f (Y : List Int) (aa : Int) (ac : Int) : Option (Int × Int × Int) := if aa < (Y.length : Int) then (if 0 ≤ aa then (some (Go.bits .and .i64 (wrap64 ((Go.bits .and .i64 (Go.bits .xor .i64 ((wrap64 ((wrap64 (ac * 6364136223846793005)) + 1442695040888963407)) / 8589934592) ((wrap64 ((wrap64 (ac * 6364136223846793005)) + 1442695040888963407)) / 35184372088832)) 255) + (wrap64 (rd Y aa)))) 255, wrap64 (aa + 1), wrap64 ((wrap64 (ac * 6364136223846793005)) + 1442695040888963407))) else (none)) else (some (Go.bits .and .i64 (Go.bits .xor .i64 ((wrap64 ((wrap64 (ac * 6364136223846793005)) + 1442695040888963407)) / 8589934592) ((wrap64 ((wrap64 (ac * 6364136223846793005)) + 1442695040888963407)) / 35184372088832)) 255, aa, wrap64 ((wrap64 (ac * 6364136223846793005)) + 1442695040888963407)))
theorem spec_l01Byte.calls (g : Nat) (Y : List Int) (aa : Int) (ac : Int) (r1 : Int) (r2 : Int) (r3 : Int) (w0 w : World) (hI : IsS107 w0 w g Y aa ac) (hB : Below w0.heap.size w0 w) (h : spec_l01Byte.f Y aa ac = some (r1, r2, r3)) :
  Calls Try.prog 52 #[.pointer (some ⟨g, 0, none⟩)] w fun e w' => e = .returned (.int .i64 r1) ∧ IsS107 w0 w' g Y r2 r3 ∧ Below w0.heap.size w0 w' ∧ KeepBut w w' g none := by
 have ah := am hI
 have HK := am (KeepBut.refl w g none)
 have HL := am hB.size
 clear hI
 have bM := am hB.size
 have HB := am hB
 clear hB
 have z := h
 clear h
 unfold spec_l01Byte.f at z
 obtain ⟨bv, l⟩ | ⟨bv, l⟩ := sd z
 ·obtain ⟨a7, B⟩ := yd l; obtain ⟨rfl, rfl, rfl⟩ := s3 B; clear B z l; obtain ⟨gZ, ha, ca, fM, e6⟩ := ah.out; have hO := cellS107_0 ca; have hP := cellS107_1 ca; have hQ := cellS107_2 ca; have hU := blk_frozen ca 1; have hV := blk_frozen ca 2; clear ca fM
  have dL : 0 ≤ (aa : Int) := dga
  have dQ : aa < (Y.length : Int) := dga
  obtain ⟨fd, fF, cj⟩ := Kd.at_int e6 aa dL dQ; cases fF
  have hn112_0 : fd.block ≠ g := Nat.ne_of_lt (Nat.lt_of_lt_of_le (by have := World.block_lt_of_cell? _ _ cj; first | rwa [add_block] at this | exact this) (IsS107.ge ah.out))
  replace cj := pw_cell_below HB.out cj; replace cj := (cell_far (p := ⟨g, 2, none⟩) (by first | (rw [add_block]; exact hn112_0) | (show (Addr.add _ _).block ≠ _; rw [add_block]; exact hn112_0) | exact hn112_0) (.int .i64 (wrap64 ((wrap64 (ac * 6364136223846793005)) + 1442695040888963407)))).trans cj; (try have hF := fun (n_ : Nat) => (show (((w.drewN n_).setCell ⟨g, 2, none⟩ (.int .i64 (wrap64 ((wrap64 (ac * 6364136223846793005)) + 1442695040888963407))))).cell? _ = some _ from cj)); clear hn112_0; replace dL := eq_true dL; replace dQ := eq_true dQ; go_enter Try.func52, Try.ntmps52
  go_wp2
  repeat (go_quiet (fail); try go_wp2)
  go_ret; exact D0x0_
 ·obtain ⟨rfl, rfl, rfl⟩ := s3 l; clear l z; obtain ⟨g0, he, cc, fN, g2⟩ := ah.out; have hR := cellS107_0 cc; have hS := cellS107_1 cc; have hT := cellS107_2 cc; have hW := blk_frozen cc 1; have hX := blk_frozen cc 2; clear cc fN; go_enter Try.func52, Try.ntmps52
  go_wp2
  repeat (go_quiet (fail); try go_wp2)
  go_ret; exact D0x0_

def spec_l01Below.f (Y : List Int) (aa : Int) (ac : Int) (a1 : Int) : Option (Int × Int × Int) := if a1 ≤ 0 then (some (0, aa, ac)) else (if a1 ≤ 256 then ((spec_l01Byte.f Y aa ac).bind fun dn => (if a1 = 0 then (none) else (some (Int.tmod dn.1 a1, dn.2.1, dn.2.2)))) else ((spec_l01Byte.f Y aa ac).bind fun dp => ((spec_l01Byte.f Y dp.2.1 dp.2.2).bind fun dq => ((spec_l01Byte.f Y dq.2.1 dq.2.2).bind fun dr => ((spec_l01Byte.f Y dr.2.1 dr.2.2).bind fun ds => (if a1 = 0 then (none) else (some (Int.tmod (wrap64 ((wrap64 ((wrap64 ((wrap64 (dp.1 * 16777216)) + (wrap64 (dq.1 * 65536)))) + (wrap64 (dr.1 * 256)))) + ds.1)) a1, ds.2.1, ds.2.2))))))))
theorem spec_l01Below.calls (g : Nat) (Y : List Int) (aa : Int) (ac : Int) (a1 : Int) (r1 : Int) (r2 : Int) (r3 : Int) (w0 w : World) (hI : IsS107 w0 w g Y aa ac) (hB : Below w0.heap.size w0 w) (h : spec_l01Below.f Y aa ac a1 = some (r1, r2, r3)) :
  Calls Try.prog 41 #[.pointer (some ⟨g, 0, none⟩), .int .i64 a1] w fun e w' => e = .returned (.int .i64 r1) ∧ IsS107 w0 w' g Y r2 r3 ∧ Below w0.heap.size w0 w' ∧ KeepBut w w' g none := by
 have ah := am hI
 have HK := am (KeepBut.refl w g none)
 have HL := am hB.size
 clear hI
 have bM := am hB.size
 have HB := am hB
 clear hB
 have z := h
 clear h
 unfold spec_l01Below.f at z
 obtain ⟨a7, l⟩ | ⟨a7, l⟩ := sd z
 ·obtain ⟨rfl, rfl, rfl⟩ := s3 l; clear l z; go_enter Try.func41, Try.ntmps41
  go_wp2
  go_ret; exact D0x0_
 obtain ⟨aK, B⟩ | ⟨aK, B⟩ := sd l
 ·obtain ⟨⟨ga, gb, gg⟩, A5, J⟩ := bsi B; (try dsimp only at J)
  obtain ⟨c6, af⟩ | ⟨c6, af⟩ := sp J
  ·exact absurd af (by simp)
  obtain ⟨dx, g7⟩ := nE c6; obtain ⟨rfl, rfl, rfl⟩ := s3 af; clear af z l B J; go_enter Try.func41, Try.ntmps41
  go_wp2_with (first | ((with_reducible refine gate_callee (f := 52) rfl ?_); refine gM (some 14) Try.func52 (spec_l01Byte.calls g Y aa ac ga gb gg w0 _ B4x0_ (Ae1 HB (IsS107.gf ah)) A5.out) ?_; rintro w7 ⟨hi, hb, hk⟩; replace HK := Dk0 HK hk; replace HB := am hb; replace ah := am hi))
  go_ret; exact D0x0_
 obtain ⟨⟨gh, eC, eD⟩, A8, ar⟩ := bsi B
 (try dsimp only at ar)
 obtain ⟨⟨gi, eE, eF⟩, A9, ai⟩ := bsi ar
 (try dsimp only at ai)
 obtain ⟨⟨gj, eG, eH⟩, eT, ag⟩ := bsi ai
 (try dsimp only at ag)
 obtain ⟨⟨gl, gm, gn⟩, eU, aj⟩ := bsi ag
 (try dsimp only at aj)
 obtain ⟨du, az⟩ | ⟨du, az⟩ := sp aj
 ·exact absurd az (by simp)
 obtain ⟨g4, g5⟩ := nE du
 obtain ⟨rfl, rfl, rfl⟩ := s3 az
 clear az z l B ar ai ag aj
 go_enter Try.func41, Try.ntmps41
 go_wp2_with (first | ((with_reducible refine gate_callee (f := 52) rfl ?_); refine gM (some 18) Try.func52 (spec_l01Byte.calls g Y aa ac gh eC eD w0 _ B4x0_ (Ae1 HB (IsS107.gf ah)) A8.out) ?_; rintro dY ⟨hi, hb, hk⟩; replace HK := Dk0 HK hk; replace HB := am hb; replace ah := am hi) | ((with_reducible refine gate_callee (f := 52) rfl ?_); refine gM (some 20) Try.func52 (spec_l01Byte.calls g Y eC eD gi eE eF w0 _ B4x0_ (Ae1 HB (IsS107.gf ah)) A9.out) ?_; rintro hL ⟨hi, hb, hk⟩; replace HK := Dk0 HK hk; replace HB := am hb; replace ah := am hi) | ((with_reducible refine gate_callee (f := 52) rfl ?_); refine gM (some 22) Try.func52 (spec_l01Byte.calls g Y eE eF gj eG eH w0 _ B4x0_ (Ae1 HB (IsS107.gf ah)) eT.out) ?_; rintro hM ⟨hi, hb, hk⟩; replace HK := Dk0 HK hk; replace HB := am hb; replace ah := am hi) | ((with_reducible refine gate_callee (f := 52) rfl ?_); refine gM (some 24) Try.func52 (spec_l01Byte.calls g Y eG eH gl gm gn w0 _ B4x0_ (Ae1 HB (IsS107.gf ah)) eU.out) ?_; rintro hN ⟨hi, hb, hk⟩; replace HK := Dk0 HK hk; replace HB := am hb; replace ah := am hi))
 go_ret
 exact D0x0_
theorem B5x16_ (h : p := by simp only [putAll, Act.put, List.setIfInBounds_toArray, List.set_cons_zero, List.set_cons_succ]) : p := h
theorem B5x21_ (h : p := by exact (below_size (Ae2 HB ao ap))) : p := h
def spec_l15Copy.f (Z : List (S83)) (U : List (S81)) : Option ((List (S83)) × (List (S81))) := (some (([] : List (S83)) : List (S83))).bind fun b9 => (if b9.length + Z.length < 4398046511104 then ((some (([] : List (S81)) : List (S81))).bind fun co => (if co.length + U.length < 3518437208883 then (some ((b9 ++ Z), (co ++ U))) else (none))) else (none))
def spec_l15Copy.T1 : Bool × List (List Nat × List Nat) := (true, [([], []), ([], []), ([1], [1]), ([0, 2], [0, 2]), ([], []), ([], []), ([5], [5]), ([4, 6, 3], [4, 6]), ([3, 7], [3, 7]), ([8, 7, 0, 1, 2, 3, 4, 5, 6, 7, 8], [8])])
def spec_l15Copy.B1 : List Nat := [0, 0, 2, 7, 0, 0, 32, 127, 255, 511]
theorem spec_l15Copy.tab1 : rtab .any (opsOf Try.f58 1) = spec_l15Copy.T1 := by kernel_rfl
theorem spec_l15Copy.bits1 : waitsOk spec_l15Copy.T1.2 spec_l15Copy.B1 = true := by kernel_rfl
theorem spec_l15Copy.calls (av : Option Addr) (aA : Nat) (Z : List (S83)) (aw : Option Addr) (aC : Nat) (U : List (S81)) (r1 : List (S83)) (r2 : List (S81)) (w : World) (bS : Kd.C k83 w av Z.length Z) (bD : Z.length ≤ aA) (bF : Kd.C k81 w aw U.length U) (bE : U.length ≤ aC) (h : spec_l15Copy.f Z U = some (r1, r2)) :
  Calls Try.prog 58 #[.agg #[.slice av Z.length aA, .slice aw U.length aC]] w fun e w' => ∃ eL eM : Value, e = .returned (.agg #[eL, eM]) ∧ Kd.R k83 83 w' w.heap.size (fun _ => True) eL r1 ∧ Kd.R k81 81 w' w.heap.size (fun _ => True) eM r2 ∧ Below w.heap.size w w' := by
 have ew := Try.underlying47
 have cd := am bS
 have cJ := am bD
 clear bS bD
 have bL := am bF
 have dd := am bE
 clear bF bE
 have HB := am (Below.refl w.heap.size w)
 have z := h
 clear h
 unfold spec_l15Copy.f at z
 obtain ⟨b9, cy⟩ : ∃ y_ : List (S83), y_ = (([] : List (S83))) := ⟨_, rfl⟩
 (first | with_reducible replace z := hq cy z | rw [← cy] at z | simp only [← cy] at z)
 have cL := am cy
 clear cy
 obtain ⟨dh, l⟩ := ya z
 obtain ⟨eO, cz⟩ : ∃ y_ : List (S83), y_ = (b9 ++ Z) := ⟨_, rfl⟩
 (first | with_reducible replace l := hq cz l | rw [← cz] at l | simp only [← cz] at l)
 have dm := am cz
 clear cz
 obtain ⟨co, cA⟩ : ∃ y_ : List (S81), y_ = (([] : List (S81))) := ⟨_, rfl⟩
 (first | with_reducible replace l := hq cA l | rw [← cA] at l | simp only [← cA] at l)
 have ch := am cA
 clear cA
 obtain ⟨e7, B⟩ := ya l
 obtain ⟨gF, cB⟩ : ∃ y_ : List (S81), y_ = (co ++ U) := ⟨_, rfl⟩
 (first | with_reducible replace B := hq cB B | rw [← cB] at B | simp only [← cB] at B)
 have e8 := am cB
 clear cB
 obtain ⟨rfl, rfl⟩ := s2 B
 clear B z l
 go_enter Try.func58, Try.ntmps58
 try go_wp2_with (first | ((with_reducible refine gate_dst (N := 1) rfl ?_); refine bx (N := 1) (cs := #[.slice av Z.length aA, .slice aw U.length aC]) (t := 47) ?_; intro bQ hg w4 hbox hb; have M := am hbox; have ao := gA hg HB; replace HB := hA HB hb; clear hb hbox hg) | ((with_reducible refine gate_dst (N := 2) rfl ?_); refine bx (N := 2) (cs := #[.slice none 0 0, .slice none 0 0]) (t := 47) ?_; intro bC hg w5 hbox hb; have ae := am hbox; have ap := gA hg HB; replace HB := De1 HB ao hb; have cg := nA hg M; have ec := mA hg M; replace M := bA M hb; clear hb hbox hg))
 replace M := dA M
 replace ae := dA ae
 replace HB := bdr HB
 refine st_ 10 (fun w' => w'.cell? ⟨bQ, 0, none⟩ = some (.slice av Z.length aA) ∧ w'.cell? ⟨bQ, 1, none⟩ = some (.slice aw U.length aC)) [] spec_l15Copy.tab1 spec_l15Copy.bits1 ⟨bc M 0, bc M 1⟩ (fun au aI eb => ?_)
 generalize w5.drew = w6 at M ae HB au ⊢
 refine pu_ 1 4 aI ?_
 refine pu_ 5 8 aI ?_
 refine ta_ 2 5 aI eb au ?_
 refine ta_ 6 9 aI eb au ?_
 refine join_ (σ := Value × Value × Value) 3 #[true, true, true, true, true, true, true, false, false, false] (fun s_ => [(3, s_.1), (6, s_.2.1), (7, s_.2.2)]) (fun s_ w' => (w'.cell? ⟨bQ, 0, none⟩ = some (.slice av Z.length aA) ∧ w'.cell? ⟨bQ, 1, none⟩ = some (.slice aw U.length aC)) ∧ (Kd.R k83 83 w' w.heap.size (fun _ => True) s_.2.1 eO) ∧ (Kd.R k81 81 w' w.heap.size (fun _ => True) s_.2.2 co) ∧ (w'.heap[bQ]? = some (.cells #[.slice av Z.length aA, .slice aw U.length aC] 47 (0, 0))) ∧ (w'.heap[bC]? = some (.cells #[.slice none 0 0, .slice none 0 0] 47 (0, 0))) ∧ (Below w.heap.size w w')) ?_ ?_
 rotate_left
 ·intro dG; refine two_ (i := 0) (j := 4) (Ni := some 3) (Nj := some 7) #[true, true, true, false, false, true, true, false, false, false] #[false, true, true, false, true, true, true, false, false, false] rfl rfl rfl rfl (two_of aI.out gk_) (by decide) (by decide) (fun K hK => ?_) (fun K hK => ?_)
  ·skip
   refine lS k83 83 3 ([] : List (S83)) [] (Reps.none _ _) ?_; intro bH w7 bk hb
   (first | rw [← cL.out] at bk | (simp only [Int.reduceToNat] at bk; rw [← cL.out] at bk))
   have ax := am (Kd.R_lower bk (below_size (Ae2 HB ao ap))); replace M := bA M hb; replace ae := bA ae hb; replace HB := De2 HB ao ap hb; clear hb bk; refine hK.out _ _ ⟨bc M 0, bc M 1⟩ (fun au => nm_ ?_); clear hK K; refine two_ (i := 3) (j := 4) (Ni := some 6) (Nj := some 7) #[true, true, true, true, false, true, true, false, false, false] #[true, true, true, false, true, true, true, false, false, false] rfl rfl rfl rfl (two_of aI.out gk_) (by decide) (by decide) (fun K hK => ?_) (fun K hK => ?_)
   ·skip
    refine Kd.R_append_rows_step k83 (w0 := w) w.heap.size (by rfl) (.tmp 3) (.tmp 5) 44 83 (.agg #[(.int .i64 0), (.int .i64 0), (.string ⟨#[]⟩)]) 32 rfl Try.underlying44 info83 rfl (by decide) (by omega) bH b9 Z _ _ _ (fun _ => True) (fun _ => False) rfl rfl ?aO ?aR (fun _ _ h => h) (fun _ h => h.elim) ?aF ?aB ?aS ?aL ?_
    (case aR => exact (tc (Kd.C_below cd.out HB.out)))
    (case aB => exact (Ae2 HB ao ap))
    (case aF => exact (fun _ _ => trivial))
    (case aO => exact (Ar ax))
    (case aS => exact B5x21_)
    (case aL => have := dh.out; omega)
    intro ck w9 ho hb hg hat; rw [← dm.out] at ho; replace M := bg M hg (Kd.R_ne ax.out M.out (by decide)); replace ae := bg ae hg (Kd.R_ne ax.out ae.out (by decide)); replace HB := am hb; have a8 := am ho; clear ax; clear ho hb hg hat; refine hK.out _ _ ⟨bc M 0, bc M 1⟩ (fun au => nm_ ?_); clear hK K; refine on_ 4 (some 7) aI (fun K hK => ?_); refine lS k81 81 7 ([] : List (S81)) [] (Reps.none _ _) ?_; intro b6 gB bj hb
    (first | rw [← ch.out] at bj | (simp only [Int.reduceToNat] at bj; rw [← ch.out] at bj))
    replace a8 := rA a8 hb; have ay := am (Kd.R_lower bj (below_size (Ae2 HB ao ap))); replace M := bA M hb; replace ae := bA ae hb; replace HB := De2 HB ao ap hb; clear hb bj; refine hK.out _ _ ⟨bc M 0, bc M 1⟩ (fun au => nm_ ?_); clear hK K; exact norm_ B5x16_ (dG (bH, ck, b6) _ ⟨au, (Ar a8), (Ar ay), (Ab M), (Ab ae), (Ae2 HB ao ap)⟩)
   ·skip
    refine lS k81 81 7 ([] : List (S81)) [] (Reps.none _ _) ?_; intro b6 w9 bi hb
    (first | rw [← ch.out] at bi | (simp only [Int.reduceToNat] at bi; rw [← ch.out] at bi))
    replace ax := rA ax hb; have ay := am (Kd.R_lower bi (below_size (Ae2 HB ao ap))); replace M := bA M hb; replace ae := bA ae hb; replace HB := De2 HB ao ap hb; clear hb bi; refine hK.out _ _ ⟨bc M 0, bc M 1⟩ (fun au => nm_ ?_); clear hK K; refine on_ 3 (some 6) aI (fun K hK => ?_); refine Kd.R_append_rows_step k83 (w0 := w) w.heap.size (by rfl) (.tmp 3) (.tmp 5) 44 83 (.agg #[(.int .i64 0), (.int .i64 0), (.string ⟨#[]⟩)]) 32 rfl Try.underlying44 info83 rfl (by decide) (by omega) bH b9 Z _ _ _ (fun _ => True) (fun _ => False) rfl rfl ?aO ?aR (fun _ _ h => h) (fun _ h => h.elim) ?aF ?aB ?aS ?aL ?_
    (case aR => exact (tc (Kd.C_below cd.out HB.out)))
    (case aB => exact (Ae2 HB ao ap))
    (case aF => exact (fun _ _ => trivial))
    (case aO => exact (Ar ax))
    (case aS => exact B5x21_)
    (case aL => have := dh.out; omega)
    intro ck eN ho hb hg hat; rw [← dm.out] at ho; replace M := bg M hg (Kd.R_ne ax.out M.out (by decide)); replace ae := bg ae hg (Kd.R_ne ax.out ae.out (by decide)); replace ay := am (Kd.R_over' (Ar ay) (Kd.R_typed (Ar ax)) (by decide) hg); replace HB := am hb; have a8 := am ho; clear ax; clear ho hb hg hat; refine hK.out _ _ ⟨bc M 0, bc M 1⟩ (fun au => nm_ ?_); clear hK K; exact norm_ B5x16_ (dG (bH, ck, b6) _ ⟨au, (Ar a8), (Ar ay), (Ab M), (Ab ae), (Ae2 HB ao ap)⟩)
  ·skip
   refine lS k81 81 7 ([] : List (S81)) [] (Reps.none _ _) ?_; intro b6 w7 bk hb
   (first | rw [← ch.out] at bk | (simp only [Int.reduceToNat] at bk; rw [← ch.out] at bk))
   have ay := am (Kd.R_lower bk (below_size (Ae2 HB ao ap))); replace M := bA M hb; replace ae := bA ae hb; replace HB := De2 HB ao ap hb; clear hb bk; refine hK.out _ _ ⟨bc M 0, bc M 1⟩ (fun au => nm_ ?_); clear hK K; refine on_ 0 (some 3) aI (fun K hK => ?_); refine lS k83 83 3 ([] : List (S83)) [] (Reps.none _ _) ?_; intro bH w9 bi hb
   (first | rw [← cL.out] at bi | (simp only [Int.reduceToNat] at bi; rw [← cL.out] at bi))
   replace ay := rA ay hb; have ax := am (Kd.R_lower bi (below_size (Ae2 HB ao ap))); replace M := bA M hb; replace ae := bA ae hb; replace HB := De2 HB ao ap hb; clear hb bi; refine hK.out _ _ ⟨bc M 0, bc M 1⟩ (fun au => nm_ ?_); clear hK K; refine on_ 3 (some 6) aI (fun K hK => ?_); refine Kd.R_append_rows_step k83 (w0 := w) w.heap.size (by rfl) (.tmp 3) (.tmp 5) 44 83 (.agg #[(.int .i64 0), (.int .i64 0), (.string ⟨#[]⟩)]) 32 rfl Try.underlying44 info83 rfl (by decide) (by omega) bH b9 Z _ _ _ (fun _ => True) (fun _ => False) rfl rfl ?aO ?aR (fun _ _ h => h) (fun _ h => h.elim) ?aF ?aB ?aS ?aL ?_
   (case aR => exact (tc (Kd.C_below cd.out HB.out)))
   (case aB => exact (Ae2 HB ao ap))
   (case aF => exact (fun _ _ => trivial))
   (case aO => exact (Ar ax))
   (case aS => exact B5x21_)
   (case aL => have := dh.out; omega)
   intro ck eN ho hb hg hat; rw [← dm.out] at ho; replace M := bg M hg (Kd.R_ne ax.out M.out (by decide)); replace ae := bg ae hg (Kd.R_ne ax.out ae.out (by decide)); replace ay := am (Kd.R_over' (Ar ay) (Kd.R_typed (Ar ax)) (by decide) hg); replace HB := am hb; have a8 := am ho; clear ax; clear ho hb hg hat; refine hK.out _ _ ⟨bc M 0, bc M 1⟩ (fun au => nm_ ?_); clear hK K; exact norm_ B5x16_ (dG (bH, ck, b6) _ ⟨au, (Ar a8), (Ar ay), (Ab M), (Ab ae), (Ae2 HB ao ap)⟩)
 rintro ⟨bH, ck, b6⟩ dX ⟨hS_, em, en, eo, ep, eq⟩
 replace a8 := am em
 replace ay := am en
 replace M := am eo
 replace ae := am ep
 replace HB := am eq
 clear em en eo ep eq
 have au : dX.cell? ⟨bQ, 0, none⟩ = some (.slice av Z.length aA) ∧ dX.cell? ⟨bQ, 1, none⟩ = some (.slice aw U.length aC) := hS_
 refine norm_ (a' := ?_) ?_ ?_
 rotate_left
 ·simp only [putAll, Act.put, List.setIfInBounds_toArray, List.set_cons_zero, List.set_cons_succ]; rfl
 refine on_ 7 (some 10) aI (fun K hK => ?_)
 refine Kd.R_append_rows_step k81 (w0 := w) w.heap.size (by rfl) (.tmp 7) (.tmp 9) 45 81 (.agg #[(.string ⟨#[]⟩), (.string ⟨#[]⟩), (.int .i64 0)]) 40 rfl Try.underlying45 info81 rfl (by decide) (by omega) b6 co U _ _ _ (fun _ => True) (fun _ => False) rfl rfl ?aO ?aR (fun _ _ h => h) (fun _ h => h.elim) ?aF ?aB ?aS ?aL ?_
 (case aR => repeat (first | exact (Kd.C_below bL.out HB.out) | (with_reducible refine Kd.C_alloc ?_ _) | (with_reducible refine Kd.C_drewN ?_ _) | (with_reducible refine Kd.C_drew ?_)))
 (case aB => exact (Ae2 HB ao ap))
 (case aF => exact (fun _ _ => trivial))
 (case aO => exact (Ar ay))
 (case aS => exact B5x21_)
 (case aL => have := e7.out; omega)
 intro hH dY ho hb hg hat
 rw [← e8.out] at ho
 replace M := bg M hg (Kd.R_ne ay.out M.out (by decide))
 replace ae := bg ae hg (Kd.R_ne ay.out ae.out (by decide))
 replace a8 := am (Kd.R_over' (Ar a8) (Kd.R_typed (Ar ay)) (by decide) hg)
 replace HB := am hb
 have d9 := am ho
 clear ay
 clear ho hb hg hat
 obtain ⟨eW, fC, eh⟩ := Kd.R_slice d9.out
 (first | subst eh | (injection eh with f1_ f2_ f3_; have f4_ := f1_.symm; have f5_ := f3_.symm; clear f1_ f2_ f3_; subst f4_; subst f5_))
 obtain ⟨eX, fD, ei⟩ := Kd.R_slice a8.out
 (first | subst ei | (injection ei with f1_ f2_ f3_; have f4_ := f1_.symm; have f5_ := f3_.symm; clear f1_ f2_ f3_; subst f4_; subst f5_))
 refine hK.out _ _ ⟨bc M 0, bc M 1⟩ (fun au => nm_ ?_)
 clear hK K
 refine pu_ 8 11 aI ?_
 refine on_ 9 none aI (fun K hK => ?_)
 have hx : dY.cell? ⟨bC, 0, none⟩ = some (.slice none 0 0) := bc ae 0
 have hh := blk_frozen ae.out 0
 obtain ⟨hu, hl⟩ := o2_ cg ec
 have hz : dY.cell? ⟨bC, 1, none⟩ = some (.slice none 0 0) := bc ae 1
 have hj := blk_frozen ae.out 1
 obtain ⟨hv, hm⟩ := o2_ cg ec
 refine skip_ (w1 := ?_) (by rfl) rfl ?_ ?_
 rotate_left
 ·go_simp; rfl
 refine hK.out _ _ ⟨((cell_far (p := ⟨bC, _, none⟩) cg.out _).trans (((cell_far (p := ⟨bC, _, none⟩) cg.out _).trans (au.1)))), ((cell_far (p := ⟨bC, _, none⟩) cg.out _).trans (((cell_far (p := ⟨bC, _, none⟩) cg.out _).trans (au.2))))⟩ (fun au => ?_)
 clear hK K
 refine done_ (done_of aI.out gk_) ?_
 try go_wp2
 refine bodyPost_ret (results_cell_row rfl _ _ bC 47 #[.slice eX eO.length fD, .slice eW gF.length fC] (0, 0) _ rfl (Ap0 ae) Try.underlying47 rfl gk_) rfl ?_
 exact ⟨_, _, B4x7_, (tfg a8.out ae.out (by decide)), (tfg d9.out ae.out (by decide)), (Ae2 HB ao ap)⟩

def spec_l01Once.f (Y : List Int) (aa : Int) (ac : Int) (a1 : Int) : Option (Bool × Int × Int) := (spec_l01Below.f Y aa ac a1).bind fun dt => (some ((dt.1 == 0), dt.2.1, dt.2.2))
theorem spec_l01Once.calls (g : Nat) (Y : List Int) (aa : Int) (ac : Int) (a1 : Int) (r1 : Bool) (r2 : Int) (r3 : Int) (w0 w : World) (hI : IsS107 w0 w g Y aa ac) (hB : Below w0.heap.size w0 w) (h : spec_l01Once.f Y aa ac a1 = some (r1, r2, r3)) :
  Calls Try.prog 42 #[.pointer (some ⟨g, 0, none⟩), .int .i64 a1] w fun e w' => e = .returned (.bool r1) ∧ IsS107 w0 w' g Y r2 r3 ∧ Below w0.heap.size w0 w' ∧ KeepBut w w' g none := by
 have ah := am hI
 have HK := am (KeepBut.refl w g none)
 have HL := am hB.size
 clear hI
 have bM := am hB.size
 have HB := am hB
 clear hB
 have z := h
 clear h
 unfold spec_l01Once.f at z
 obtain ⟨⟨gp, gq, gr⟩, A3, l⟩ := bsi z
 (try dsimp only at l)
 obtain ⟨rfl, rfl, rfl⟩ := s3 l
 clear l z
 go_enter Try.func42, Try.ntmps42
 go_wp2_with (first | ((with_reducible refine gate_callee (f := 41) rfl ?_); refine gM (some 7) Try.func41 (spec_l01Below.calls g Y aa ac a1 gp gq gr w0 _ B4x0_ (Ae1 HB (IsS107.gf ah)) A3.out) ?_; rintro w4 ⟨hi, hb, hk⟩; replace HK := Dk0 HK hk; replace HB := am hb; replace ah := am hi))
 go_ret
 exact D0x0_

def spec_l01PickInt.f (Y : List Int) (aa : Int) (ac : Int) (l1 : List Int) : Option (Int × Int × Int) := (spec_l01Below.f Y aa ac (l1.length : Int)).bind fun cu => (if 0 ≤ cu.1 then (if cu.1 < (l1.length : Int) then (some (rd l1 cu.1, cu.2.1, cu.2.2)) else (none)) else (none))
theorem spec_l01PickInt.calls (g : Nat) (Y : List Int) (aa : Int) (ac : Int) (A1 : Option Addr) (c1 : Nat) (l1 : List Int) (r1 : Int) (r2 : Int) (r3 : Int) (w0 w : World) (hI : IsS107 w0 w g Y aa ac) (hB : Below w0.heap.size w0 w) (bm : Kd.C (Kd.int .i64) w A1 l1.length l1) (bh : l1.length ≤ c1) (bR : ∀ ad, A1 = some ad → 0 < l1.length → ad.block ≠ g) (h : spec_l01PickInt.f Y aa ac l1 = some (r1, r2, r3)) :
  Calls Try.prog 80 #[.pointer (some ⟨g, 0, none⟩), .slice A1 l1.length c1] w fun e w' => e = .returned (.int .i64 r1) ∧ IsS107 w0 w' g Y r2 r3 ∧ Below w0.heap.size w0 w' ∧ KeepBut w w' g none := by
 have bu := am bm
 have de := am bh
 clear bm bh
 have ah := am hI
 have HK := am (KeepBut.refl w g none)
 have HL := am hB.size
 clear hI
 have bM := am hB.size
 have HB := am hB
 clear hB
 have z := h
 clear h
 unfold spec_l01PickInt.f at z
 obtain ⟨⟨cV, gs, gu⟩, A3, l⟩ := bsi z
 (try dsimp only at l)
 obtain ⟨aK, B⟩ := yd l
 obtain ⟨ci, J⟩ := yd B
 obtain ⟨rfl, rfl, rfl⟩ := s3 J
 clear J z l B
 go_enter Try.func80, Try.ntmps80
 go_wp2_with (first | ((with_reducible refine gate_callee (f := 41) rfl ?_); refine gM (some 9) Try.func41 (spec_l01Below.calls g Y aa ac (l1.length : Int) cV gs gu w0 _ B4x0_ (Ae1 HB (IsS107.gf ah)) A3.out) ?_; rintro w6 ⟨hi, hb, hk⟩; replace HK := Dk0 HK hk; replace HB := am hb; replace ah := am hi; have dM : 0 ≤ (cV : Int) := dga; have dR : cV < (l1.length : Int) := dga; obtain ⟨fe, fG, ey⟩ := Kd.at_int bu.out cV dM dR; cases fG; replace ey := keep_cell HK.out ey (by first | (rw [add_block]; exact bR _ rfl (by omega)) | exact bR _ rfl (by omega) | exact bR fe rfl (by omega)); replace dM := eq_true dM; replace dR := eq_true dR))
 go_ret
 exact D0x0_

def spec_l01Pick.f (Y : List Int) (aa : Int) (ac : Int) (l1 : List ByteArray) : Option (ByteArray × Int × Int) := (spec_l01Below.f Y aa ac (l1.length : Int)).bind fun cv => (if 0 ≤ cv.1 then (if cv.1 < (l1.length : Int) then (some (rdOf ByteArray.empty l1 cv.1, cv.2.1, cv.2.2)) else (none)) else (none))
theorem spec_l01Pick.calls (g : Nat) (Y : List Int) (aa : Int) (ac : Int) (A1 : Option Addr) (c1 : Nat) (l1 : List ByteArray) (r1 : ByteArray) (r2 : Int) (r3 : Int) (w0 w : World) (hI : IsS107 w0 w g Y aa ac) (hB : Below w0.heap.size w0 w) (bm : Kd.C Kd.string w A1 l1.length l1) (bh : l1.length ≤ c1) (bR : ∀ ad, A1 = some ad → 0 < l1.length → ad.block ≠ g) (h : spec_l01Pick.f Y aa ac l1 = some (r1, r2, r3)) :
  Calls Try.prog 88 #[.pointer (some ⟨g, 0, none⟩), .slice A1 l1.length c1] w fun e w' => e = .returned (.string r1) ∧ IsS107 w0 w' g Y r2 r3 ∧ Below w0.heap.size w0 w' ∧ KeepBut w w' g none := by
 have bu := am bm
 have de := am bh
 clear bm bh
 have ah := am hI
 have HK := am (KeepBut.refl w g none)
 have HL := am hB.size
 clear hI
 have bM := am hB.size
 have HB := am hB
 clear hB
 have z := h
 clear h
 unfold spec_l01Pick.f at z
 obtain ⟨⟨cW, gv, gw⟩, A3, l⟩ := bsi z
 (try dsimp only at l)
 obtain ⟨aK, B⟩ := yd l
 obtain ⟨ci, J⟩ := yd B
 obtain ⟨rfl, rfl, rfl⟩ := s3 J
 clear J z l B
 go_enter Try.func88, Try.ntmps88
 go_wp2_with (first | ((with_reducible refine gate_callee (f := 41) rfl ?_); refine gM (some 9) Try.func41 (spec_l01Below.calls g Y aa ac (l1.length : Int) cW gv gw w0 _ B4x0_ (Ae1 HB (IsS107.gf ah)) A3.out) ?_; rintro w6 ⟨hi, hb, hk⟩; replace HK := Dk0 HK hk; replace HB := am hb; replace ah := am hi; have dN : 0 ≤ (cW : Int) := dga; have dS : cW < (l1.length : Int) := dga; obtain ⟨ff, fH, ez⟩ := Kd.at_string bu.out cW dN dS; cases fH; replace ez := keep_cell HK.out ez (by first | (rw [add_block]; exact bR _ rfl (by omega)) | exact bR _ rfl (by omega) | exact bR ff rfl (by omega)); replace dN := eq_true dN; replace dS := eq_true dS))
 go_ret
 exact D0x0_

def spec_ItemOf.l0 : Nat → ByteArray → Int → List (S83) → List (S81) → Option (ByteArray × ByteArray × Int × Bool)
 | 0, _, _, _, _ => none
 | k + 1, x1, x6, gC, cl => if x6 < (cl.length : Int) then (if 0 ≤ x6 then (if ((rd_T81 cl x6).f0).toList = x1.toList then (some ((rd_T81 cl x6).f0, (rd_T81 cl x6).f1, (rd_T81 cl x6).f2, true)) else (spec_ItemOf.l0 k x1 (wrap64 (x6 + 1)) gC cl)) else (none)) else (some ((⟨#[]⟩ : ByteArray), (⟨#[]⟩ : ByteArray), 0, false))
def spec_ItemOf.f (k : Nat) (Z : List (S83)) (U : List (S81)) (a1 : ByteArray) : Option (ByteArray × ByteArray × Int × Bool) := spec_ItemOf.l0 k a1 0 Z U
theorem spec_ItemOf.calls (k : Nat) (av : Option Addr) (aA : Nat) (Z : List (S83)) (aw : Option Addr) (aC : Nat) (U : List (S81)) (a1 : ByteArray) (r1 : ByteArray) (r2 : ByteArray) (r3 : Int) (r4 : Bool) (w : World) (bS : Kd.C k83 w av Z.length Z) (bD : Z.length ≤ aA) (bF : Kd.C k81 w aw U.length U) (bE : U.length ≤ aC) (h : spec_ItemOf.f k Z U a1 = some (r1, r2, r3, r4)) :
  Calls Try.prog 110 #[.agg #[.slice av Z.length aA, .slice aw U.length aC], .string a1] w fun e w' => e = .returned (.tuple #[.agg #[.string r1, .string r2, .int .i64 r3], .bool r4]) ∧ Below w.heap.size w w' := by
 have ew := Try.underlying47
 have fS := Try.underlying81
 have cJ := am bD
 clear bS bD
 have bL := am bF
 have dd := am bE
 clear bF bE
 have HB := am (Below.refl w.heap.size w)
 have z := h
 clear h
 unfold spec_ItemOf.f at z
 replace z := am z
 go_enter Try.func110, Try.ntmps110
 go_wp2_with (first | ((with_reducible refine gate_dst (N := 2) rfl ?_); refine bx (N := 2) (cs := #[.slice av Z.length aA, .slice aw U.length aC]) (t := 47) ?_; intro fL hg w3 hbox hb; have bo := am hbox; have cq := gA hg HB; replace HB := hA HB hb; clear hb hbox hg) | ((with_reducible refine gate_dst (N := 4) rfl ?_); refine bx (N := 4) (cs := #[.string (⟨#[]⟩ : ByteArray), .string (⟨#[]⟩ : ByteArray), .int .i64 0]) (t := 81) ?_; intro dF hg w4 hbox hb; have bJ := am hbox; have cI := gA hg HB; replace HB := De1 HB cq hb; have dk := nA hg bo; have dl := mA hg bo; replace bo := bA bo hb; clear hb hbox hg))
 go_loopg [6] k (fun kq v6 w' => ∃ (aG : Int) (dZ : ByteArray) (d0 : ByteArray) (d1 : Int), v6 = .int .i64 aG ∧ Aside0 (spec_ItemOf.l0 kq a1 aG Z U = some (r1, r2, r3, r4)) ∧ Aside0 (kq ≤ k) ∧ Aside0 (w'.heap[fL]? = some (.cells #[(.slice av Z.length aA), (.slice aw U.length aC)] 47 (0, 0))) ∧ Aside0 (w'.heap[dF]? = some (.cells #[.string dZ, .string d0, .int .i64 d1] 81 (0, 0))) ∧ Aside0 (Below w.heap.size w w'))
 case atStart => exact ⟨(0), ((⟨#[]⟩ : ByteArray)), ((⟨#[]⟩ : ByteArray)), 0, be_, z, ⟨Nat.le_refl _⟩, Cb bo, Cb bJ, Ce2 HB cq cI⟩
 case round =>
  clear z; obtain ⟨aG, dZ, d0, d1, rfl, l, a4, bo, bJ, HB⟩ := hrel
  cases gk with
  | zero => exact absurd l.out (by simp [spec_ItemOf.l0])
  | succ k1 => ?_
  replace l := l.out; simp only [spec_ItemOf.l0] at l
  obtain ⟨ci, B⟩ | ⟨ci, B⟩ := sd l
  ·obtain ⟨dx, J⟩ := yd B
   obtain ⟨c7, af⟩ | ⟨c7, af⟩ := sp J
   ·obtain ⟨bw, fz⟩ := yE c7; clear c7; obtain ⟨rfl, rfl, rfl, rfl⟩ := s4 af; clear af l B J; obtain ⟨fP, fR⟩ := o2_ dk dl; obtain ⟨eP, eQ, eR, eS⟩ := cf2 bo
    have b0 : 0 ≤ (aG : Int) := dga
    have b5 : aG < (U.length : Int) := dga
    obtain ⟨ee, dE, bT, bU, bV⟩ := at_T81 bL.out aG b0 b5; cases dE; replace bT := (hbc HB bT).trans bT; replace bU := (hbc HB bU).trans bU; replace bV := (hbc HB bV).trans bV; replace b0 := eq_true b0; replace b5 := eq_true b5
    have dO : 0 ≤ (aG : Int) := dga
    have dT : aG < (U.length : Int) := dga
    obtain ⟨fg, fI, dH, dI, dJ⟩ := at_T81 bL.out aG dO dT; obtain rfl : ee = fg := (by injection fI); replace dH := (hbc HB dH).trans dH; replace dI := (hbc HB dI).trans dI; replace dJ := (hbc HB dJ).trans dJ; replace dO := eq_true dO; replace dT := eq_true dT; obtain ⟨gN, gO, gP, gW, gX, gY⟩ := cf3 bJ
    go_wp2
    refine bodyPost_ret (results_ct rfl _ _ dF 81 #[.string ((rd_T81 U aG).f0), .string ((rd_T81 U aG).f1), .int .i64 ((rd_T81 U aG).f2)] (0, 0) _ rfl (Ap0 bJ) Try.underlying81 rfl gk_) rfl ?_; exact ⟨B4x7_, (Ae2 HB cq cI)⟩
   obtain ⟨bw, fz⟩ := nE c7; replace af := am af; clear l B J; obtain ⟨hn, hs⟩ := o2_ dk dl; obtain ⟨eP, eQ, eR, eS⟩ := cf2 bo
   have b0 : 0 ≤ (aG : Int) := dga
   have b5 : aG < (U.length : Int) := dga
   obtain ⟨ee, dE, bT, bU, bV⟩ := at_T81 bL.out aG b0 b5; cases dE; replace bT := (hbc HB bT).trans bT; replace bU := (hbc HB bU).trans bU; replace bV := (hbc HB bV).trans bV; replace b0 := eq_true b0; replace b5 := eq_true b5
   go_wp2
   go_roundg k1
   case measure => have := a4.out; omega
   case rel => exact ⟨(wrap64 (aG + 1)), dZ, d0, d1, be_, af, ⟨(by have := a4.out; omega)⟩, Cb bo, Cb bJ, Ce2 HB cq cI⟩
  obtain ⟨rfl, rfl, rfl, rfl⟩ := s4 B; clear B l; obtain ⟨fO, fQ⟩ := o2_ dk dl; obtain ⟨eP, eQ, eR, eS⟩ := cf2 bo; obtain ⟨gN, gO, gP, gW, gX, gY⟩ := cf3 bJ
  go_wp2
  refine bodyPost_ret (results_ct rfl _ _ dF 81 #[.string (⟨#[]⟩ : ByteArray), .string (⟨#[]⟩ : ByteArray), .int .i64 0] (0, 0) _ rfl (Ap0 bJ) Try.underlying81 rfl gk_) rfl ?_; exact ⟨B4x7_, (Ae2 HB cq cI)⟩
def spec_l01In.f (a0 : Int) (a1 : Int) (a2 : Int) : Option (Bool) := if a0 ≥ a1 then (some (decide (a0 ≤ a2))) else (some false)
theorem spec_l01In.calls (a0 : Int) (a1 : Int) (a2 : Int) (r : Bool) (w : World) (h : spec_l01In.f a0 a1 a2 = some r) :
  Calls Try.prog 47 #[.int .i64 a0, .int .i64 a1, .int .i64 a2] w fun e w' => e = .returned (.bool r) ∧ Drawn0 w w' := by
 have z := h
 clear h
 unfold spec_l01In.f at z
 obtain ⟨c4, l⟩ | ⟨c4, l⟩ := sp z
 ·have aK : decide (a1 ≤ a0) = true := decide_eq_true c4
  clear c4; obtain rfl := Option.some.inj l; clear l z; go_enter Try.func47, Try.ntmps47
  go_wp2
  go_ret; exact ⟨gr_, gd_⟩
 have aK : decide (a1 ≤ a0) = false := decide_eq_false c4
 clear c4
 obtain rfl := Option.some.inj l
 clear l z
 go_enter Try.func47, Try.ntmps47
 go_wp2
 go_ret
 exact ⟨gr_, gd_⟩
theorem B11x7_ (h : p := by have := e3.out; first | omega | exact Nat.le_refl _) : p := h
mutual
def spec_CommandOk.j0 : Nat → Bool → Int → Int → Int → ByteArray → ByteArray → Int → Option (Bool)
 | 0, _, _, _, _, _, _, _ => none
 | k + 1, gD, cm, cY, cZ, cE, cn, b8 => if gD = true then (some false) else (if cm = 1 then (if cY = 0 then (if cZ = 0 then (if cE.toList = ([] : List UInt8) then (if cn.toList = ([] : List UInt8) then (some (b8 == 0)) else (some false)) else (some false)) else (some false)) else (some false)) else ((spec_l01In.f (cE.size : Int) 1 8).bind fun eK => (if eK = true then (spec_CommandOk.j1 k (decide ((cn.size : Int) > 20)) cm cY cZ cE cn b8) else (spec_CommandOk.j1 k true cm cY cZ cE cn b8))))
def spec_CommandOk.j1 : Nat → Bool → Int → Int → Int → ByteArray → ByteArray → Int → Option (Bool)
 | 0, _, _, _, _, _, _, _ => none
 | k + 1, gE, cm, cY, cZ, cE, cn, b8 => if gE = true then (some false) else (if cm = 2 then (some (b8 == 0)) else (if cm = 5 then ((spec_l01In.f b8 1 1000000000).bind fun dV => (some dV)) else (if cn.toList = ([] : List UInt8) then (some (b8 == 0)) else (some false))))
end
def spec_CommandOk.f (k : Nat) (a5 : Int) (aH : Int) (aJ : Int) (a6 : ByteArray) (a9 : ByteArray) (ba : Int) : Option (Bool) := (spec_l01In.f aH 0 1000000).bind fun eI => (if eI = true then ((spec_l01In.f aJ 0 1000000).bind fun eJ => (if eJ = true then ((spec_l01In.f a5 1 5).bind fun cX => (spec_CommandOk.j0 k (!cX) a5 aH aJ a6 a9 ba)) else (spec_CommandOk.j0 k true a5 aH aJ a6 a9 ba))) else (spec_CommandOk.j0 k true a5 aH aJ a6 a9 ba))
theorem spec_CommandOk.calls (k : Nat) (a5 : Int) (aH : Int) (aJ : Int) (a6 : ByteArray) (a9 : ByteArray) (ba : Int) (r : Bool) (w : World) (h : spec_CommandOk.f k a5 aH aJ a6 a9 ba = some r) :
  Calls Try.prog 36 #[.agg #[.int .i64 a5, .int .i64 aH, .int .i64 aJ, .string a6, .string a9, .int .i64 ba]] w fun e w' => e = .returned (.bool r) ∧ Below w.heap.size w w' := by
 have hD := Try.underlying59
 have HB := am (Below.refl w.heap.size w)
 have z := h
 clear h
 unfold spec_CommandOk.f at z
 replace z := am z
 go_enter Try.func36, Try.ntmps36
 go_upto_region 1 with (first | ((with_reducible refine gate_dst (N := 1) rfl ?_); (try (refine gate_guard (by rfl) ?_; dsimp only)); refine bx (N := 1) (cs := #[.int .i64 a5, .int .i64 aH, .int .i64 aJ, .string a6, .string a9, .int .i64 ba]) (t := 59) ?_; intro el hg w3 hbox hb; have al := am hbox; have aD := gA hg HB; replace HB := hA HB hb; clear hb hbox hg))
 (try simp only [Act.put, List.setIfInBounds_toArray, List.set_cons_zero, List.set_cons_succ])
 go_cut [18] (fun gx wc => ∃ (kq : Nat) (d2 : Bool), gx = .bool d2 ∧ Aside0 (spec_CommandOk.j0 kq d2 a5 aH aJ a6 a9 ba = some r) ∧ Aside0 (kq ≤ k) ∧ Hc wc el #[.int .i64 a5, .int .i64 aH, .int .i64 aJ, .string a6, .string a9, .int .i64 ba] 59 ∧ Hb w wc)
 case first =>
  replace z := z.out; obtain ⟨eI, A4, l⟩ := bsi z; (try dsimp only at l)
  obtain ⟨rfl, B⟩ | ⟨rfl, B⟩ := sb l
  ·obtain ⟨eJ, A6, J⟩ := bsi B; (try dsimp only at J)
   obtain ⟨rfl, af⟩ | ⟨rfl, af⟩ := sb J
   ·obtain ⟨cX, A8, ar⟩ := bsi af; (try dsimp only at ar); replace ar := am ar; clear z l B J af; obtain ⟨aM, aN, aP, aQ, aT, aU, aV, aW, aX, aY, aZ, a3⟩ := cf6 al
    go_wp2_with (first | ((with_reducible refine gate_callee (f := 47) rfl ?_); refine gM (some 5) Try.func47 (spec_l01In.calls aH 0 1000000 true _ A4.out) ?_; rintro w' ⟨nd, rfl⟩) | (go_at_call 47; (with_reducible refine (spec_l01In.calls aJ 0 1000000 true _ A6.out).mono ?_); rintro e w' ⟨rfl, ⟨nd, rfl⟩⟩) | (go_at_call 47; (with_reducible refine (spec_l01In.calls a5 1 5 cX _ A8.out).mono ?_); rintro e w' ⟨rfl, ⟨nd, rfl⟩⟩))
    go_meet
    case rel => exact ⟨_, (!cX), be_, ar, ⟨gl_⟩, Cb al, Ce1 HB aD⟩
   ·replace af := am af; clear z l B J; obtain ⟨aM, aN, aP, aQ, aT, aU, aV, aW, aX, aY, aZ, a3⟩ := cf6 al
    go_wp2_with (first | ((with_reducible refine gate_callee (f := 47) rfl ?_); refine gM (some 5) Try.func47 (spec_l01In.calls aH 0 1000000 true _ A4.out) ?_; rintro w' ⟨nd, rfl⟩) | (go_at_call 47; refine (spec_l01In.calls aJ 0 1000000 false _ A6.out).mono ?_; rintro e w' ⟨rfl, ⟨nd, rfl⟩⟩))
    go_meet
    case rel => exact ⟨_, true, be_, af, ⟨gl_⟩, Cb al, Ce1 HB aD⟩
  ·replace B := am B; clear z l; obtain ⟨aM, aN, aP, aQ, aT, aU, aV, aW, aX, aY, aZ, a3⟩ := cf6 al
   go_wp2_with (first | ((with_reducible refine gate_callee (f := 47) rfl ?_); refine gM (some 5) Try.func47 (spec_l01In.calls aH 0 1000000 false _ A4.out) ?_; rintro w' ⟨nd, rfl⟩))
   go_meet
   case rel => exact ⟨_, true, be_, B, ⟨gl_⟩, Cb al, Ce1 HB aD⟩
 case rest =>
  clear z; obtain ⟨kq, d2, rfl, ai, e3, al, HB⟩ := hcut
  cases kq with
  | zero => exact absurd ai.out (by simp [spec_CommandOk.j0])
  | succ f8 => ?_
  replace ai := ai.out; simp only [spec_CommandOk.j0] at ai
  obtain ⟨rfl, ag⟩ | ⟨rfl, ag⟩ := sb ai
  ·obtain rfl := Option.some.inj ag; clear ag ai
   go_wp2
   go_ret; exact D0x1_
  ·obtain ⟨cw, aj⟩ | ⟨cw, aj⟩ := sp ag
   ·obtain ⟨ef, eg⟩ := yE cw; clear cw
    obtain ⟨cM, az⟩ | ⟨cM, az⟩ := sp aj
    ·obtain ⟨fh, fi⟩ := yE cM; clear cM
     obtain ⟨cN, bN⟩ | ⟨cN, bN⟩ := sp az
     ·obtain ⟨fj, fk⟩ := yE cN; clear cN
      obtain ⟨cO, ce⟩ | ⟨cO, ce⟩ := sp bN
      ·obtain ⟨fl, fm⟩ := yE cO; clear cO
       obtain ⟨cP, cr⟩ | ⟨cP, cr⟩ := sp ce
       ·obtain ⟨fn, fo⟩ := yE cP; clear cP; obtain rfl := Option.some.inj cr; clear cr ai ag aj az bN ce; obtain ⟨aM, aN, aP, aQ, aT, aU, aV, aW, aX, aY, aZ, a3⟩ := cf6 al
        go_wp2
        go_ret; exact D0x1_
       ·obtain ⟨fn, fo⟩ := nE cP; obtain rfl := Option.some.inj cr; clear cr ai ag aj az bN ce; obtain ⟨aM, aN, aP, aQ, aT, aU, aV, aW, aX, aY, aZ, a3⟩ := cf6 al
        go_wp2
        go_ret; exact D0x1_
      ·obtain ⟨fl, fm⟩ := nE cO; obtain rfl := Option.some.inj ce; clear ce ai ag aj az bN; obtain ⟨aM, aN, aP, aQ, aT, aU, aV, aW, aX, aY, aZ, a3⟩ := cf6 al
       go_wp2
       go_ret; exact D0x1_
     ·obtain ⟨fj, fk⟩ := nE cN; obtain rfl := Option.some.inj bN; clear bN ai ag aj az; obtain ⟨aM, aN, aP, aQ, aT, aU, aV, aW, aX, aY, aZ, a3⟩ := cf6 al
      go_wp2
      go_ret; exact D0x1_
    ·obtain ⟨fh, fi⟩ := nE cM; obtain rfl := Option.some.inj az; clear az ai ag aj; obtain ⟨aM, aN, aP, aQ, aT, aU, aV, aW, aX, aY, aZ, a3⟩ := cf6 al
     go_wp2
     go_ret; exact D0x1_
   ·obtain ⟨ef, eg⟩ := nE cw; replace aj := am aj; clear ai ag; obtain ⟨aM, aN, aP, aQ, aT, aU, aV, aW, aX, aY, aZ, a3⟩ := cf6 al
    go_upto_region 5 with (fail)
    go_cut [55] (fun gy wc => ∃ (kq : Nat) (d3 : Bool), gy = .bool d3 ∧ Aside0 (spec_CommandOk.j1 kq d3 a5 aH aJ a6 a9 ba = some r) ∧ Aside0 (kq ≤ f8) ∧ Hc wc el #[.int .i64 a5, .int .i64 aH, .int .i64 aJ, .string a6, .string a9, .int .i64 ba] 59 ∧ Hb w wc)
    case first =>
     replace aj := aj.out; obtain ⟨eK, d4, cK⟩ := bsi aj; (try dsimp only at cK)
     obtain ⟨rfl, bO⟩ | ⟨rfl, bO⟩ := sb cK
     ·replace bO := am bO; clear aj cK; obtain ⟨aM, aN, aP, aQ, aT, aU, aV, aW, aX, aY, aZ, a3⟩ := cf6 al
      go_wp2_with (first | ((with_reducible refine gate_callee (f := 47) rfl ?_); refine gM (some 48) Try.func47 (spec_l01In.calls (a6.size : Int) 1 8 true _ d4.out) ?_; rintro w' ⟨nd, rfl⟩))
      go_meet
      case rel => exact ⟨_, (decide ((a9.size : Int) > 20)), be_, bO, ⟨B11x7_⟩, Cb al, Ce1 HB aD⟩
     ·replace bO := am bO; clear aj cK; obtain ⟨aM, aN, aP, aQ, aT, aU, aV, aW, aX, aY, aZ, a3⟩ := cf6 al
      go_wp2_with (first | ((with_reducible refine gate_callee (f := 47) rfl ?_); refine gM (some 48) Try.func47 (spec_l01In.calls (a6.size : Int) 1 8 false _ d4.out) ?_; rintro w' ⟨nd, rfl⟩))
      go_meet
      case rel => exact ⟨_, true, be_, bO, ⟨B11x7_⟩, Cb al, Ce1 HB aD⟩
    case rest =>
     clear aj
     try clear du
     try clear cw
     try clear ef
     try clear eg
     obtain ⟨kq, d3, rfl, bq, g1, al, HB⟩ := hcut
     cases kq with
     | zero => exact absurd bq.out (by simp [spec_CommandOk.j1])
     | succ hG => ?_
     replace bq := bq.out; simp only [spec_CommandOk.j1] at bq
     obtain ⟨rfl, bz⟩ | ⟨rfl, bz⟩ := sb bq
     ·obtain rfl := Option.some.inj bz; clear bz bq
      go_wp2
      go_ret; exact D0x1_
     ·obtain ⟨cS, bP⟩ | ⟨cS, bP⟩ := sp bz
      ·obtain ⟨fp, fq⟩ := yE cS; clear cS; obtain rfl := Option.some.inj bP; clear bP bq bz; obtain ⟨aM, aN, aP, aQ, aT, aU, aV, aW, aX, aY, aZ, a3⟩ := cf6 al
       go_wp2
       go_ret; exact D0x1_
      ·obtain ⟨fp, fq⟩ := nE cS
       obtain ⟨cT, cf⟩ | ⟨cT, cf⟩ := sp bP
       ·obtain ⟨fs, ft⟩ := yE cT; clear cT; obtain ⟨dV, eV, df⟩ := bsi cf; (try dsimp only at df); obtain rfl := Option.some.inj df; clear df bq bz bP cf; obtain ⟨aM, aN, aP, aQ, aT, aU, aV, aW, aX, aY, aZ, a3⟩ := cf6 al
        go_wp2_with (first | ((with_reducible refine gate_callee (f := 47) rfl ?_); refine gM (some 67) Try.func47 (spec_l01In.calls ba 1 1000000000 dV _ eV.out) ?_; rintro w' ⟨nd, rfl⟩))
        go_ret; exact D0x1_
       ·obtain ⟨fs, ft⟩ := nE cT
        obtain ⟨cU, ct⟩ | ⟨cU, ct⟩ := sp cf
        ·obtain ⟨fu, fv⟩ := yE cU; clear cU; obtain rfl := Option.some.inj ct; clear ct bq bz bP cf; obtain ⟨aM, aN, aP, aQ, aT, aU, aV, aW, aX, aY, aZ, a3⟩ := cf6 al
         go_wp2
         go_ret; exact D0x1_
        ·obtain ⟨fu, fv⟩ := nE cU; obtain rfl := Option.some.inj ct; clear ct bq bz bP cf; obtain ⟨aM, aN, aP, aQ, aT, aU, aV, aW, aX, aY, aZ, a3⟩ := cf6 al
         go_wp2
         go_ret; exact D0x1_

def spec_l01Figure.f (a0 : Int) : Option (Int) := if a0 < 10 then (some ((wrap64 (48 + a0)) % 256)) else (some ((wrap64 ((wrap64 (97 + a0)) - 10)) % 256))
theorem spec_l01Figure.calls (a0 : Int) (r : Int) (w : World) (h : spec_l01Figure.f a0 = some r) :
  Calls Try.prog 104 #[.int .i64 a0] w fun e w' => e = .returned (.int .u8 r) ∧ Drawn0 w w' := by
 have z := h
 clear h
 unfold spec_l01Figure.f at z
 obtain ⟨bv, l⟩ | ⟨bv, l⟩ := sd z
 ·obtain rfl := Option.some.inj l; clear l z; go_enter Try.func104, Try.ntmps104
  go_wp2
  go_ret; exact ⟨gr_, gd_⟩
 obtain rfl := Option.some.inj l
 clear l z
 go_enter Try.func104, Try.ntmps104
 go_wp2
 go_ret
 exact ⟨gr_, gd_⟩
theorem B12x2_ (h : p := by have := a4.out; first | omega | exact Nat.le_refl _) : p := h
mutual
def spec_Decimal.l0 : Nat → Int → Bool → ByteArray → Option (ByteArray)
 | 0, _, _, _ => none
 | k + 1, x0, x3, x4 => if x0 = 0 then (if x3 = true then (if 1 + x4.size ≤ 9223372036854775807 then (some ((⟨#[45]⟩ : ByteArray) ++ x4)) else (none)) else (some x4)) else (if (Int.tmod x0 10) < 0 then (spec_Decimal.j1 k x0 x3 x4 (wrap64 (-(Int.tmod x0 10)))) else (spec_Decimal.j1 k x0 x3 x4 (Int.tmod x0 10)))
def spec_Decimal.j1 : Nat → Int → Bool → ByteArray → Int → Option (ByteArray)
 | 0, _, _, _, _ => none
 | k + 1, x0, x3, x4, x5 => (spec_l01Figure.f x5).bind fun bG => ((some (([bG] : List Int) : List Int)).bind fun cF => (if (strOfNums cF).size + x4.size ≤ 9223372036854775807 then (spec_Decimal.l0 k (wrap64 (Int.tdiv x0 10)) x3 ((strOfNums cF) ++ x4)) else (none)))
end
def spec_Decimal.f (k : Nat) (a0 : Int) : Option (ByteArray) := if a0 = 0 then (some (⟨#[48]⟩ : ByteArray)) else (spec_Decimal.l0 k a0 (decide (a0 < 0)) (⟨#[]⟩ : ByteArray))
theorem spec_Decimal.calls (k : Nat) (a0 : Int) (r : ByteArray) (w : World) (h : spec_Decimal.f k a0 = some r) :
  Calls Try.prog 89 #[.int .i64 a0] w fun e w' => e = .returned (.string r) ∧ Below w.heap.size w w' := by
 have HB := am (Below.refl w.heap.size w)
 have z := h
 clear h
 unfold spec_Decimal.f at z
 obtain ⟨c2, l⟩ | ⟨c2, l⟩ := sp z
 ·obtain ⟨bv, dv⟩ := yE c2; clear c2; obtain rfl := Option.some.inj l; clear l z; go_enter Try.func89, Try.ntmps89
  go_wp2
  go_ret; exact ⟨B4x7_, (Ae0 HB)⟩
 obtain ⟨bv, dv⟩ := nE c2
 replace l := am l
 clear z
 go_enter Try.func89, Try.ntmps89
 go_wp2
 go_loopg [0, 4] k (fun kq v0 v4 w' => ∃ (b7 : Int) (aE : ByteArray), v0 = .int .i64 b7 ∧ v4 = .string aE ∧ Aside0 (spec_Decimal.l0 kq b7 (decide (a0 < 0)) aE = some r) ∧ Aside0 (kq ≤ k) ∧ Aside0 (Below w.heap.size w w'))
 case atStart => exact ⟨(a0), ((⟨#[]⟩ : ByteArray)), be_, be_, l, ⟨Nat.le_refl _⟩, Ce0 HB⟩
 case round =>
  clear l
  try clear c2
  try clear bv
  try clear dv
  obtain ⟨b7, aE, rfl, rfl, B, a4, HB⟩ := hrel
  cases gk with
  | zero => exact absurd B.out (by simp [spec_Decimal.l0])
  | succ k1 => ?_
  replace B := B.out; simp only [spec_Decimal.l0] at B
  obtain ⟨c3, J⟩ | ⟨c3, J⟩ := sp B
  ·obtain ⟨a7, bB⟩ := yE c3; clear c3
   obtain ⟨c4, af⟩ | ⟨c4, af⟩ := sp J
   ·have aK : (decide (a0 < 0)) = true := c4
    have dw := eq_true (of_decide_eq_true c4)
    have fw : (0 ≤ a0) = False := eq_false (by have := of_decide_eq_true c4; omega)
    clear c4; obtain ⟨c5, ar⟩ := yn af; have ci := eq_true c5; have g6 := decide_eq_true c5
    try have fx : (9223372036854775807 < 1 + aE.size) = False := eq_false (Nat.not_lt.2 c5)
    try (have fy := fx; simp only [ByteArray.size_append] at fy)
    obtain rfl := Option.some.inj ar; clear ar B J af
    go_wp2
    (try any_goals (exfalso; have q_ := of_eq_true dw; omega)); go_ret; exact ⟨B4x7_, (Ae0 HB)⟩
   have aK : (decide (a0 < 0)) = false := by simpa using c4
   have dw := eq_false (of_decide_eq_false aK)
   have fw : (0 ≤ a0) = True := eq_true (by have := of_decide_eq_false aK; omega)
   clear c4; obtain rfl := Option.some.inj af; clear af B J
   go_wp2
   (try any_goals (exfalso; have q_ := of_eq_false dw; omega)); go_ret; exact ⟨B4x7_, (Ae0 HB)⟩
  obtain ⟨a7, bB⟩ := nE c3; replace J := am J; clear B
  go_upto_if 15 with (fail)
  go_cut [5] (fun v5 wc => ∃ (kq : Nat) (da : Int), v5 = .int .i64 da ∧ Aside0 (spec_Decimal.j1 kq b7 (decide (a0 < 0)) aE da = some r) ∧ Aside0 (kq ≤ k1) ∧ Hb w wc)
  case first =>
   replace J := J.out
   obtain ⟨bw, ai⟩ | ⟨bw, ai⟩ := sd J
   ·(first | rw [bw] | (simp only [i64_w, i32_w]; rw [bw]) | skip)
    replace ai := am ai; clear J
    go_wp2
    go_meet
    case rel => exact ⟨_, (wrap64 (-(Int.tmod b7 10))), be_, ai, ⟨B12x2_⟩, Ce0 HB⟩
   (first | rw [bw] | (simp only [i64_w, i32_w]; rw [bw]) | skip)
   replace ai := am ai; clear J
   go_wp2
   go_meet
   case rel => exact ⟨_, (Int.tmod b7 10), be_, ai, ⟨B12x2_⟩, Ce0 HB⟩
  clear J
  try clear c2
  try clear bv
  try clear dv
  try clear c3
  try clear a7
  try clear bB
  obtain ⟨kq, da, rfl, ag, d8, HB⟩ := hcut
  cases kq with
  | zero => exact absurd ag.out (by simp [spec_Decimal.j1])
  | succ f9 => ?_
  replace ag := ag.out; simp only [spec_Decimal.j1] at ag; obtain ⟨bG, A8, aj⟩ := bsi ag; (try dsimp only at aj); obtain ⟨cF, cC⟩ : ∃ y_ : List Int, y_ = (([bG] : List Int)) := ⟨_, rfl⟩
  (first | with_reducible replace aj := hq cC aj | rw [← cC] at aj | simp only [← cC] at aj)
  have ed := am cC; clear cC; obtain ⟨c9, az⟩ := yn aj; have g8 := eq_true c9; have g9 := decide_eq_true c9
  try have fA : (9223372036854775807 < (strOfNums cF).size + aE.size) = False := eq_false (Nat.not_lt.2 c9)
  try (have fB := fA; simp only [ByteArray.size_append] at fB)
  replace az := am az; clear ag aj
  go_wp2_with (first | ((with_reducible refine gate_callee (f := 104) rfl ?_); refine gM (some 19) Try.func104 (spec_l01Figure.calls da bG _ A8.out) ?_; rintro w' ⟨nd, rfl⟩) | ((with_reducible refine gate_dst (N := 20) rfl ?_); refine Kd.R_lit (Kd.int .u8) _ 5 ?hg (N := 20) ?hd (xs := ([bG] : List Int)) (inner := [.int .u8 bG]) (ok := fun _ => True) (okp := fun _ => True) ?hr ?hp (fun _ hk => hk) trivial (Below.refl _ _) (Nat.le_refl _) (by simp) ?_; (case hd => rfl); (case hg => rfl); (case hr => first | (go_simp; done) | (go_simp; rfl)); (case hp => exact (Reps.one (show Kd.M (Kd.int .u8) _ _ _ bG [.int .u8 bG] from rfl) (Reps.none _ _))); intro hJ gB bj hb hg_ hnew_; clear hg_ hnew_; (first | rw [← ed.out] at bj | (simp only [Int.reduceToNat] at bj; rw [← ed.out] at bj)); have e4 := am (Kd.R_lower bj (below_size (Ae0 HB))); replace HB := hA HB hb; clear hb bj; have hf := own_string (P := Try.prog) Try.underlying22 Try.underlying5 Try.underlying9 (Kd.own_of_R e4.out)))
  go_roundg f9
  case measure => have := a4.out; have := d8.out; omega
  case rel => exact ⟨(wrap64 (Int.tdiv b7 10)), ((strOfNums cF) ++ aE), be_, be_, az, ⟨(by have := a4.out; have := d8.out; omega)⟩, Ce0 HB⟩
end
end Go.Proofs.Ytgffdijodnpolaa.QFnKeepTexts
