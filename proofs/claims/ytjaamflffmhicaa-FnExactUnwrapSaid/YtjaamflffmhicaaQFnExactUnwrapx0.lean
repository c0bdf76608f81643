/- Functions that a law reaches, as functions of Lean, and the walks that show that the calls come to their answers. No condition. -/
import Derived.Test.YtjaamflffmhicaaProg
import Derived.Below
import Derived.Deep.Draws
import Derived.Deep.AppendLies
import Derived.Maps.AppendAt
import Derived.OwnWalk
import Derived.Laws.BytesArg
import Derived.Laws.MakeOwn
import Derived.Laws.OwnMore
import Derived.Deep.OwnRows
import Derived.Tactics
import Derived.Lib.ConvBytes
import Derived.Laws.Slices
import Derived.WalkKit
import Derived.KernelRfl
import Derived.RowKit3
import Derived.Deep.LoopGhost
import Derived.Deep.QuietTactic
import Derived.BigQuiet
import Derived.WideLaws
import Derived.Deep.DeepCutAuto
import Derived.Deep.CutBlock
import Derived.Deep.RegionHeld3
import Derived.Laws.Rows
import Derived.Lib.AppendStr
import Derived.ArgAppend
import Derived.Laws.IdiomCopy
import Derived.OrdersHeld
import Derived.Laws.BitsLemmas
import Derived.RowKit
import Derived.Test.YtjaamflffmhicaaVFnExactUnwrapWords
import Derived.Test.YtjaamflffmhicaaVFnExactUnwrapLast
import Derived.Test.YtjaamflffmhicaaVFnExactUnwrapTab
import Derived.Test.YtjaamflffmhicaaVFnExactUnwrapFour
import Derived.Test.YtjaamflffmhicaaVFnExactUnwrapQPut
import Derived.Test.YtjaamflffmhicaaVFnExactUnwrapApart
import Derived.Test.YtjaamflffmhicaaVFnExactUnwrapArr
import Derived.Test.YtjaamflffmhicaaVFnExactUnwrapZeros
import Derived.Test.YtjaamflffmhicaaVFnExactUnwrapFoot
import Derived.Test.YtjaamflffmhicaaVFnExactUnwrapKept
import Derived.Test.YtjaamflffmhicaaVFnExactUnwrapShare
import Derived.Test.YtjaamflffmhicaaVFnExactUnwrapN
import Derived.Test.YtjaamflffmhicaaVFnExactUnwrapFootNe
import Derived.Test.YtjaamflffmhicaaVFnExactUnwrapAt
import Derived.Test.YtjaamflffmhicaaVFnExactUnwrapEqStruct
import Derived.Test.YtjaamflffmhicaaVFnExactUnwrapRepsOne
import Derived.Test.YtjaamflffmhicaaVFnExactUnwrapInv
import Derived.Test.YtjaamflffmhicaaVFnExactUnwrapInvWords
import Derived.Test.YtjaamflffmhicaaVFnExactUnwrapGuard
import Derived.Test.YtjaamflffmhicaaVFnExactUnwrapNEv
import Derived.Test.YtjaamflffmhicaaVFnExactUnwrapMore
import Derived.Test.YtjaamflffmhicaaVFnExactUnwraphort
import Derived.Test.YtjaamflffmhicaaVFnExactUnwraphort3
import Derived.Test.YtjaamflffmhicaaVFnExactUnwraphort2
import Derived.Test.YtjaamflffmhicaaVFnExactUnwraphort8
namespace Go.Proofs.Ytjaamflffmhicaa.QFnExactUnwrap
open Go.RowKit Go.Proofs.YtjaamflffmhicaaW.PrintWords Go.Proofs.YtjaamflffmhicaaW.PrintLast Go.Proofs.YtjaamflffmhicaaW.PrintMore Go.Proofs.Ytjaamflffmhicaa.Short
set_option linter.unusedVariables false
set_option linter.unusedSimpArgs false
set_option maxHeartbeats 8000000
set_option maxRecDepth 100000
variable {p : Prop}
section
attribute [local go_sem] max2_int min2_int max_two min_two max_three min_three max_four min_four
theorem B0x0_ (h : p := by have hq := hc 0 _ rfl; rwa [Nat.mul_one, Nat.add_zero] at hq) : p := h
theorem B0x1_ (h : p := by rw [← add_field _ _ 1 (by omega)]; exact hc 1 _ rfl) : p := h
theorem B0x2_ (h : p := by rw [← add_field _ _ 2 (by omega)]; exact hc 2 _ rfl) : p := h
theorem B0x3_ (h : p := by rw [← add_field _ _ 3 (by omega)]; exact hc 3 _ rfl) : p := h
theorem B0x4_ (h : p := by rw [← add_field _ _ 4 (by omega)]; exact hc 4 _ rfl) : p := h
theorem B0x5_ (h : p := by rw [← add_field _ _ 5 (by omega)]; exact hc 5 _ rfl) : p := h
def errW : Option Int → Value
 | none => .nilIface
 | some c => .iface 0 (.int .i64 c)
theorem errW_none : errW none = .nilIface := rfl
theorem errW_some (c : Int) : errW (some c) = .iface 0 (.int .i64 c) := rfl

theorem info3 : (Try.prog.info? 3).map (fun i => (i.zero, i.size, i.bytes)) = some (some (.int .i64 0), 1, 8) := by kernel_rfl
theorem info5 : (Try.prog.info? 5).map (fun i => (i.zero, i.size, i.bytes)) = some (some (.int .u8 0), 1, 1) := by kernel_rfl
theorem info9 : (Try.prog.info? 9).map (fun i => (i.zero, i.size, i.bytes)) = some (some (.string ⟨#[]⟩), 1, 16) := by kernel_rfl
theorem info52 : (Try.prog.info? 52).map (fun i => (i.zero, i.size, i.bytes)) = some (some (.agg #[(.int .i64 0), (.int .i64 0), (.slice none 0 0), (.slice none 0 0), (.int .i64 0), (.int .i64 0)]), 6, 80) := by kernel_rfl
-- the values' own types
def rd_L2 (xs : List (List ByteArray)) (i : Int) : (List ByteArray) := xs.getD i.toNat ([] : List ByteArray)
theorem at_L2 {w : World} {A : Option Addr} {n : Nat} {xs : List (List ByteArray)} (h : Kd.C (Kd.slice 9 Kd.string) w A n xs) (i : Int) (h0 : 0 ≤ i) (h1 : i < n) : ∃ ad A0 c0, A = some ad ∧ w.cell? (ad.add i.toNat) = some (.slice A0 (rd_L2 xs i).length c0) ∧ (rd_L2 xs i).length ≤ c0 ∧ Kd.string.C w A0 (rd_L2 xs i).length (rd_L2 xs i) := by
 obtain ⟨ad, c, e, _, hK, hc0⟩ := Kd.C_get h ([] : List ByteArray) i h0 h1
 have hc : ∀ j u, c[j]? = some u → w.cell? (ad.add (i.toNat * 1 + j)) = some u := hc0
 obtain ⟨A0, c0, rfl, l0, g0⟩ := hK
 exact ⟨ad, A0, c0, e, B0x0_, l0, g0⟩

def rd_L3 (xs : List (List Int)) (i : Int) : (List Int) := xs.getD i.toNat ([] : List Int)
theorem at_L3 {w : World} {A : Option Addr} {n : Nat} {xs : List (List Int)} (h : Kd.C (Kd.slice 3 (Kd.int .i64)) w A n xs) (i : Int) (h0 : 0 ≤ i) (h1 : i < n) : ∃ ad A0 c0, A = some ad ∧ w.cell? (ad.add i.toNat) = some (.slice A0 (rd_L3 xs i).length c0) ∧ (rd_L3 xs i).length ≤ c0 ∧ (Kd.int .i64).C w A0 (rd_L3 xs i).length (rd_L3 xs i) := by
 obtain ⟨ad, c, e, _, hK, hc0⟩ := Kd.C_get h ([] : List Int) i h0 h1
 have hc : ∀ j u, c[j]? = some u → w.cell? (ad.add (i.toNat * 1 + j)) = some u := hc0
 obtain ⟨A0, c0, rfl, l0, g0⟩ := hK
 exact ⟨ad, A0, c0, e, B0x0_, l0, g0⟩

structure S38 where
 f0 : Int
 f1 : Int
 f2 : (List ByteArray)
 f3 : (List Int)
 f4 : Int
 f5 : Int
def z38 : S38 := ⟨(0 : Int), (0 : Int), ([] : List ByteArray), ([] : List Int), (0 : Int), (0 : Int)⟩
def k38 : Kd S38 := Kd.iso (Kd.pair (Kd.int .i64) (Kd.pair (Kd.int .i64) (Kd.pair (Kd.slice 9 Kd.string) (Kd.pair (Kd.slice 3 (Kd.int .i64)) (Kd.pair (Kd.int .i64) (Kd.int .i64)))))) (fun x : S38 => (x.f0, x.f1, x.f2, x.f3, x.f4, x.f5))
theorem k38_open {w : World} {x : S38} {cs : List Value} (h : k38.K w x cs) : ∃ A2 c2 A3 c3, cs = [.int .i64 x.f0, .int .i64 x.f1, .slice A2 x.f2.length c2, .slice A3 x.f3.length c3, .int .i64 x.f4, .int .i64 x.f5] ∧ x.f2.length ≤ c2 ∧ Kd.string.C w A2 x.f2.length x.f2 ∧ x.f3.length ≤ c3 ∧ (Kd.int .i64).C w A3 x.f3.length x.f3 := by
 obtain ⟨_, _, rfl, rfl, ⟨_, _, rfl, rfl, ⟨_, _, rfl, ⟨A2, c2, rfl, l2, g2⟩, ⟨_, _, rfl, ⟨A3, c3, rfl, l3, g3⟩, ⟨_, _, rfl, rfl, rfl⟩⟩⟩⟩⟩ := h
 exact ⟨A2, c2, A3, c3, rfl, l2, g2, l3, g3⟩
theorem k38_openM {w : World} {base : Nat} {ok : Nat → Prop} {x : S38} {cs : List Value} (h : k38.M w base ok x cs) : ∃ v2 v3, cs = [.int .i64 x.f0, .int .i64 x.f1, v2, v3, .int .i64 x.f4, .int .i64 x.f5] ∧ Kd.string.R 9 w base ok v2 x.f2 ∧ (Kd.int .i64).R 3 w base ok v3 x.f3 := by
 obtain ⟨_, _, rfl, rfl, ⟨_, _, rfl, rfl, ⟨_, _, rfl, ⟨v2, rfl, g2⟩, ⟨_, _, rfl, ⟨v3, rfl, g3⟩, ⟨_, _, rfl, rfl, rfl⟩⟩⟩⟩⟩ := h
 exact ⟨v2, v3, rfl, g2, g3⟩
theorem k38_mk (w : World) (x : S38) {A2 : Option Addr} {c2 : Nat} (l2 : x.f2.length ≤ c2) (g2 : Kd.string.C w A2 x.f2.length x.f2) {A3 : Option Addr} {c3 : Nat} (l3 : x.f3.length ≤ c3) (g3 : (Kd.int .i64).C w A3 x.f3.length x.f3) : k38.K w x [.int .i64 x.f0, .int .i64 x.f1, .slice A2 x.f2.length c2, .slice A3 x.f3.length c3, .int .i64 x.f4, .int .i64 x.f5] := ⟨[.int .i64 x.f0], [.int .i64 x.f1, .slice A2 x.f2.length c2, .slice A3 x.f3.length c3, .int .i64 x.f4, .int .i64 x.f5], rfl, rfl, ⟨[.int .i64 x.f1], [.slice A2 x.f2.length c2, .slice A3 x.f3.length c3, .int .i64 x.f4, .int .i64 x.f5], rfl, rfl, ⟨[.slice A2 x.f2.length c2], [.slice A3 x.f3.length c3, .int .i64 x.f4, .int .i64 x.f5], rfl, ⟨A2, c2, rfl, l2, g2⟩, ⟨[.slice A3 x.f3.length c3], [.int .i64 x.f4, .int .i64 x.f5], rfl, ⟨A3, c3, rfl, l3, g3⟩, ⟨[.int .i64 x.f4], [.int .i64 x.f5], rfl, rfl, rfl⟩⟩⟩⟩⟩
theorem k38_mkM (w : World) (base : Nat) (ok : Nat → Prop) (x : S38) {v2 : Value} (g2 : Kd.string.R 9 w base ok v2 x.f2) {v3 : Value} (g3 : (Kd.int .i64).R 3 w base ok v3 x.f3) : k38.M w base ok x [.int .i64 x.f0, .int .i64 x.f1, v2, v3, .int .i64 x.f4, .int .i64 x.f5] := ⟨[.int .i64 x.f0], [.int .i64 x.f1, v2, v3, .int .i64 x.f4, .int .i64 x.f5], rfl, rfl, ⟨[.int .i64 x.f1], [v2, v3, .int .i64 x.f4, .int .i64 x.f5], rfl, rfl, ⟨[v2], [v3, .int .i64 x.f4, .int .i64 x.f5], rfl, ⟨v2, rfl, g2⟩, ⟨[v3], [.int .i64 x.f4, .int .i64 x.f5], rfl, ⟨v3, rfl, g3⟩, ⟨[.int .i64 x.f4], [.int .i64 x.f5], rfl, rfl, rfl⟩⟩⟩⟩⟩
theorem k38_openF {W : World} {ok : Nat → Prop} {x : S38} {cs : List Value} (h : Kd.FK k38 W ok x cs) : ∃ A2 c2 A3 c3, cs = [.int .i64 x.f0, .int .i64 x.f1, .slice A2 x.f2.length c2, .slice A3 x.f3.length c3, .int .i64 x.f4, .int .i64 x.f5] ∧ x.f2.length ≤ c2 ∧ Kd.F Kd.string W ok A2 x.f2.length x.f2 ∧ x.f3.length ≤ c3 ∧ Kd.F (Kd.int .i64) W ok A3 x.f3.length x.f3 := by
 obtain ⟨A2, c2, A3, c3, rfl, l2, _, l3, _⟩ := k38_open (Kd.FK_now h)
 exact ⟨A2, c2, A3, c3, rfl, l2, (fun W' hW => by obtain ⟨A2_, c2_, A3_, c3_, he, l2_, g2_, l3_, g3_⟩ := k38_open (h W' hW); injection (Option.some.inj (show some (Value.slice A2 x.f2.length c2) = some (Value.slice A2_ x.f2.length c2_) from congrArg (fun l => l[2]?) he)) with ha_ _ _; rw [ha_]; exact g2_), l3, (fun W' hW => by obtain ⟨A2_, c2_, A3_, c3_, he, l2_, g2_, l3_, g3_⟩ := k38_open (h W' hW); injection (Option.some.inj (show some (Value.slice A3 x.f3.length c3) = some (Value.slice A3_ x.f3.length c3_) from congrArg (fun l => l[3]?) he)) with ha_ _ _; rw [ha_]; exact g3_)⟩
theorem k38_mkF (W : World) (ok : Nat → Prop) (x : S38) {A2 : Option Addr} {c2 : Nat} (l2 : x.f2.length ≤ c2) (g2 : Kd.F Kd.string W ok A2 x.f2.length x.f2) {A3 : Option Addr} {c3 : Nat} (l3 : x.f3.length ≤ c3) (g3 : Kd.F (Kd.int .i64) W ok A3 x.f3.length x.f3) : Kd.FK k38 W ok x [.int .i64 x.f0, .int .i64 x.f1, .slice A2 x.f2.length c2, .slice A3 x.f3.length c3, .int .i64 x.f4, .int .i64 x.f5] := fun W2 hW => k38_mk W2 x l2 (g2 W2 hW) l3 (g3 W2 hW)
def rd_T38 (xs : List S38) (i : Int) : S38 := xs.getD i.toNat z38
theorem at_T38 {w : World} {A : Option Addr} {n : Nat} {xs : List S38} (h : Kd.C k38 w A n xs) (i : Int) (h0 : 0 ≤ i) (h1 : i < n) : ∃ ad A2 c2 A3 c3, A = some ad ∧ w.cell? (ad.add (i.toNat * 6)) = some (.int .i64 (rd_T38 xs i).f0) ∧ w.cell? ⟨(ad.add (i.toNat * 6)).block, (ad.add (i.toNat * 6)).off + 1, none⟩ = some (.int .i64 (rd_T38 xs i).f1) ∧ w.cell? ⟨(ad.add (i.toNat * 6)).block, (ad.add (i.toNat * 6)).off + 2, none⟩ = some (.slice A2 (rd_T38 xs i).f2.length c2) ∧ w.cell? ⟨(ad.add (i.toNat * 6)).block, (ad.add (i.toNat * 6)).off + 3, none⟩ = some (.slice A3 (rd_T38 xs i).f3.length c3) ∧ w.cell? ⟨(ad.add (i.toNat * 6)).block, (ad.add (i.toNat * 6)).off + 4, none⟩ = some (.int .i64 (rd_T38 xs i).f4) ∧ w.cell? ⟨(ad.add (i.toNat * 6)).block, (ad.add (i.toNat * 6)).off + 5, none⟩ = some (.int .i64 (rd_T38 xs i).f5) ∧ (rd_T38 xs i).f2.length ≤ c2 ∧ Kd.string.C w A2 (rd_T38 xs i).f2.length (rd_T38 xs i).f2 ∧ (rd_T38 xs i).f3.length ≤ c3 ∧ (Kd.int .i64).C w A3 (rd_T38 xs i).f3.length (rd_T38 xs i).f3 := by
 obtain ⟨ad, c, e, _, hK, hc0⟩ := Kd.C_get h z38 i h0 h1
 have hc : ∀ j u, c[j]? = some u → w.cell? (ad.add (i.toNat * 6 + j)) = some u := hc0
 obtain ⟨A2, c2, A3, c3, rfl, l2, g2, l3, g3⟩ := k38_open hK
 exact ⟨ad, A2, c2, A3, c3, e, hc 0 _ rfl, B0x1_, B0x2_, B0x3_, B0x4_, B0x5_, l2, g2, l3, g3⟩

structure S52 where
 f0 : Int
 f1 : Int
 f2 : (List ByteArray)
 f3 : (List Int)
 f4 : Int
 f5 : Int
def z52 : S52 := ⟨(0 : Int), (0 : Int), ([] : List ByteArray), ([] : List Int), (0 : Int), (0 : Int)⟩
def k52 : Kd S52 := Kd.iso (Kd.pair (Kd.int .i64) (Kd.pair (Kd.int .i64) (Kd.pair (Kd.slice 9 Kd.string) (Kd.pair (Kd.slice 3 (Kd.int .i64)) (Kd.pair (Kd.int .i64) (Kd.int .i64)))))) (fun x : S52 => (x.f0, x.f1, x.f2, x.f3, x.f4, x.f5))
theorem k52_open {w : World} {x : S52} {cs : List Value} (h : k52.K w x cs) : ∃ A2 c2 A3 c3, cs = [.int .i64 x.f0, .int .i64 x.f1, .slice A2 x.f2.length c2, .slice A3 x.f3.length c3, .int .i64 x.f4, .int .i64 x.f5] ∧ x.f2.length ≤ c2 ∧ Kd.string.C w A2 x.f2.length x.f2 ∧ x.f3.length ≤ c3 ∧ (Kd.int .i64).C w A3 x.f3.length x.f3 := by
 obtain ⟨_, _, rfl, rfl, ⟨_, _, rfl, rfl, ⟨_, _, rfl, ⟨A2, c2, rfl, l2, g2⟩, ⟨_, _, rfl, ⟨A3, c3, rfl, l3, g3⟩, ⟨_, _, rfl, rfl, rfl⟩⟩⟩⟩⟩ := h
 exact ⟨A2, c2, A3, c3, rfl, l2, g2, l3, g3⟩
theorem k52_openM {w : World} {base : Nat} {ok : Nat → Prop} {x : S52} {cs : List Value} (h : k52.M w base ok x cs) : ∃ v2 v3, cs = [.int .i64 x.f0, .int .i64 x.f1, v2, v3, .int .i64 x.f4, .int .i64 x.f5] ∧ Kd.string.R 9 w base ok v2 x.f2 ∧ (Kd.int .i64).R 3 w base ok v3 x.f3 := by
 obtain ⟨_, _, rfl, rfl, ⟨_, _, rfl, rfl, ⟨_, _, rfl, ⟨v2, rfl, g2⟩, ⟨_, _, rfl, ⟨v3, rfl, g3⟩, ⟨_, _, rfl, rfl, rfl⟩⟩⟩⟩⟩ := h
 exact ⟨v2, v3, rfl, g2, g3⟩
theorem k52_mk (w : World) (x : S52) {A2 : Option Addr} {c2 : Nat} (l2 : x.f2.length ≤ c2) (g2 : Kd.string.C w A2 x.f2.length x.f2) {A3 : Option Addr} {c3 : Nat} (l3 : x.f3.length ≤ c3) (g3 : (Kd.int .i64).C w A3 x.f3.length x.f3) : k52.K w x [.int .i64 x.f0, .int .i64 x.f1, .slice A2 x.f2.length c2, .slice A3 x.f3.length c3, .int .i64 x.f4, .int .i64 x.f5] := ⟨[.int .i64 x.f0], [.int .i64 x.f1, .slice A2 x.f2.length c2, .slice A3 x.f3.length c3, .int .i64 x.f4, .int .i64 x.f5], rfl, rfl, ⟨[.int .i64 x.f1], [.slice A2 x.f2.length c2, .slice A3 x.f3.length c3, .int .i64 x.f4, .int .i64 x.f5], rfl, rfl, ⟨[.slice A2 x.f2.length c2], [.slice A3 x.f3.length c3, .int .i64 x.f4, .int .i64 x.f5], rfl, ⟨A2, c2, rfl, l2, g2⟩, ⟨[.slice A3 x.f3.length c3], [.int .i64 x.f4, .int .i64 x.f5], rfl, ⟨A3, c3, rfl, l3, g3⟩, ⟨[.int .i64 x.f4], [.int .i64 x.f5], rfl, rfl, rfl⟩⟩⟩⟩⟩
theorem k52_mkM (w : World) (base : Nat) (ok : Nat → Prop) (x : S52) {v2 : Value} (g2 : Kd.string.R 9 w base ok v2 x.f2) {v3 : Value} (g3 : (Kd.int .i64).R 3 w base ok v3 x.f3) : k52.M w base ok x [.int .i64 x.f0, .int .i64 x.f1, v2, v3, .int .i64 x.f4, .int .i64 x.f5] := ⟨[.int .i64 x.f0], [.int .i64 x.f1, v2, v3, .int .i64 x.f4, .int .i64 x.f5], rfl, rfl, ⟨[.int .i64 x.f1], [v2, v3, .int .i64 x.f4, .int .i64 x.f5], rfl, rfl, ⟨[v2], [v3, .int .i64 x.f4, .int .i64 x.f5], rfl, ⟨v2, rfl, g2⟩, ⟨[v3], [.int .i64 x.f4, .int .i64 x.f5], rfl, ⟨v3, rfl, g3⟩, ⟨[.int .i64 x.f4], [.int .i64 x.f5], rfl, rfl, rfl⟩⟩⟩⟩⟩
theorem k52_openF {W : World} {ok : Nat → Prop} {x : S52} {cs : List Value} (h : Kd.FK k52 W ok x cs) : ∃ A2 c2 A3 c3, cs = [.int .i64 x.f0, .int .i64 x.f1, .slice A2 x.f2.length c2, .slice A3 x.f3.length c3, .int .i64 x.f4, .int .i64 x.f5] ∧ x.f2.length ≤ c2 ∧ Kd.F Kd.string W ok A2 x.f2.length x.f2 ∧ x.f3.length ≤ c3 ∧ Kd.F (Kd.int .i64) W ok A3 x.f3.length x.f3 := by
 obtain ⟨A2, c2, A3, c3, rfl, l2, _, l3, _⟩ := k52_open (Kd.FK_now h)
 exact ⟨A2, c2, A3, c3, rfl, l2, (fun W' hW => by obtain ⟨A2_, c2_, A3_, c3_, he, l2_, g2_, l3_, g3_⟩ := k52_open (h W' hW); injection (Option.some.inj (show some (Value.slice A2 x.f2.length c2) = some (Value.slice A2_ x.f2.length c2_) from congrArg (fun l => l[2]?) he)) with ha_ _ _; rw [ha_]; exact g2_), l3, (fun W' hW => by obtain ⟨A2_, c2_, A3_, c3_, he, l2_, g2_, l3_, g3_⟩ := k52_open (h W' hW); injection (Option.some.inj (show some (Value.slice A3 x.f3.length c3) = some (Value.slice A3_ x.f3.length c3_) from congrArg (fun l => l[3]?) he)) with ha_ _ _; rw [ha_]; exact g3_)⟩
theorem k52_mkF (W : World) (ok : Nat → Prop) (x : S52) {A2 : Option Addr} {c2 : Nat} (l2 : x.f2.length ≤ c2) (g2 : Kd.F Kd.string W ok A2 x.f2.length x.f2) {A3 : Option Addr} {c3 : Nat} (l3 : x.f3.length ≤ c3) (g3 : Kd.F (Kd.int .i64) W ok A3 x.f3.length x.f3) : Kd.FK k52 W ok x [.int .i64 x.f0, .int .i64 x.f1, .slice A2 x.f2.length c2, .slice A3 x.f3.length c3, .int .i64 x.f4, .int .i64 x.f5] := fun W2 hW => k52_mk W2 x l2 (g2 W2 hW) l3 (g3 W2 hW)
def rd_T52 (xs : List S52) (i : Int) : S52 := xs.getD i.toNat z52
theorem at_T52 {w : World} {A : Option Addr} {n : Nat} {xs : List S52} (h : Kd.C k52 w A n xs) (i : Int) (h0 : 0 ≤ i) (h1 : i < n) : ∃ ad A2 c2 A3 c3, A = some ad ∧ w.cell? (ad.add (i.toNat * 6)) = some (.int .i64 (rd_T52 xs i).f0) ∧ w.cell? ⟨(ad.add (i.toNat * 6)).block, (ad.add (i.toNat * 6)).off + 1, none⟩ = some (.int .i64 (rd_T52 xs i).f1) ∧ w.cell? ⟨(ad.add (i.toNat * 6)).block, (ad.add (i.toNat * 6)).off + 2, none⟩ = some (.slice A2 (rd_T52 xs i).f2.length c2) ∧ w.cell? ⟨(ad.add (i.toNat * 6)).block, (ad.add (i.toNat * 6)).off + 3, none⟩ = some (.slice A3 (rd_T52 xs i).f3.length c3) ∧ w.cell? ⟨(ad.add (i.toNat * 6)).block, (ad.add (i.toNat * 6)).off + 4, none⟩ = some (.int .i64 (rd_T52 xs i).f4) ∧ w.cell? ⟨(ad.add (i.toNat * 6)).block, (ad.add (i.toNat * 6)).off + 5, none⟩ = some (.int .i64 (rd_T52 xs i).f5) ∧ (rd_T52 xs i).f2.length ≤ c2 ∧ Kd.string.C w A2 (rd_T52 xs i).f2.length (rd_T52 xs i).f2 ∧ (rd_T52 xs i).f3.length ≤ c3 ∧ (Kd.int .i64).C w A3 (rd_T52 xs i).f3.length (rd_T52 xs i).f3 := by
 obtain ⟨ad, c, e, _, hK, hc0⟩ := Kd.C_get h z52 i h0 h1
 have hc : ∀ j u, c[j]? = some u → w.cell? (ad.add (i.toNat * 6 + j)) = some u := hc0
 obtain ⟨A2, c2, A3, c3, rfl, l2, g2, l3, g3⟩ := k52_open hK
 exact ⟨ad, A2, c2, A3, c3, e, hc 0 _ rfl, B0x1_, B0x2_, B0x3_, B0x4_, B0x5_, l2, g2, l3, g3⟩
theorem B1x4_ (h : p := by first | rfl | (simp [errW_none, errW_some] <;> rfl) | (simp [*, errW_none, errW_some] <;> rfl)) : p := h
theorem B1x12_ (h : p := by have := aD.out; have := bM.out; omega) : p := h
def laws_szStringS.l0 : Nat → List ByteArray → Int → Int → Option (Int)
 | 0, _, _, _ => none
 | k + 1, x0, x1, x5 => if x5 < (x0.length : Int) then (if 0 ≤ x5 then (if (wrap64 (x1 - ((rdOf ByteArray.empty x0 x5).size : Int))) < 0 then (some (-1)) else (laws_szStringS.l0 k x0 (wrap64 (x1 - ((rdOf ByteArray.empty x0 x5).size : Int))) (wrap64 (x5 + 1)))) else (none)) else (some x1)
def laws_szStringS.f (k : Nat) (l0 : List ByteArray) (Z : Int) : Option (Int) := if (wrap64 (Z - (l0.length : Int))) < 0 then (some (-1)) else (laws_szStringS.l0 k l0 (wrap64 (Z - (l0.length : Int))) 0)
theorem laws_szStringS.calls (k : Nat) (A0 : Option Addr) (c0 : Nat) (l0 : List ByteArray) (Z : Int) (r : Int) (w : World) (aJ : Kd.C Kd.string w A0 l0.length l0) (aI : l0.length ≤ c0) (h : laws_szStringS.f k l0 Z = some r) :
  Calls Try.prog 29 #[.slice A0 l0.length c0, .int .i64 Z] w fun e w' => e = .returned (.int .i64 r) ∧ Drawn0 w w' := by
 have bn := am aJ
 have ce := am aI
 clear aJ aI
 have D := h
 clear h
 unfold laws_szStringS.f at D
 obtain ⟨aE, B⟩ | ⟨aE, B⟩ := sd D
 ·obtain rfl := Option.some.inj B; clear B D; go_enter Try.func29, Try.ntmps29
  go_wp2
  go_ret; exact ⟨gr_, gd_⟩
 ·replace B := am B; clear D; go_enter Try.func29, Try.ntmps29
  go_wp2
  go_loopg [1, 5] k (fun kq v1 v5 w' => ∃ (aF : Int) (aa : Int), v1 = .int .i64 aF ∧ v5 = .int .i64 aa ∧ Aside0 (laws_szStringS.l0 kq l0 aF aa = some r) ∧ Aside0 (kq ≤ k) ∧ Drawn0 w w')
  case atStart => exact ⟨(wrap64 (Z - (l0.length : Int))), 0, be_, be_, B, ⟨Nat.le_refl _⟩, gd_⟩
  case round =>
   clear B
   try clear c3
   try clear aE
   obtain ⟨aF, aa, rfl, rfl, J, aD, ⟨m1, rfl⟩⟩ := hrel
   cases gk with
   | zero => exact absurd J.out (by simp [laws_szStringS.l0])
   | succ k1 => ?_
   replace J := J.out; simp only [laws_szStringS.l0] at J
   obtain ⟨ay, M⟩ | ⟨ay, M⟩ := sd J
   ·obtain ⟨dp, U⟩ := yd M
    obtain ⟨bX, ac⟩ | ⟨bX, ac⟩ := sd U
    ·obtain rfl := Option.some.inj ac; clear ac J M U
     have aZ : 0 ≤ (aa : Int) := dga
     have a4 : aa < (l0.length : Int) := dga
     obtain ⟨di, bY, du⟩ := Kd.at_string bn.out aa aZ a4; cases bY; replace aZ := eq_true aZ; replace a4 := eq_true a4
     go_wp2
     go_ret; exact ⟨gr_, gd_⟩
    ·replace ac := am ac; clear J M U
     have aZ : 0 ≤ (aa : Int) := dga
     have a4 : aa < (l0.length : Int) := dga
     obtain ⟨di, bY, du⟩ := Kd.at_string bn.out aa aZ a4; cases bY; replace aZ := eq_true aZ; replace a4 := eq_true a4
     go_wp2
     go_roundg k1
     case measure => have := aD.out; omega
     case rel => exact ⟨(wrap64 (aF - ((rdOf ByteArray.empty l0 aa).size : Int))), (wrap64 (aa + 1)), be_, be_, ac, ⟨(by have := aD.out; omega)⟩, gd_⟩
   ·obtain rfl := Option.some.inj M; clear M J
    go_wp2
    go_ret; exact ⟨gr_, gd_⟩

def laws_szIntS.f (l0 : List Int) (Z : Int) : Option (Int) := if (wrap64 (Z - (l0.length : Int))) < 0 then (some (-1)) else (some (wrap64 (Z - (l0.length : Int))))
theorem laws_szIntS.calls (A0 : Option Addr) (c0 : Nat) (l0 : List Int) (Z : Int) (r : Int) (w : World) (aJ : Kd.C (Kd.int .i64) w A0 l0.length l0) (aI : l0.length ≤ c0) (h : laws_szIntS.f l0 Z = some r) :
  Calls Try.prog 30 #[.slice A0 l0.length c0, .int .i64 Z] w fun e w' => e = .returned (.int .i64 r) ∧ Drawn0 w w' := by
 have bn := am aJ
 have ce := am aI
 clear aJ aI
 have D := h
 clear h
 unfold laws_szIntS.f at D
 obtain ⟨aE, B⟩ | ⟨aE, B⟩ := sd D
 ·obtain rfl := Option.some.inj B; clear B D; go_enter Try.func30, Try.ntmps30
  go_wp2
  go_ret; exact ⟨gr_, gd_⟩
 ·obtain rfl := Option.some.inj B; clear B D; go_enter Try.func30, Try.ntmps30
  go_wp2
  go_ret; exact ⟨gr_, gd_⟩

def laws_szBits.f (k : Nat) (ae : Int) (ag : Int) (aw : List ByteArray) (az : List Int) (ao : Int) (aj : Int) (Z : Int) : Option (Int) := (laws_szStringS.f k aw Z).bind fun aK => (if aK < 0 then (some (-1)) else ((laws_szIntS.f az aK).bind fun bI => (if bI < 0 then (some (-1)) else (some bI))))
theorem laws_szBits.calls (k : Nat) (ae : Int) (ag : Int) (bv : Option Addr) (bD : Nat) (aw : List ByteArray) (bw : Option Addr) (bE : Nat) (az : List Int) (ao : Int) (aj : Int) (Z : Int) (r : Int) (w : World) (cu : Kd.C Kd.string w bv aw.length aw) (cr : aw.length ≤ bD) (cv : Kd.C (Kd.int .i64) w bw az.length az) (ct : az.length ≤ bE) (h : laws_szBits.f k ae ag aw az ao aj Z = some r) :
  Calls Try.prog 12 #[.agg #[.int .i64 ae, .int .i64 ag, .slice bv aw.length bD, .slice bw az.length bE, .int .i64 ao, .int .i64 aj], .int .i64 Z] w fun e w' => e = .returned (.int .i64 r) ∧ Below w.heap.size w w' := by
 have ds := Try.underlying38
 have bU := am cu
 have bR := am cr
 clear cu cr
 have cg := am cv
 have cf := am ct
 clear cv ct
 have HB := am (Below.refl w.heap.size w)
 have D := h
 clear h
 unfold laws_szBits.f at D
 obtain ⟨aK, A3, B⟩ := bsi D
 (try dsimp only at B)
 obtain ⟨ay, J⟩ | ⟨ay, J⟩ := sd B
 ·obtain rfl := Option.some.inj J; clear J D B; go_enter Try.func12, Try.ntmps12
  go_wp2_with (first | ((with_reducible refine gate_dst (N := 2) rfl ?_); refine bx (N := 2) (cs := #[.int .i64 ae, .int .i64 ag, .slice bv aw.length bD, .slice bw az.length bE, .int .i64 ao, .int .i64 aj]) (t := 38) ?_; intro cq hg w5 hbox hb; have bz := am hbox; have aM := gA hg HB; replace HB := hA HB hb; clear hb hbox hg; obtain ⟨cJ, cK, cL, cM, cN, cO, cT, cU, cV, cW, cX, cY⟩ := cf6 bz) | ((with_reducible refine gate_callee (f := 29) rfl ?_); refine gM (some 8) Try.func29 (laws_szStringS.calls k _ _ aw Z aK _ (tc (Kd.C_below bU.out HB.out)) bR.out A3.out) ?_; rintro w' ⟨nd, rfl⟩))
  go_ret; exact ⟨B1x4_, (Ae1 HB aM)⟩
 ·obtain ⟨bI, A7, M⟩ := bsi J; (try dsimp only at M)
  obtain ⟨cp, U⟩ | ⟨cp, U⟩ := sd M
  ·obtain rfl := Option.some.inj U; clear U D B J M; go_enter Try.func12, Try.ntmps12
   go_wp2_with (first | ((with_reducible refine gate_dst (N := 2) rfl ?_); refine bx (N := 2) (cs := #[.int .i64 ae, .int .i64 ag, .slice bv aw.length bD, .slice bw az.length bE, .int .i64 ao, .int .i64 aj]) (t := 38) ?_; intro cq hg w9 hbox hb; have bz := am hbox; have aM := gA hg HB; replace HB := hA HB hb; clear hb hbox hg; obtain ⟨cJ, cK, cL, cM, cN, cO, cT, cU, cV, cW, cX, cY⟩ := cf6 bz) | ((with_reducible refine gate_callee (f := 29) rfl ?_); refine gM (some 8) Try.func29 (laws_szStringS.calls k _ _ aw Z aK _ (tc (Kd.C_below bU.out HB.out)) bR.out A3.out) ?_; rintro w' ⟨nd, rfl⟩) | ((with_reducible refine gate_callee (f := 30) rfl ?_); refine gM (some 14) Try.func30 (laws_szIntS.calls _ _ az aK bI _ (tc (Kd.C_below cg.out (Ae1 HB aM))) cf.out A7.out) ?_; rintro w' ⟨nd, rfl⟩))
   go_ret; exact ⟨B1x4_, (Ae1 HB aM)⟩
  ·obtain rfl := Option.some.inj U; clear U D B J M; go_enter Try.func12, Try.ntmps12
   go_wp2_with (first | ((with_reducible refine gate_dst (N := 2) rfl ?_); refine bx (N := 2) (cs := #[.int .i64 ae, .int .i64 ag, .slice bv aw.length bD, .slice bw az.length bE, .int .i64 ao, .int .i64 aj]) (t := 38) ?_; intro cq hg em hbox hb; have bz := am hbox; have aM := gA hg HB; replace HB := hA HB hb; clear hb hbox hg; obtain ⟨cJ, cK, cL, cM, cN, cO, cT, cU, cV, cW, cX, cY⟩ := cf6 bz) | ((with_reducible refine gate_callee (f := 29) rfl ?_); refine gM (some 8) Try.func29 (laws_szStringS.calls k _ _ aw Z aK _ (tc (Kd.C_below bU.out HB.out)) bR.out A3.out) ?_; rintro w' ⟨nd, rfl⟩) | ((with_reducible refine gate_callee (f := 30) rfl ?_); refine gM (some 14) Try.func30 (laws_szIntS.calls _ _ az aK bI _ (tc (Kd.C_below cg.out (Ae1 HB aM))) cf.out A7.out) ?_; rintro w' ⟨nd, rfl⟩))
   go_ret; exact ⟨B1x4_, (Ae1 HB aM)⟩

def laws_szBitsS.l0 : Nat → List (S38) → Int → Int → Option (Int)
 | 0, _, _, _ => none
 | k + 1, x0, x1, x5 => if x5 < (x0.length : Int) then (if 0 ≤ x5 then ((laws_szBits.f k ((rd_T38 x0 x5).f0) ((rd_T38 x0 x5).f1) ((rd_T38 x0 x5).f2) ((rd_T38 x0 x5).f3) ((rd_T38 x0 x5).f4) ((rd_T38 x0 x5).f5) x1).bind fun bq => (if bq < 0 then (some (-1)) else (laws_szBitsS.l0 k x0 bq (wrap64 (x5 + 1))))) else (none)) else (some x1)
def laws_szBitsS.f (k : Nat) (l0 : List (S38)) (Z : Int) : Option (Int) := if (wrap64 (Z - (l0.length : Int))) < 0 then (some (-1)) else (laws_szBitsS.l0 k l0 (wrap64 (Z - (l0.length : Int))) 0)
theorem laws_szBitsS.calls (k : Nat) (A0 : Option Addr) (c0 : Nat) (l0 : List (S38)) (Z : Int) (r : Int) (w : World) (aJ : Kd.C k38 w A0 l0.length l0) (aI : l0.length ≤ c0) (h : laws_szBitsS.f k l0 Z = some r) :
  Calls Try.prog 4 #[.slice A0 l0.length c0, .int .i64 Z] w fun e w' => e = .returned (.int .i64 r) ∧ Below w.heap.size w w' := by
 have ds := Try.underlying38
 have bn := am aJ
 have ce := am aI
 clear aJ aI
 have HB := am (Below.refl w.heap.size w)
 have D := h
 clear h
 unfold laws_szBitsS.f at D
 obtain ⟨aE, B⟩ | ⟨aE, B⟩ := sd D
 ·obtain rfl := Option.some.inj B; clear B D; go_enter Try.func4, Try.ntmps4
  go_wp2
  go_ret; exact ⟨B1x4_, (Ae0 HB)⟩
 ·replace B := am B; clear D; go_enter Try.func4, Try.ntmps4
  go_wp2
  go_loopg [1, 5] k (fun kq v1 v5 w' => ∃ (aF : Int) (aa : Int), v1 = .int .i64 aF ∧ v5 = .int .i64 aa ∧ Aside0 (laws_szBitsS.l0 kq l0 aF aa = some r) ∧ Aside0 (kq ≤ k) ∧ Aside0 (Below w.heap.size w w'))
  case atStart => exact ⟨(wrap64 (Z - (l0.length : Int))), 0, be_, be_, B, ⟨Nat.le_refl _⟩, Ce0 HB⟩
  case round =>
   clear B
   try clear c3
   try clear aE
   obtain ⟨aF, aa, rfl, rfl, J, aD, HB⟩ := hrel
   cases gk with
   | zero => exact absurd J.out (by simp [laws_szBitsS.l0])
   | succ k1 => ?_
   replace J := J.out; simp only [laws_szBitsS.l0] at J
   obtain ⟨ay, M⟩ | ⟨ay, M⟩ := sd J
   ·obtain ⟨dp, U⟩ := yd M; obtain ⟨bq, A6, ac⟩ := bsi U; (try dsimp only at ac)
    obtain ⟨bO, af⟩ | ⟨bO, af⟩ := sd ac
    ·obtain rfl := Option.some.inj af; clear af J M U ac
     have a3 : 0 ≤ (aa : Int) := dga
     have a5 : aa < (l0.length : Int) := dga
     obtain ⟨dj, dd, dk, de, dl, bZ, aT, aU, aV, aW, aX, aY, hl105_2, hi105_2, hl105_3, hi105_3⟩ := at_T38 bn.out aa a3 a5; cases bZ; replace aT := (hbc HB aT).trans aT; replace aU := (hbc HB aU).trans aU; replace aV := (hbc HB aV).trans aV; replace aW := (hbc HB aW).trans aW; replace aX := (hbc HB aX).trans aX; replace aY := (hbc HB aY).trans aY; have bV := am hi105_2; have bS := am hl105_2; clear hi105_2 hl105_2; have bW := am hi105_3; have bT := am hl105_3; clear hi105_3 hl105_3; replace a3 := eq_true a3; replace a5 := eq_true a5
     go_wp2_with (first | ((with_reducible refine gate_callee (f := 12) rfl ?_); refine gM (some 23) Try.func12 (laws_szBits.calls k1 ((rd_T38 l0 aa).f0) ((rd_T38 l0 aa).f1) _ _ ((rd_T38 l0 aa).f2) _ _ ((rd_T38 l0 aa).f3) ((rd_T38 l0 aa).f4) ((rd_T38 l0 aa).f5) aF bq _ (tc (Kd.C_below bV.out HB.out)) bS.out (tc (Kd.C_below bW.out HB.out)) bT.out A6.out) ?_; rintro w8 hb; replace HB := hA HB hb))
     go_ret; exact ⟨B1x4_, (Ae0 HB)⟩
    ·replace af := am af; clear J M U ac
     have a3 : 0 ≤ (aa : Int) := dga
     have a5 : aa < (l0.length : Int) := dga
     obtain ⟨dj, dd, dk, de, dl, bZ, aT, aU, aV, aW, aX, aY, hl105_2, hi105_2, hl105_3, hi105_3⟩ := at_T38 bn.out aa a3 a5; cases bZ; replace aT := (hbc HB aT).trans aT; replace aU := (hbc HB aU).trans aU; replace aV := (hbc HB aV).trans aV; replace aW := (hbc HB aW).trans aW; replace aX := (hbc HB aX).trans aX; replace aY := (hbc HB aY).trans aY; have bV := am hi105_2; have bS := am hl105_2; clear hi105_2 hl105_2; have bW := am hi105_3; have bT := am hl105_3; clear hi105_3 hl105_3; replace a3 := eq_true a3; replace a5 := eq_true a5
     go_wp2_with (first | ((with_reducible refine gate_callee (f := 12) rfl ?_); refine gM (some 23) Try.func12 (laws_szBits.calls k1 ((rd_T38 l0 aa).f0) ((rd_T38 l0 aa).f1) _ _ ((rd_T38 l0 aa).f2) _ _ ((rd_T38 l0 aa).f3) ((rd_T38 l0 aa).f4) ((rd_T38 l0 aa).f5) aF bq _ (tc (Kd.C_below bV.out HB.out)) bS.out (tc (Kd.C_below bW.out HB.out)) bT.out A6.out) ?_; rintro w9 hb; replace HB := hA HB hb))
     go_roundg k1
     case measure => have := aD.out; omega
     case rel => exact ⟨(bq), (wrap64 (aa + 1)), be_, be_, af, ⟨(by have := aD.out; omega)⟩, Ce0 HB⟩
   ·obtain rfl := Option.some.inj M; clear M J
    go_wp2
    go_ret; exact ⟨B1x4_, (Ae0 HB)⟩

def spec_l02Four.f (q : Int) : Option (ByteArray) := some (strOfNums (([(q / 16777216) % 256, (q / 65536) % 256, (q / 256) % 256, (q) % 256] : List Int)))
theorem spec_l02Four.calls (q : Int) (r : ByteArray) (w : World) (h : spec_l02Four.f q = some r) :
  Calls Try.prog 58 #[.int .u32 q] w fun e w' => e = .returned (.string r) ∧ Below w.heap.size w w' := by
 have HB := am (Below.refl w.heap.size w)
 have D := h
 clear h
 unfold spec_l02Four.f at D
 obtain ⟨ev, bG⟩ : ∃ y_ : List Int, y_ = (([(q / 16777216) % 256, (q / 65536) % 256, (q / 256) % 256, (q) % 256] : List Int)) := ⟨_, rfl⟩
 (first | with_reducible replace D := hq bG D | rw [← bG] at D | simp only [← bG] at D)
 have ch := am bG
 clear bG
 obtain rfl := Option.some.inj D
 clear D
 go_enter Try.func58, Try.ntmps58
 go_wp2_with (first | ((with_reducible refine gate_dst (N := 14) rfl ?_); refine lL (Kd.int .u8) 5 14 ([(q / 16777216) % 256, (q / 65536) % 256, (q / 256) % 256, (q) % 256] : List Int) [.int .u8 ((q / 16777216) % 256), .int .u8 ((q / 65536) % 256), .int .u8 ((q / 256) % 256), .int .u8 ((q) % 256)] (Reps.one (show Kd.M (Kd.int .u8) _ _ _ ((q / 16777216) % 256) [.int .u8 ((q / 16777216) % 256)] from rfl) (Reps.one (show Kd.M (Kd.int .u8) _ _ _ ((q / 65536) % 256) [.int .u8 ((q / 65536) % 256)] from rfl) (Reps.one (show Kd.M (Kd.int .u8) _ _ _ ((q / 256) % 256) [.int .u8 ((q / 256) % 256)] from rfl) (Reps.one (show Kd.M (Kd.int .u8) _ _ _ ((q) % 256) [.int .u8 ((q) % 256)] from rfl) (Reps.none _ _))))) ?_; intro ej w2 aC hb; (first | rw [← ch.out] at aC | (simp only [Int.reduceToNat] at aC; rw [← ch.out] at aC)); have df := am (Kd.R_lower aC (below_size (Ae0 HB))); replace HB := hA HB hb; clear hb aC; have dr := own_string (P := Try.prog) Try.underlying90 Try.underlying5 Try.underlying9 (Kd.own_of_R df.out)))
 go_ret
 exact ⟨B1x4_, (Ae0 HB)⟩

mutual
def spec_SumMore.l0 : Nat → Int → ByteArray → Int → Option (Int)
 | 0, _, _, _ => none
 | k + 1, x0, x1, x5 => if x5 < (x1.size : Int) then (if 0 ≤ x5 then (spec_SumMore.l1 k (Go.bits .xor .u32 x0 ((bt x1 x5) % 4294967296)) x1 x5 0) else (none)) else (some x0)
def spec_SumMore.l1 : Nat → Int → ByteArray → Int → Int → Option (Int)
 | 0, _, _, _, _ => none
 | k + 1, x0, x1, x5, x6 => if x6 < 8 then (if (Int.tmod x0 2) = 1 then (spec_SumMore.l1 k (Go.bits .xor .u32 ((Int.tdiv x0 2) % 4294967296) 3558460437) x1 x5 (wrap64 (x6 + 1))) else (spec_SumMore.l1 k ((Int.tdiv x0 2) % 4294967296) x1 x5 (wrap64 (x6 + 1)))) else (spec_SumMore.l0 k x0 x1 (wrap64 (x5 + 1)))
end
def spec_SumMore.f (k : Nat) (q : Int) (Z : ByteArray) : Option (Int) := spec_SumMore.l0 k q Z 0
theorem spec_SumMore.calls (k : Nat) (q : Int) (Z : ByteArray) (r : Int) (w : World) (h : spec_SumMore.f k q Z = some r) :
  Calls Try.prog 72 #[.int .u32 q, .string Z] w fun e w' => e = .returned (.int .u32 r) ∧ Drawn0 w w' := by
 have D := h
 clear h
 unfold spec_SumMore.f at D
 replace D := am D
 go_enter Try.func72, Try.ntmps72
 go_wp2
 go_loopg [0, 5] k (fun kq v0 v5 w' => ∃ (bQ : Int) (aa : Int), v0 = .int .u32 bQ ∧ v5 = .int .i64 aa ∧ Aside0 (spec_SumMore.l0 kq bQ Z aa = some r) ∧ Aside0 (kq ≤ k) ∧ Drawn0 w w')
 case atStart => exact ⟨(q), 0, be_, be_, D, ⟨Nat.le_refl _⟩, gd_⟩
 case round =>
  clear D; obtain ⟨bQ, aa, rfl, rfl, B, aD, ⟨m1, rfl⟩⟩ := hrel
  cases gk with
  | zero => exact absurd B.out (by simp [spec_SumMore.l0])
  | succ k1 => ?_
  replace B := B.out; simp only [spec_SumMore.l0] at B
  obtain ⟨aE, J⟩ | ⟨aE, J⟩ := sd B
  ·obtain ⟨ay, M⟩ := yd J; replace M := am M; clear B J
   have p5 : 0 ≤ (aa : Int) := dga
   have q5 : aa < (Z.size : Int) := dga
   have dv := bt_at Z aa; replace p5 := eq_true p5; replace q5 := eq_true q5
   go_wp2
   go_loopg [0, 6] k1 (fun kq v0 v6 w' => ∃ (bu : Int) (bK : Int), v0 = .int .u32 bu ∧ v6 = .int .i64 bK ∧ Aside0 (spec_SumMore.l1 kq bu Z aa bK = some r) ∧ Aside0 (kq ≤ k1) ∧ Drawn0 w w')
   case atStart => exact ⟨(Go.bits .xor .u32 bQ ((bt Z aa) % 4294967296)), 0, be_, be_, M, ⟨Nat.le_refl _⟩, gd_⟩
   case round =>
    clear M
    try clear c3
    try clear aE
    try clear c4
    try clear ay
    try clear p5
    try clear q5
    try clear dv
    try clear p5
    try clear q5
    obtain ⟨bu, bK, rfl, rfl, U, bM, ⟨m2, rfl⟩⟩ := hrel
    cases gk with
    | zero => exact absurd U.out (by simp [spec_SumMore.l1])
    | succ k2 => ?_
    replace U := U.out; simp only [spec_SumMore.l1] at U
    obtain ⟨bX, ac⟩ | ⟨bX, ac⟩ := sd U
    ·obtain ⟨c7, af⟩ | ⟨c7, af⟩ := sp ac
     ·obtain ⟨bO, co⟩ := yE c7; clear c7; replace af := am af; clear U ac
      go_wp2
      go_roundg k2
      case measure => have := aD.out; have := bM.out; omega
      case rel => exact ⟨(Go.bits .xor .u32 ((Int.tdiv bu 2) % 4294967296) 3558460437), (wrap64 (bK + 1)), be_, be_, af, ⟨B1x12_⟩, gd_⟩
     ·obtain ⟨bO, co⟩ := nE c7; replace af := am af; clear U ac
      go_wp2
      go_roundg k2
      case measure => have := aD.out; have := bM.out; omega
      case rel => exact ⟨((Int.tdiv bu 2) % 4294967296), (wrap64 (bK + 1)), be_, be_, af, ⟨B1x12_⟩, gd_⟩
    ·replace ac := am ac; clear U
     go_wp2
     go_roundg k2
     case measure => have := aD.out; have := bM.out; omega
     case rel => exact ⟨(bu), (wrap64 (aa + 1)), be_, be_, ac, ⟨B1x12_⟩, gd_⟩
  ·obtain rfl := Option.some.inj J; clear J B
   go_wp2
   go_ret; exact ⟨gr_, gd_⟩

def spec_SumOf.f (k : Nat) (q : ByteArray) : Option (Int) := (spec_SumMore.f k 4294967295 q).bind fun b1 => (some b1)
theorem spec_SumOf.calls (k : Nat) (q : ByteArray) (r : Int) (w : World) (h : spec_SumOf.f k q = some r) :
  Calls Try.prog 59 #[.string q] w fun e w' => e = .returned (.int .u32 r) ∧ Drawn0 w w' := by
 have D := h
 clear h
 unfold spec_SumOf.f at D
 obtain ⟨b1, A2, B⟩ := bsi D
 (try dsimp only at B)
 obtain rfl := Option.some.inj B
 clear B D
 go_enter Try.func59, Try.ntmps59
 go_wp2_with (first | ((with_reducible refine gate_callee (f := 72) rfl ?_); refine gM (some 4) Try.func72 (spec_SumMore.calls k 4294967295 q b1 _ A2.out) ?_; rintro w' ⟨nd, rfl⟩))
 go_ret
 exact ⟨gr_, gd_⟩
theorem B2x5_ (h : p := by first | rfl | (simp [errW_none, errW_some] <;> rfl) | (simp only [← aS]; first | rfl | (simp [errW_none, errW_some] <;> rfl)) | (simp [*, errW_none, errW_some] <;> rfl)) : p := h
theorem B2x6_ (h : p := by (try simp only [List.map_toArray, List.map_cons, List.map_nil]); first | done | (simp only [aS]; rfl) | rfl | (simp only [List.length_drop, List.length_take]; rfl)) : p := h
def spec_Unsealed.f (k : Nat) (q : ByteArray) : Option (ByteArray × Bool) := if (wrap64 ((q.size : Int) - 4)) < 0 then (some ((⟨#[]⟩ : ByteArray), false)) else (if (wrap64 ((q.size : Int) - 4)) > 20000 then (some ((⟨#[]⟩ : ByteArray), false)) else (if 0 ≤ (wrap64 ((q.size : Int) - 4)) then (if (wrap64 ((q.size : Int) - 4)) ≤ (q.size : Int) then ((spec_SumOf.f k (q.extract 0 ((wrap64 ((q.size : Int) - 4)) : Int).toNat)).bind fun br => ((spec_l02Four.f br).bind fun bP => (if (q.extract ((wrap64 ((q.size : Int) - 4)) : Int).toNat q.size).toList = bP.toList then (some (q.extract 0 ((wrap64 ((q.size : Int) - 4)) : Int).toNat, true)) else (some ((⟨#[]⟩ : ByteArray), false))))) else (none)) else (none)))
def spec_Unsealed.T2 : Bool × List (List Nat × List Nat) := (true, [([], []), ([0], [0]), ([1], [1]), ([2], [2]), ([3, 2], [2, 3]), ([2, 4], [2, 4]), ([5, 2], [5]), ([6], [6]), ([6], [6]), ([7, 8, 6], [6, 7, 8]), ([6], [6]), ([6], [6]), ([10, 11, 6], [6, 10, 11]), ([12, 6, 6], [6, 12]), ([13, 13, 6], [6, 13]), ([9, 14, 6], [6, 9, 14]), ([6, 15], [6, 15])])
def spec_Unsealed.B2 : List Nat := [0, 1, 3, 7, 15, 31, 63, 127, 127, 511, 127, 127, 3199, 7295, 15487, 32767, 65535]
theorem spec_Unsealed.tab2 : rtab .any (opsOf Try.f31 2) = spec_Unsealed.T2 := by kernel_rfl
theorem spec_Unsealed.bits2 : waitsOk spec_Unsealed.T2.2 spec_Unsealed.B2 = true := by kernel_rfl
theorem spec_Unsealed.calls (k : Nat) (q : ByteArray) (r1 : ByteArray) (r2 : Bool) (w : World) (h : spec_Unsealed.f k q = some (r1, r2)) :
  Calls Try.prog 31 #[.string q] w fun e w' => e = .returned (.tuple #[.string r1, .bool r2]) ∧ Below w.heap.size w w' := by
 have HB := am (Below.refl w.heap.size w)
 have D := h
 clear h
 unfold spec_Unsealed.f at D
 obtain ⟨cn, B⟩ | ⟨cn, B⟩ := sd D
 ·obtain ⟨rfl, rfl⟩ := s2 B; clear B D; go_enter Try.func31, Try.ntmps31
  try go_wp2
  replace HB := bdr HB; refine st_ 17 (fun w' => True) [] spec_Unsealed.tab2 spec_Unsealed.bits2 trivial (fun al z aO => ?_); generalize w.drew = w3 at HB al ⊢; refine pu_ 0 8 z ?_; refine pu_ 1 9 z ?_; refine pu_ 2 10 z ?_; refine of_ 3 11 z ?_; refine of_ 4 12 z ?_; refine pu_ 5 13 z ?_; refine pu_ 6 14 z ?_; refine of_ 7 15 z ?_; refine of_ 8 16 z ?_; refine of_ 9 17 z ?_; refine of_ 10 18 z ?_; refine of_ 11 19 z ?_; refine of_ 12 20 z ?_; refine of_ 13 21 z ?_; refine of_ 14 22 z ?_; refine of_ 15 23 z ?_; refine pu_ 16 24 z ?_; refine done_ (done_of z.out gk_) ?_
  try go_wp2
  go_ret2
  exact ⟨B1x4_, (Ae0 HB)⟩
 ·obtain ⟨c4, J⟩ | ⟨c4, J⟩ := sp B
  ·have ay : decide (20000 < (wrap64 ((q.size : Int) - 4))) = true := decide_eq_true c4
   clear c4; obtain ⟨rfl, rfl⟩ := s2 J; clear J D B; go_enter Try.func31, Try.ntmps31
   try go_wp2
   replace HB := bdr HB; refine st_ 17 (fun w' => True) [] spec_Unsealed.tab2 spec_Unsealed.bits2 trivial (fun al z aO => ?_); generalize w.drew = w5 at HB al ⊢; refine pu_ 0 8 z ?_; refine pu_ 1 9 z ?_; refine pu_ 2 10 z ?_; refine pu_ 3 11 z ?_; refine pu_ 4 12 z ?_; refine pu_ 5 13 z ?_; refine pu_ 6 14 z ?_; refine of_ 7 15 z ?_; refine of_ 8 16 z ?_; refine of_ 9 17 z ?_; refine of_ 10 18 z ?_; refine of_ 11 19 z ?_; refine of_ 12 20 z ?_; refine of_ 13 21 z ?_; refine of_ 14 22 z ?_; refine of_ 15 23 z ?_; refine pu_ 16 24 z ?_; refine done_ (done_of z.out gk_) ?_
   try go_wp2
   go_ret2
   exact ⟨B1x4_, (Ae0 HB)⟩
  ·have ay : decide (20000 < (wrap64 ((q.size : Int) - 4))) = false := decide_eq_false c4
   clear c4; obtain ⟨aH, aS⟩ : ∃ j_ : Int, (wrap64 ((q.size : Int) - 4)) = j_ := ⟨_, rfl⟩
   (first | rw [aS] at J | simp only [aS] at J)
   (try rw [aS] at cn); (try rw [aS] at ay)
   have dZ : (IntKind.i64.wrap ((q.size : Int) - 4)) = aH := (i64_w _).trans aS
   obtain ⟨bO, co, M⟩ := ye J; obtain ⟨cp, dT, U⟩ := ye M; have dq := eq_true (dga : 0 ≤ (aH)); have cj := eq_true (dga : (aH) ≤ (q.size : Int)); obtain ⟨br, bm, ac⟩ := bsi U; (try dsimp only at ac); obtain ⟨bP, cc, af⟩ := bsi ac; (try dsimp only at af)
   obtain ⟨aQ, ar⟩ | ⟨aQ, ar⟩ := sp af
   ·obtain ⟨cl, cm⟩ := yE aQ; clear aQ; have dR := eq_true (dga : 0 ≤ (aH)); have dn := eq_true (dga : (aH) ≤ (q.size : Int)); obtain ⟨rfl, rfl⟩ := s2 ar; clear ar D B J M U ac af; go_enter Try.func31, Try.ntmps31
    try go_wp2
    replace HB := bdr HB; refine st_ 17 (fun w' => True) [] spec_Unsealed.tab2 spec_Unsealed.bits2 trivial (fun al z aO => ?_); generalize w.drew = dD at HB al ⊢; refine pu_ 0 8 z ?_; refine pu_ 1 9 z ?_; refine pu_ 2 10 z ?_; refine pu_ 3 11 z ?_; refine pu_ 4 12 z ?_; refine pu_ 5 13 z ?_; refine pu_ 6 14 z ?_; refine pu_ 7 15 z ?_; refine pu_ 8 16 z ?_; refine pu_ 9 17 z ?_; refine pu_ 10 18 z ?_; refine pu_ 11 19 z ?_; refine pu_ 12 20 z ?_; refine on_ 13 (some 21) z (fun K hK => ?_); refine goes_ Try.func59 gk_ rfl #[.string (q.extract 0 ((aH) : Int).toNat)] (by rfl) rfl rfl B2x6_ ?_; refine (spec_SumOf.calls k (q.extract 0 ((aH) : Int).toNat) br _ bm.out).mono ?_; rintro e w' ⟨rfl, ⟨nd, rfl⟩⟩; refine ⟨_, rfl, ?_⟩; refine hK.out _ _ trivial (fun al => nm_ ?_); clear hK K; refine on_ 14 (some 22) z (fun K hK => ?_); refine gT Try.func58 (spec_l02Four.calls br bP _ cc.out) ?_; rintro eo hb; replace HB := hA HB hb; refine hK.out _ _ trivial (fun al => nm_ ?_); clear hK K; refine pu_ 15 23 z ?_; refine pu_ 16 24 z ?_; refine done_ (done_of z.out gk_) ?_
    try go_wp2
    go_ret2
    exact ⟨B2x5_, (Ae0 HB)⟩
   ·obtain ⟨cl, cm⟩ := nE aQ; obtain ⟨rfl, rfl⟩ := s2 ar; clear ar D B J M U ac af; go_enter Try.func31, Try.ntmps31
    try go_wp2
    replace HB := bdr HB; refine st_ 17 (fun w' => True) [] spec_Unsealed.tab2 spec_Unsealed.bits2 trivial (fun al z aO => ?_); generalize w.drew = cI at HB al ⊢; refine pu_ 0 8 z ?_; refine pu_ 1 9 z ?_; refine pu_ 2 10 z ?_; refine pu_ 3 11 z ?_; refine pu_ 4 12 z ?_; refine pu_ 5 13 z ?_; refine pu_ 6 14 z ?_; refine pu_ 7 15 z ?_; refine pu_ 8 16 z ?_; refine pu_ 9 17 z ?_; refine pu_ 10 18 z ?_; refine pu_ 11 19 z ?_; refine pu_ 12 20 z ?_; refine on_ 13 (some 21) z (fun K hK => ?_); refine goes_ Try.func59 gk_ rfl #[.string (q.extract 0 ((aH) : Int).toNat)] (by rfl) rfl rfl B2x6_ ?_; refine (spec_SumOf.calls k (q.extract 0 ((aH) : Int).toNat) br _ bm.out).mono ?_; rintro e w' ⟨rfl, ⟨nd, rfl⟩⟩; refine ⟨_, rfl, ?_⟩; refine hK.out _ _ trivial (fun al => nm_ ?_); clear hK K; refine on_ 14 (some 22) z (fun K hK => ?_); refine gT Try.func58 (spec_l02Four.calls br bP _ cc.out) ?_; rintro bJ hb; replace HB := hA HB hb; refine hK.out _ _ trivial (fun al => nm_ ?_); clear hK K; refine pu_ 15 23 z ?_; refine pu_ 16 24 z ?_; refine done_ (done_of z.out gk_) ?_
    try go_wp2
    go_ret2
    exact ⟨B2x5_, (Ae0 HB)⟩

def spec_l01In.f (q : Int) (Z : Int) (a2 : Int) : Option (Bool) := if q ≥ Z then (some (decide (q ≤ a2))) else (some false)
theorem spec_l01In.calls (q : Int) (Z : Int) (a2 : Int) (r : Bool) (w : World) (h : spec_l01In.f q Z a2 = some r) :
  Calls Try.prog 35 #[.int .i64 q, .int .i64 Z, .int .i64 a2] w fun e w' => e = .returned (.bool r) ∧ Drawn0 w w' := by
 have D := h
 clear h
 unfold spec_l01In.f at D
 obtain ⟨c4, B⟩ | ⟨c4, B⟩ := sp D
 ·have ay : decide (Z ≤ q) = true := decide_eq_true c4
  clear c4; obtain rfl := Option.some.inj B; clear B D; go_enter Try.func35, Try.ntmps35
  go_wp2
  go_ret; exact ⟨gr_, gd_⟩
 ·have ay : decide (Z ≤ q) = false := decide_eq_false c4
  clear c4; obtain rfl := Option.some.inj B; clear B D; go_enter Try.func35, Try.ntmps35
  go_wp2
  go_ret; exact ⟨gr_, gd_⟩

def spec_CellOk.f (ae : Int) (ag : Int) (ai : Int) (ah : ByteArray) : Option (Bool) := (spec_l01In.f ae 0 99).bind fun cz => (if cz = true then ((spec_l01In.f ag 1 99).bind fun cA => (if cA = true then ((spec_l01In.f ai 1 3).bind fun cB => (if cB = true then (some (decide ((ah.size : Int) ≤ 60))) else (some false))) else (some false))) else (some false))
theorem spec_CellOk.calls (ae : Int) (ag : Int) (ai : Int) (ah : ByteArray) (r : Bool) (w : World) (h : spec_CellOk.f ae ag ai ah = some r) :
  Calls Try.prog 32 #[.agg #[.int .i64 ae, .int .i64 ag, .int .i64 ai, .string ah]] w fun e w' => e = .returned (.bool r) ∧ Below w.heap.size w w' := by
 have dt := Try.underlying40
 have HB := am (Below.refl w.heap.size w)
 have D := h
 clear h
 unfold spec_CellOk.f at D
 obtain ⟨cz, A2, B⟩ := bsi D
 (try dsimp only at B)
 obtain ⟨rfl, J⟩ | ⟨rfl, J⟩ := sb B
 ·obtain ⟨cA, A4, M⟩ := bsi J; (try dsimp only at M)
  obtain ⟨rfl, U⟩ | ⟨rfl, U⟩ := sb M
  ·obtain ⟨cB, A6, ac⟩ := bsi U; (try dsimp only at ac)
   obtain ⟨rfl, af⟩ | ⟨rfl, af⟩ := sb ac
   ·obtain rfl := Option.some.inj af; clear af D B J M U ac; go_enter Try.func32, Try.ntmps32
    go_wp2_with (first | ((with_reducible refine gate_dst (N := 1) rfl ?_); (try (refine gate_guard (by rfl) ?_; dsimp only)); refine bx (N := 1) (cs := #[.int .i64 ae, .int .i64 ag, .int .i64 ai, .string ah]) (t := 40) ?_; intro b0 hg w8 hbox hb; have aL := am hbox; have aN := gA hg HB; replace HB := hA HB hb; clear hb hbox hg; obtain ⟨b3, b4, b5, b6, b7, b8, b9, ca⟩ := cf4 aL) | ((with_reducible refine gate_callee (f := 35) rfl ?_); refine gM (some 5) Try.func35 (spec_l01In.calls ae 0 99 true _ A2.out) ?_; rintro w' ⟨nd, rfl⟩) | (go_at_call 35; (with_reducible refine (spec_l01In.calls ag 1 99 true _ A4.out).mono ?_); rintro e w' ⟨rfl, ⟨nd, rfl⟩⟩) | (go_at_call 35; (with_reducible refine (spec_l01In.calls ai 1 3 true _ A6.out).mono ?_); rintro e w' ⟨rfl, ⟨nd, rfl⟩⟩))
    go_ret; exact ⟨B1x4_, (Ae1 HB aN)⟩
   obtain rfl := Option.some.inj af; clear af D B J M U ac; go_enter Try.func32, Try.ntmps32
   go_wp2_with (first | ((with_reducible refine gate_dst (N := 1) rfl ?_); (try (refine gate_guard (by rfl) ?_; dsimp only)); refine bx (N := 1) (cs := #[.int .i64 ae, .int .i64 ag, .int .i64 ai, .string ah]) (t := 40) ?_; intro b0 hg el hbox hb; have aL := am hbox; have aN := gA hg HB; replace HB := hA HB hb; clear hb hbox hg; obtain ⟨b3, b4, b5, b6, b7, b8, b9, ca⟩ := cf4 aL) | ((with_reducible refine gate_callee (f := 35) rfl ?_); refine gM (some 5) Try.func35 (spec_l01In.calls ae 0 99 true _ A2.out) ?_; rintro w' ⟨nd, rfl⟩) | (go_at_call 35; (with_reducible refine (spec_l01In.calls ag 1 99 true _ A4.out).mono ?_); rintro e w' ⟨rfl, ⟨nd, rfl⟩⟩) | (go_at_call 35; (with_reducible refine (spec_l01In.calls ai 1 3 false _ A6.out).mono ?_); rintro e w' ⟨rfl, ⟨nd, rfl⟩⟩))
   go_ret; exact ⟨B1x4_, (Ae1 HB aN)⟩
  obtain rfl := Option.some.inj U; clear U D B J M; go_enter Try.func32, Try.ntmps32
  go_wp2_with (first | ((with_reducible refine gate_dst (N := 1) rfl ?_); (try (refine gate_guard (by rfl) ?_; dsimp only)); refine bx (N := 1) (cs := #[.int .i64 ae, .int .i64 ag, .int .i64 ai, .string ah]) (t := 40) ?_; intro b0 hg en hbox hb; have aL := am hbox; have aN := gA hg HB; replace HB := hA HB hb; clear hb hbox hg; obtain ⟨b3, b4, b5, b6, b7, b8, b9, ca⟩ := cf4 aL) | ((with_reducible refine gate_callee (f := 35) rfl ?_); refine gM (some 5) Try.func35 (spec_l01In.calls ae 0 99 true _ A2.out) ?_; rintro w' ⟨nd, rfl⟩) | (go_at_call 35; refine (spec_l01In.calls ag 1 99 false _ A4.out).mono ?_; rintro e w' ⟨rfl, ⟨nd, rfl⟩⟩))
  go_ret; exact ⟨B1x4_, (Ae1 HB aN)⟩
 obtain rfl := Option.some.inj J
 clear J D B
 go_enter Try.func32, Try.ntmps32
 go_wp2_with (first | ((with_reducible refine gate_dst (N := 1) rfl ?_); (try (refine gate_guard (by rfl) ?_; dsimp only)); refine bx (N := 1) (cs := #[.int .i64 ae, .int .i64 ag, .int .i64 ai, .string ah]) (t := 40) ?_; intro b0 hg dC hbox hb; have aL := am hbox; have aN := gA hg HB; replace HB := hA HB hb; clear hb hbox hg; obtain ⟨b3, b4, b5, b6, b7, b8, b9, ca⟩ := cf4 aL) | ((with_reducible refine gate_callee (f := 35) rfl ?_); refine gM (some 5) Try.func35 (spec_l01In.calls ae 0 99 false _ A2.out) ?_; rintro w' ⟨nd, rfl⟩))
 go_ret
 exact ⟨B1x4_, (Ae1 HB aN)⟩
def spec_ReadCell.j0 : Nat → ByteArray → Bool → Option (Int × Int × Int × ByteArray × Bool)
 | 0, _, _ => none
 | k + 1, x4, dF => if dF = true then (some (0, 0, 0, (⟨#[]⟩ : ByteArray), false)) else (if 0 < (x4.size : Int) then (if 1 < (x4.size : Int) then (if 2 < (x4.size : Int) then (if 3 ≤ (x4.size : Int) then ((spec_CellOk.f (wrap64 (bt x4 0)) (wrap64 (bt x4 1)) (wrap64 (bt x4 2)) (x4.extract 3 x4.size)).bind fun cC => (if cC = true then (some (wrap64 (bt x4 0), wrap64 (bt x4 1), wrap64 (bt x4 2), x4.extract 3 x4.size, true)) else (some (0, 0, 0, (⟨#[]⟩ : ByteArray), false)))) else (none)) else (none)) else (none)) else (none))
def spec_ReadCell.f (k : Nat) (q : ByteArray) : Option (Int × Int × Int × ByteArray × Bool) := (spec_Unsealed.f k q).bind fun bN => (if bN.2 = true then (spec_ReadCell.j0 k bN.1 (decide ((bN.1.size : Int) < 3))) else (spec_ReadCell.j0 k bN.1 true))
def spec_ReadCell.T4 : Bool × List (List Nat × List Nat) := (true, [([], []), ([0], [0]), ([1], [1]), ([], []), ([3], [3]), ([4], [4]), ([], []), ([6], [6]), ([7], [7]), ([], []), ([9], [9]), ([2, 5, 8, 10], [2, 5, 8, 10]), ([], []), ([12, 11, 0, 1, 2, 3, 4, 5, 6, 7, 8, 9, 10, 11, 12], [11, 12])])
def spec_ReadCell.B4 : List Nat := [0, 1, 3, 0, 8, 24, 0, 64, 192, 0, 512, 2047, 0, 8191]
theorem spec_ReadCell.tab4 : rtab .any (opsOf Try.f13 4) = spec_ReadCell.T4 := by kernel_rfl
theorem spec_ReadCell.bits4 : waitsOk spec_ReadCell.T4.2 spec_ReadCell.B4 = true := by kernel_rfl
theorem spec_ReadCell.calls (k : Nat) (q : ByteArray) (r1 : Int) (r2 : Int) (r3 : Int) (r4 : ByteArray) (r5 : Bool) (w : World) (h : spec_ReadCell.f k q = some (r1, r2, r3, r4, r5)) :
  Calls Try.prog 13 #[.string q] w fun e w' => e = .returned (.tuple #[.agg #[.int .i64 r1, .int .i64 r2, .int .i64 r3, .string r4], .bool r5]) ∧ Below w.heap.size w w' := by
 have dt := Try.underlying40
 have HB := am (Below.refl w.heap.size w)
 have D := h
 clear h
 unfold spec_ReadCell.f at D
 obtain ⟨⟨Y, dz⟩, A2, B⟩ := bsi D
 (try dsimp only at B)
 replace B := am B
 clear D
 go_enter Try.func13, Try.ntmps13
 go_upto_region 2 with (first | ((with_reducible refine gate_dst (N := 2) rfl ?_); (try (refine gate_guard (by rfl) ?_; dsimp only)); refine bx (N := 2) (cs := #[.int .i64 0, .int .i64 0, .int .i64 0, .string (⟨#[]⟩ : ByteArray)]) (t := 40) ?_; intro bp hg w4 hbox hb; have ak := am hbox; have aG := gA hg HB; replace HB := hA HB hb; clear hb hbox hg) | ((with_reducible refine gate_callee (f := 31) rfl ?_); refine gM (some 9) Try.func31 (spec_Unsealed.calls k q Y dz _ A2.out) ?_; rintro w5 hb; replace ak := bA ak hb; replace HB := De1 HB aG hb))
 (try simp only [Act.put, List.setIfInBounds_toArray, List.set_cons_zero, List.set_cons_succ])
 go_cut [18] (fun dB wc => ∃ (kq : Nat) (b2 : Bool), dB = .bool b2 ∧ Aside0 (spec_ReadCell.j0 kq Y b2 = some (r1, r2, r3, r4, r5)) ∧ Aside0 (kq ≤ k) ∧ Hc wc bp #[.int .i64 0, .int .i64 0, .int .i64 0, .string (⟨#[]⟩ : ByteArray)] 40 ∧ Hb w wc)
 case first =>
  replace B := B.out
  obtain ⟨rfl, J⟩ | ⟨rfl, J⟩ := sb B
  ·replace J := am J; clear B
   go_wp2
   go_meet
   case rel => exact ⟨_, (decide ((Y.size : Int) < 3)), be_, J, ⟨gl_⟩, Cb ak, Ce1 HB aG⟩
  ·replace J := am J; clear B
   go_wp2
   go_meet
   case rel => exact ⟨_, true, be_, J, ⟨gl_⟩, Cb ak, Ce1 HB aG⟩
 case rest =>
  clear B; obtain ⟨kq, b2, rfl, M, dO, ak, HB⟩ := hcut
  cases kq with
  | zero => exact absurd M.out (by simp [spec_ReadCell.j0])
  | succ ei => ?_
  replace M := M.out; simp only [spec_ReadCell.j0] at M
  obtain ⟨rfl, U⟩ | ⟨rfl, U⟩ := sb M
  ·obtain ⟨rfl, rfl, rfl, rfl, rfl⟩ := s5 U; clear U M; obtain ⟨cP, cQ, cR, cS, cZ, da, db, dc⟩ := cf4 ak
   go_wp2
   refine bodyPost_ret (results_ct rfl _ _ bp 40 #[.int .i64 0, .int .i64 0, .int .i64 0, .string (⟨#[]⟩ : ByteArray)] (0, 0) _ rfl (Ap0 ak) Try.underlying40 rfl gk_) rfl ?_; exact ⟨B1x4_, (Ae1 HB aG)⟩
  ·obtain ⟨c9, ac⟩ := yn U; have dq := decide_eq_true c9
   have dU : decide (0 < Y.size) = true := decide_eq_true (by omega)
   clear c9; obtain ⟨ck, af⟩ := yn ac; have dP := decide_eq_true ck
   have dQ : decide (1 < Y.size) = true := decide_eq_true (by omega)
   clear ck; obtain ⟨aQ, ar⟩ := yn af; have cl := decide_eq_true aQ
   have cm : decide (2 < Y.size) = true := decide_eq_true (by omega)
   clear aQ; obtain ⟨dn, dS, aB⟩ := ye ar; obtain ⟨cC, cd, ap⟩ := bsi aB; (try dsimp only at ap); replace ap := am ap; clear M U ac af ar aB
   try go_wp2
   replace ak := dA ak; replace HB := bdr HB
   have dw : 0 ≤ (0 : Int) := (by omega)
   have cw : 0 < Y.size := (by have : (0 : Int) < (Y.size : Int) := dga; omega)
   have ef : ∀ h : 0 < Y.size, ((Y[0]'h).toNat : Int) = bt Y 0 := bt_at Y 0
   clear dw
   have qi10 : (0 < (Y.size : Int)) = True := eq_true (dga)
   replace cw := eq_true cw
   have dx : 0 ≤ (1 : Int) := (by omega)
   have cx : 1 < Y.size := (by have : (1 : Int) < (Y.size : Int) := dga; omega)
   have eg : ∀ h : 1 < Y.size, ((Y[1]'h).toNat : Int) = bt Y 1 := bt_at Y 1
   clear dx
   have qi12 : (1 < (Y.size : Int)) = True := eq_true (dga)
   replace cx := eq_true cx
   have dy : 0 ≤ (2 : Int) := (by omega)
   have cy : 2 < Y.size := (by have : (2 : Int) < (Y.size : Int) := dga; omega)
   have eh : ∀ h : 2 < Y.size, ((Y[2]'h).toNat : Int) = bt Y 2 := bt_at Y 2
   clear dy
   have qi14 : (2 < (Y.size : Int)) = True := eq_true (dga)
   replace cy := eq_true cy; refine st_ 14 (fun w' => True) [] spec_ReadCell.tab4 spec_ReadCell.bits4 trivial (fun al z aO => ?_); generalize wc.drew = cI at ak HB al ⊢; refine pu_ 0 20 z ?_; refine pu_ 3 23 z ?_; refine pu_ 6 26 z ?_; refine pu_ 9 29 z ?_; refine pu_ 10 30 z ?_; refine take_ (i := 1) (N := some 21) (v := ?_) (a' := ?_) #[true, true, false, true, false, false, true, false, false, true, true, false, false, false] rfl rfl (take_ofW z.out aO.out gk_) (fun _ _ _ h => h) (Or.inl ⟨(by rfl), ?_⟩) al ?_ ?_; rotate_left
   ·intro w' _; go_simp; with_reducible rfl
   rotate_left
   ·simp only [Act.put, List.setIfInBounds_toArray, List.set_cons_zero, List.set_cons_succ, i64_w, i32_w]; rfl
   refine pu_ 2 22 z ?_; refine take_ (i := 4) (N := some 24) (v := ?_) (a' := ?_) #[true, true, true, true, true, false, true, false, false, true, true, false, false, false] rfl rfl (take_ofW z.out aO.out gk_) (fun _ _ _ h => h) (Or.inl ⟨(by rfl), ?_⟩) al ?_ ?_; rotate_left
   ·intro w' _; go_simp; with_reducible rfl
   rotate_left
   ·simp only [Act.put, List.setIfInBounds_toArray, List.set_cons_zero, List.set_cons_succ, i64_w, i32_w]; rfl
   refine pu_ 5 25 z ?_; refine take_ (i := 7) (N := some 27) (v := ?_) (a' := ?_) #[true, true, true, true, true, true, true, true, false, true, true, false, false, false] rfl rfl (take_ofW z.out aO.out gk_) (fun _ _ _ h => h) (Or.inl ⟨(by rfl), ?_⟩) al ?_ ?_; rotate_left
   ·intro w' _; go_simp; with_reducible rfl
   rotate_left
   ·simp only [Act.put, List.setIfInBounds_toArray, List.set_cons_zero, List.set_cons_succ, i64_w, i32_w]; rfl
   refine pu_ 8 28 z ?_; refine pu_ 11 31 z ?_; refine on_ 12 (some 6) z (fun K hK => ?_); refine box_step ?hg (N := 6) ?hd (cs := #[.int .i64 0, .int .i64 0, .int .i64 0, .string (⟨#[]⟩ : ByteArray)]) (t := 40) ?hr ?_; (case hd => rfl); (case hg => rfl); (case hr => exact gs_); intro bF hg bJ hbox hb; have ax := am hbox; have bL := gA hg HB; replace HB := De1 HB aG hb; have aP := nA hg ak; have bC := mA hg ak; replace ak := bA ak hb; clear hb hbox hg; refine hK.out _ _ trivial (fun al => nm_ ?_); clear hK K; refine on_ 13 none z (fun K hK => ?_)
   have ea : bJ.cell? ⟨bF, 0, none⟩ = some (.int .i64 0) := bc ax 0
   have dV := blk_frozen ax.out 0; obtain ⟨d6, d0⟩ := o2_ aP bC
   have eb : bJ.cell? ⟨bF, 1, none⟩ = some (.int .i64 0) := bc ax 1
   have dW := blk_frozen ax.out 1; obtain ⟨d7, d1⟩ := o2_ aP bC
   have ec : bJ.cell? ⟨bF, 2, none⟩ = some (.int .i64 0) := bc ax 2
   have dX := blk_frozen ax.out 2; obtain ⟨d8, d2⟩ := o2_ aP bC
   have ed : bJ.cell? ⟨bF, 3, none⟩ = some (.string (⟨#[]⟩ : ByteArray)) := bc ax 3
   have dY := blk_frozen ax.out 3; obtain ⟨d9, d3⟩ := o2_ aP bC; refine skip_ (w1 := ?_) (by rfl) rfl ?_ ?_; rotate_left
   ·go_simp; rfl
   refine hK.out _ _ trivial (fun al => ?_); clear hK K; refine done_ (done_of z.out gk_) ?_; obtain ⟨d4, d5⟩ := o2_ bC aP; obtain ⟨dG, dH, dI, dJ, dK, dL, dM, dN⟩ := cf4 ax; replace ap := ap.out
   obtain ⟨rfl, aA⟩ | ⟨rfl, aA⟩ := sb ap
   ·obtain ⟨rfl, rfl, rfl, rfl, rfl⟩ := s5 aA; clear aA ap
    try go_wp2_with (first | ((with_reducible refine gate_callee (f := 32) rfl ?_); refine gM (some 33) Try.func32 (spec_CellOk.calls (wrap64 (bt Y 0)) (wrap64 (bt Y 1)) (wrap64 (bt Y 2)) (Y.extract 3 Y.size) true _ cd.out) ?_; rintro dE hb; replace ak := am (blk_below (g := bp) (o := .cells #[.int .i64 0, .int .i64 0, .int .i64 0, .string (⟨#[]⟩ : ByteArray)] 40 (0, 0)) (Ap1 ak aP) hb); replace ax := am (blk_below (g := bF) (o := .cells #[.int .i64 (wrap64 (bt Y 0)), .int .i64 (wrap64 (bt Y 1)), .int .i64 (wrap64 (bt Y 2)), .string (Y.extract 3 Y.size)] 40 (0, 0)) (Ap0 ax) hb); replace HB := De2 HB aG bL hb; obtain ⟨dG, dH, dI, dJ, dK, dL, dM, dN⟩ := cf4 ax; obtain ⟨cP, cQ, cR, cS, cZ, da, db, dc⟩ := cf4 ak))
    refine bodyPost_ret (results_ct rfl _ _ bp 40 #[.int .i64 (wrap64 (bt Y 0)), .int .i64 (wrap64 (bt Y 1)), .int .i64 (wrap64 (bt Y 2)), .string (Y.extract 3 Y.size)] (0, 0) _ rfl (Ap0 ak) Try.underlying40 rfl gk_) rfl ?_; exact ⟨B1x4_, (Ae2 HB aG bL)⟩
   ·obtain ⟨rfl, rfl, rfl, rfl, rfl⟩ := s5 aA; clear aA ap
    try go_wp2_with (first | ((with_reducible refine gate_callee (f := 32) rfl ?_); refine gM (some 33) Try.func32 (spec_CellOk.calls (wrap64 (bt Y 0)) (wrap64 (bt Y 1)) (wrap64 (bt Y 2)) (Y.extract 3 Y.size) false _ cd.out) ?_; rintro eu hb; replace ak := am (blk_below (g := bp) (o := .cells #[.int .i64 0, .int .i64 0, .int .i64 0, .string (⟨#[]⟩ : ByteArray)] 40 (0, 0)) (Ap1 ak aP) hb); replace HB := De2 HB aG bL hb; obtain ⟨cP, cQ, cR, cS, cZ, da, db, dc⟩ := cf4 ak))
    refine bodyPost_ret (results_ct rfl _ _ bp 40 #[.int .i64 0, .int .i64 0, .int .i64 0, .string (⟨#[]⟩ : ByteArray)] (0, 0) _ rfl (Ap0 ak) Try.underlying40 rfl gk_) rfl ?_; exact ⟨B1x4_, (Ae2 HB aG bL)⟩

def spec_DgramOk.f (ae : Int) (ag : Int) (ai : Int) (ah : Int) (ao : Bool) (aj : ByteArray) : Option (Bool) := (spec_l01In.f ae 1 99).bind fun cD => (if cD = true then ((spec_l01In.f ag 1 99).bind fun cE => (if cE = true then ((spec_l01In.f ai 0 65535).bind fun cF => (if cF = true then ((spec_l01In.f ah 0 160).bind fun cG => (if cG = true then (if (Int.tmod ah 8) = 0 then ((spec_l01In.f (aj.size : Int) 1 (wrap64 (160 - ah))).bind fun cH => (if cH = true then (if ao = true then (some (((aj.size : Int) % 8) == 0)) else (some true)) else (some false))) else (some false)) else (some false))) else (some false))) else (some false))) else (some false))
theorem spec_DgramOk.calls (ae : Int) (ag : Int) (ai : Int) (ah : Int) (ao : Bool) (aj : ByteArray) (r : Bool) (w : World) (h : spec_DgramOk.f ae ag ai ah ao aj = some r) :
  Calls Try.prog 34 #[.agg #[.int .i64 ae, .int .i64 ag, .int .i64 ai, .int .i64 ah, .bool ao, .string aj]] w fun e w' => e = .returned (.bool r) ∧ Below w.heap.size w w' := by
 have ee := Try.underlying44
 have HB := am (Below.refl w.heap.size w)
 have D := h
 clear h
 unfold spec_DgramOk.f at D
 obtain ⟨cD, A2, B⟩ := bsi D
 (try dsimp only at B)
 obtain ⟨rfl, J⟩ | ⟨rfl, J⟩ := sb B
 ·obtain ⟨cE, A4, M⟩ := bsi J; (try dsimp only at M)
  obtain ⟨rfl, U⟩ | ⟨rfl, U⟩ := sb M
  ·obtain ⟨cF, A6, ac⟩ := bsi U; (try dsimp only at ac)
   obtain ⟨rfl, af⟩ | ⟨rfl, af⟩ := sb ac
   ·obtain ⟨cG, A8, ar⟩ := bsi af; (try dsimp only at ar)
    obtain ⟨rfl, aB⟩ | ⟨rfl, aB⟩ := sb ar
    ·obtain ⟨c10, ap⟩ | ⟨c10, ap⟩ := sp aB
     ·obtain ⟨cj, dm⟩ := yE c10; clear c10; obtain ⟨cH, bm, aA⟩ := bsi ap; (try dsimp only at aA)
      obtain ⟨rfl, bo⟩ | ⟨rfl, bo⟩ := sb aA
      ·obtain ⟨rfl, bB⟩ | ⟨rfl, bB⟩ := sb bo
       ·obtain rfl := Option.some.inj bB; clear bB D B J M U ac af ar aB ap aA bo; go_enter Try.func34, Try.ntmps34
        go_wp2_with (first | ((with_reducible refine gate_dst (N := 1) rfl ?_); (try (refine gate_guard (by rfl) ?_; dsimp only)); refine bx (N := 1) (cs := #[.int .i64 ae, .int .i64 ag, .int .i64 ai, .int .i64 ah, .bool true, .string aj]) (t := 44) ?_; intro aR hg dC hbox hb; have au := am hbox; have av := gA hg HB; replace HB := hA HB hb; clear hb hbox hg; obtain ⟨a6, a7, a8, a9, ba, bd, be, bh, bi, bj, bk, bl⟩ := cf6 au) | ((with_reducible refine gate_callee (f := 35) rfl ?_); refine gM (some 5) Try.func35 (spec_l01In.calls ae 1 99 true _ A2.out) ?_; rintro w' ⟨nd, rfl⟩) | (go_at_call 35; (with_reducible refine (spec_l01In.calls ag 1 99 true _ A4.out).mono ?_); rintro e w' ⟨rfl, ⟨nd, rfl⟩⟩) | (go_at_call 35; (with_reducible refine (spec_l01In.calls ai 0 65535 true _ A6.out).mono ?_); rintro e w' ⟨rfl, ⟨nd, rfl⟩⟩) | (go_at_call 35; (with_reducible refine (spec_l01In.calls ah 0 160 true _ A8.out).mono ?_); rintro e w' ⟨rfl, ⟨nd, rfl⟩⟩) | (go_at_call 35; (with_reducible refine (spec_l01In.calls (aj.size : Int) 1 (wrap64 (160 - ah)) true _ bm.out).mono ?_); rintro e w' ⟨rfl, ⟨nd, rfl⟩⟩))
        go_ret; exact ⟨B1x4_, (Ae1 HB av)⟩
       ·obtain rfl := Option.some.inj bB; clear bB D B J M U ac af ar aB ap aA bo; go_enter Try.func34, Try.ntmps34
        go_wp2_with (first | ((with_reducible refine gate_dst (N := 1) rfl ?_); (try (refine gate_guard (by rfl) ?_; dsimp only)); refine bx (N := 1) (cs := #[.int .i64 ae, .int .i64 ag, .int .i64 ai, .int .i64 ah, .bool false, .string aj]) (t := 44) ?_; intro aR hg dD hbox hb; have au := am hbox; have av := gA hg HB; replace HB := hA HB hb; clear hb hbox hg; obtain ⟨a6, a7, a8, a9, ba, bd, be, bh, bi, bj, bk, bl⟩ := cf6 au) | ((with_reducible refine gate_callee (f := 35) rfl ?_); refine gM (some 5) Try.func35 (spec_l01In.calls ae 1 99 true _ A2.out) ?_; rintro w' ⟨nd, rfl⟩) | (go_at_call 35; (with_reducible refine (spec_l01In.calls ag 1 99 true _ A4.out).mono ?_); rintro e w' ⟨rfl, ⟨nd, rfl⟩⟩) | (go_at_call 35; (with_reducible refine (spec_l01In.calls ai 0 65535 true _ A6.out).mono ?_); rintro e w' ⟨rfl, ⟨nd, rfl⟩⟩) | (go_at_call 35; (with_reducible refine (spec_l01In.calls ah 0 160 true _ A8.out).mono ?_); rintro e w' ⟨rfl, ⟨nd, rfl⟩⟩) | (go_at_call 35; (with_reducible refine (spec_l01In.calls (aj.size : Int) 1 (wrap64 (160 - ah)) true _ bm.out).mono ?_); rintro e w' ⟨rfl, ⟨nd, rfl⟩⟩))
        go_ret; exact ⟨B1x4_, (Ae1 HB av)⟩
      ·obtain rfl := Option.some.inj bo; clear bo D B J M U ac af ar aB ap aA; go_enter Try.func34, Try.ntmps34
       go_wp2_with (first | ((with_reducible refine gate_dst (N := 1) rfl ?_); (try (refine gate_guard (by rfl) ?_; dsimp only)); refine bx (N := 1) (cs := #[.int .i64 ae, .int .i64 ag, .int .i64 ai, .int .i64 ah, .bool ao, .string aj]) (t := 44) ?_; intro aR hg cI hbox hb; have au := am hbox; have av := gA hg HB; replace HB := hA HB hb; clear hb hbox hg; obtain ⟨a6, a7, a8, a9, ba, bd, be, bh, bi, bj, bk, bl⟩ := cf6 au) | ((with_reducible refine gate_callee (f := 35) rfl ?_); refine gM (some 5) Try.func35 (spec_l01In.calls ae 1 99 true _ A2.out) ?_; rintro w' ⟨nd, rfl⟩) | (go_at_call 35; (with_reducible refine (spec_l01In.calls ag 1 99 true _ A4.out).mono ?_); rintro e w' ⟨rfl, ⟨nd, rfl⟩⟩) | (go_at_call 35; (with_reducible refine (spec_l01In.calls ai 0 65535 true _ A6.out).mono ?_); rintro e w' ⟨rfl, ⟨nd, rfl⟩⟩) | (go_at_call 35; (with_reducible refine (spec_l01In.calls ah 0 160 true _ A8.out).mono ?_); rintro e w' ⟨rfl, ⟨nd, rfl⟩⟩) | (go_at_call 35; (with_reducible refine (spec_l01In.calls (aj.size : Int) 1 (wrap64 (160 - ah)) false _ bm.out).mono ?_); rintro e w' ⟨rfl, ⟨nd, rfl⟩⟩))
       go_ret; exact ⟨B1x4_, (Ae1 HB av)⟩
     ·obtain ⟨cj, dm⟩ := nE c10; obtain rfl := Option.some.inj ap; clear ap D B J M U ac af ar aB; go_enter Try.func34, Try.ntmps34
      go_wp2_with (first | ((with_reducible refine gate_dst (N := 1) rfl ?_); (try (refine gate_guard (by rfl) ?_; dsimp only)); refine bx (N := 1) (cs := #[.int .i64 ae, .int .i64 ag, .int .i64 ai, .int .i64 ah, .bool ao, .string aj]) (t := 44) ?_; intro aR hg ep hbox hb; have au := am hbox; have av := gA hg HB; replace HB := hA HB hb; clear hb hbox hg; obtain ⟨a6, a7, a8, a9, ba, bd, be, bh, bi, bj, bk, bl⟩ := cf6 au) | ((with_reducible refine gate_callee (f := 35) rfl ?_); refine gM (some 5) Try.func35 (spec_l01In.calls ae 1 99 true _ A2.out) ?_; rintro w' ⟨nd, rfl⟩) | (go_at_call 35; (with_reducible refine (spec_l01In.calls ag 1 99 true _ A4.out).mono ?_); rintro e w' ⟨rfl, ⟨nd, rfl⟩⟩) | (go_at_call 35; (with_reducible refine (spec_l01In.calls ai 0 65535 true _ A6.out).mono ?_); rintro e w' ⟨rfl, ⟨nd, rfl⟩⟩) | (go_at_call 35; (with_reducible refine (spec_l01In.calls ah 0 160 true _ A8.out).mono ?_); rintro e w' ⟨rfl, ⟨nd, rfl⟩⟩))
      go_ret; exact ⟨B1x4_, (Ae1 HB av)⟩
    ·obtain rfl := Option.some.inj aB; clear aB D B J M U ac af ar; go_enter Try.func34, Try.ntmps34
     go_wp2_with (first | ((with_reducible refine gate_dst (N := 1) rfl ?_); (try (refine gate_guard (by rfl) ?_; dsimp only)); refine bx (N := 1) (cs := #[.int .i64 ae, .int .i64 ag, .int .i64 ai, .int .i64 ah, .bool ao, .string aj]) (t := 44) ?_; intro aR hg eq hbox hb; have au := am hbox; have av := gA hg HB; replace HB := hA HB hb; clear hb hbox hg; obtain ⟨a6, a7, a8, a9, ba, bd, be, bh, bi, bj, bk, bl⟩ := cf6 au) | ((with_reducible refine gate_callee (f := 35) rfl ?_); refine gM (some 5) Try.func35 (spec_l01In.calls ae 1 99 true _ A2.out) ?_; rintro w' ⟨nd, rfl⟩) | (go_at_call 35; (with_reducible refine (spec_l01In.calls ag 1 99 true _ A4.out).mono ?_); rintro e w' ⟨rfl, ⟨nd, rfl⟩⟩) | (go_at_call 35; (with_reducible refine (spec_l01In.calls ai 0 65535 true _ A6.out).mono ?_); rintro e w' ⟨rfl, ⟨nd, rfl⟩⟩) | (go_at_call 35; (with_reducible refine (spec_l01In.calls ah 0 160 false _ A8.out).mono ?_); rintro e w' ⟨rfl, ⟨nd, rfl⟩⟩))
     go_ret; exact ⟨B1x4_, (Ae1 HB av)⟩
   ·obtain rfl := Option.some.inj af; clear af D B J M U ac; go_enter Try.func34, Try.ntmps34
    go_wp2_with (first | ((with_reducible refine gate_dst (N := 1) rfl ?_); (try (refine gate_guard (by rfl) ?_; dsimp only)); refine bx (N := 1) (cs := #[.int .i64 ae, .int .i64 ag, .int .i64 ai, .int .i64 ah, .bool ao, .string aj]) (t := 44) ?_; intro aR hg er hbox hb; have au := am hbox; have av := gA hg HB; replace HB := hA HB hb; clear hb hbox hg; obtain ⟨a6, a7, a8, a9, ba, bd, be, bh, bi, bj, bk, bl⟩ := cf6 au) | ((with_reducible refine gate_callee (f := 35) rfl ?_); refine gM (some 5) Try.func35 (spec_l01In.calls ae 1 99 true _ A2.out) ?_; rintro w' ⟨nd, rfl⟩) | (go_at_call 35; (with_reducible refine (spec_l01In.calls ag 1 99 true _ A4.out).mono ?_); rintro e w' ⟨rfl, ⟨nd, rfl⟩⟩) | (go_at_call 35; (with_reducible refine (spec_l01In.calls ai 0 65535 false _ A6.out).mono ?_); rintro e w' ⟨rfl, ⟨nd, rfl⟩⟩))
    go_ret; exact ⟨B1x4_, (Ae1 HB av)⟩
  ·obtain rfl := Option.some.inj U; clear U D B J M; go_enter Try.func34, Try.ntmps34
   go_wp2_with (first | ((with_reducible refine gate_dst (N := 1) rfl ?_); (try (refine gate_guard (by rfl) ?_; dsimp only)); refine bx (N := 1) (cs := #[.int .i64 ae, .int .i64 ag, .int .i64 ai, .int .i64 ah, .bool ao, .string aj]) (t := 44) ?_; intro aR hg dE hbox hb; have au := am hbox; have av := gA hg HB; replace HB := hA HB hb; clear hb hbox hg; obtain ⟨a6, a7, a8, a9, ba, bd, be, bh, bi, bj, bk, bl⟩ := cf6 au) | ((with_reducible refine gate_callee (f := 35) rfl ?_); refine gM (some 5) Try.func35 (spec_l01In.calls ae 1 99 true _ A2.out) ?_; rintro w' ⟨nd, rfl⟩) | (go_at_call 35; refine (spec_l01In.calls ag 1 99 false _ A4.out).mono ?_; rintro e w' ⟨rfl, ⟨nd, rfl⟩⟩))
   go_ret; exact ⟨B1x4_, (Ae1 HB av)⟩
 ·obtain rfl := Option.some.inj J; clear J D B; go_enter Try.func34, Try.ntmps34
  go_wp2_with (first | ((with_reducible refine gate_dst (N := 1) rfl ?_); (try (refine gate_guard (by rfl) ?_; dsimp only)); refine bx (N := 1) (cs := #[.int .i64 ae, .int .i64 ag, .int .i64 ai, .int .i64 ah, .bool ao, .string aj]) (t := 44) ?_; intro aR hg et hbox hb; have au := am hbox; have av := gA hg HB; replace HB := hA HB hb; clear hb hbox hg; obtain ⟨a6, a7, a8, a9, ba, bd, be, bh, bi, bj, bk, bl⟩ := cf6 au) | ((with_reducible refine gate_callee (f := 35) rfl ?_); refine gM (some 5) Try.func35 (spec_l01In.calls ae 1 99 false _ A2.out) ?_; rintro w' ⟨nd, rfl⟩))
  go_ret; exact ⟨B1x4_, (Ae1 HB av)⟩

def spec_l11Two.f (q : Int) : Option (ByteArray) := some (strOfNums (([(wrap64 (Int.tdiv q 256)) % 256, (Int.tmod q 256) % 256] : List Int)))
theorem spec_l11Two.calls (q : Int) (r : ByteArray) (w : World) (h : spec_l11Two.f q = some r) :
  Calls Try.prog 61 #[.int .i64 q] w fun e w' => e = .returned (.string r) ∧ Below w.heap.size w w' := by
 have HB := am (Below.refl w.heap.size w)
 have D := h
 clear h
 unfold spec_l11Two.f at D
 obtain ⟨ew, bH⟩ : ∃ y_ : List Int, y_ = (([(wrap64 (Int.tdiv q 256)) % 256, (Int.tmod q 256) % 256] : List Int)) := ⟨_, rfl⟩
 (first | with_reducible replace D := hq bH D | rw [← bH] at D | simp only [← bH] at D)
 have ci := am bH
 clear bH
 obtain rfl := Option.some.inj D
 clear D
 go_enter Try.func61, Try.ntmps61
 go_wp2_with (first | ((with_reducible refine gate_dst (N := 9) rfl ?_); refine lL (Kd.int .u8) 5 9 ([(wrap64 (Int.tdiv q 256)) % 256, (Int.tmod q 256) % 256] : List Int) [.int .u8 ((wrap64 (Int.tdiv q 256)) % 256), .int .u8 ((Int.tmod q 256) % 256)] (Reps.one (show Kd.M (Kd.int .u8) _ _ _ ((wrap64 (Int.tdiv q 256)) % 256) [.int .u8 ((wrap64 (Int.tdiv q 256)) % 256)] from rfl) (Reps.one (show Kd.M (Kd.int .u8) _ _ _ ((Int.tmod q 256) % 256) [.int .u8 ((Int.tmod q 256) % 256)] from rfl) (Reps.none _ _))) ?_; intro ek w2 aC hb; (first | rw [← ci.out] at aC | (simp only [Int.reduceToNat] at aC; rw [← ci.out] at aC)); have dh := am (Kd.R_lower aC (below_size (Ae0 HB))); replace HB := hA HB hb; clear hb aC; have dr := own_string (P := Try.prog) Try.underlying90 Try.underlying5 Try.underlying9 (Kd.own_of_R dh.out)))
 go_ret
 exact ⟨B1x4_, (Ae0 HB)⟩
end
end Go.Proofs.Ytjaamflffmhicaa.QFnExactUnwrap
