/- More short forms of the words of the walks. No condition. -/
import Derived.Test.YtfikaimmclgajaaGreatDoorVFnSnapsMore
import Derived.WalkKit
import Derived.RowKit
namespace Go.Proofs.YtfikaimmclgajaaGreatDoor.Short
open Go.RowKit Go.Proofs.YtfikaimmclgajaaGreatDoorW.PrintWords Go.Proofs.YtfikaimmclgajaaGreatDoorW.PrintLast Go.Proofs.YtfikaimmclgajaaGreatDoorW.PrintMore
/-- A bool that a walk has come to is the bool that stands there. -/
theorem nil_b (l : List UInt8) : (l != ([] : List UInt8)) = !l.isEmpty := by cases l <;> rfl
theorem nil_e (l : List UInt8) : (l == ([] : List UInt8)) = l.isEmpty := by cases l <;> rfl
theorem be_ {p : Prop} (h : p := by first | rfl | (simp; done) | (simp [*]; done) | (simp [Go.Proofs.YtfikaimmclgajaaGreatDoor.Short.nil_b, Go.Proofs.YtfikaimmclgajaaGreatDoor.Short.nil_e]; done) | (simp [Go.Proofs.YtfikaimmclgajaaGreatDoor.Short.nil_b, Go.Proofs.YtfikaimmclgajaaGreatDoor.Short.nil_e, *]; done)) : p := h
/-- A queue whose elements lead to nothing: told by another 'ok'. -/
theorem Q_reok {α : Type} {d : Kd α} {e base : Nat} {ok1 ok : Nat → Prop} {W : World} {v : Value} {xs : List α} (hE : d.E = []) (h : d.Q e W base ok1 v xs) (hok : ∀ k, v.ownBlock = some k → ok k) : d.Q e W base ok v xs :=
  Kd.Q_mono (Kd.Q_tight hE h) (fun k hk => hok k hk.symm)
end Go.Proofs.YtfikaimmclgajaaGreatDoor.Short
