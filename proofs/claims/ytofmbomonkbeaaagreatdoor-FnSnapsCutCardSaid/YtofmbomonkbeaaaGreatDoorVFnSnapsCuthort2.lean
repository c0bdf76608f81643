/- More short forms of the words of the walks. No condition. -/
import Derived.Test.YtofmbomonkbeaaaGreatDoorVFnSnapsCutMore
import Derived.WalkKit
import Derived.RowKit
namespace Go.Proofs.YtofmbomonkbeaaaGreatDoor.Short
open Go.RowKit Go.Proofs.YtofmbomonkbeaaaGreatDoorW.PrintWords Go.Proofs.YtofmbomonkbeaaaGreatDoorW.PrintLast Go.Proofs.YtofmbomonkbeaaaGreatDoorW.PrintMore
theorem nil_b (l:List UInt8):(l != ([]:List UInt8))=!l.isEmpty:=by cases l <;> rfl
theorem nil_e (l:List UInt8):(l == ([]:List UInt8))=l.isEmpty:=by cases l <;> rfl
theorem be_ {p:Prop} (h:p:=by first|rfl|(simp;done)|(simp [*];done)|(simp [Go.Proofs.YtofmbomonkbeaaaGreatDoor.Short.nil_b,Go.Proofs.YtofmbomonkbeaaaGreatDoor.Short.nil_e];done)|(simp [Go.Proofs.YtofmbomonkbeaaaGreatDoor.Short.nil_b,Go.Proofs.YtofmbomonkbeaaaGreatDoor.Short.nil_e, *];done)):p:=h
end Go.Proofs.YtofmbomonkbeaaaGreatDoor.Short
