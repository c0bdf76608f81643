/- The law 'FnSnapsCut' of the given program answers true at every input, and each argument reads behind the call as it read before it. No condition. -/
import Derived.Test.YtofmbomonkbeaaaGreatDoorRows
import Derived.Test.YtofmbomonkbeaaaGreatDoorCards
import Derived.Test.YtofmbomonkbeaaaGreatDoorTie
import Derived.SevenTiedAt
import Derived.Test.YtofmbomonkbeaaaGreatDoorStFnSnapsCut
import Derived.Test.YtofmbomonkbeaaaGreatDoorPureFnSnapsCut
import Derived.WalkKit
import Derived.ProofKit
import Derived.OpenShut
import Derived.ShutString
import Derived.ChangeOld
import Derived.Below
import Derived.Carry
import Derived.SizedLaws
import Derived.LaidMore
import Derived.Lay
import Derived.Stop.Joined
import Derived.Stop.LaidErr
import Derived.Test.YtofmbomonkbeaaaGreatDoorLaid
namespace Go.Proofs.YtofmbomonkbeaaaGreatDoor.fnSnapsCut
open Go.ChangeShapes Go.WideShapes Go.ChangeAt Go.RowKit Go.Proofs.YtofmbomonkbeaaaGreatDoor.Opens Go.Proofs.YtofmbomonkbeaaaGreatDoor.StFnSnapsCut Go.Proofs.YtofmbomonkbeaaaGreatDoorW.PrintWords
open Go.ChangeMaps (open_string shut_string)
set_option linter.unusedVariables false
set_option linter.unusedSimpArgs false
theorem own:ownKnob Tryz.prog.godebug=none:=by kernel_rfl
theorem laidOut:laidOutB Tryz.prog=true:=by kernel_rfl
theorem ev_of_laid {nm : String} {d : DataW Unit} {r : List (String × DataW Unit)} {W : World} (h : laidMet Tryz.prog (("strconv.ErrSyntax", .iface nm d) :: r) W) : Laid.EV W := by
  obtain⟨ps,⟨g0,t0,cs0,f0,p0,q0,hg0,ht0,hv0,hd0,_,e0⟩,_,hrows⟩:=h
  obtain rfl := Option.some.inj ((show Tryz.prog.globalNamed "strconv.ErrSyntax" = some 0 by kernel_rfl).symm.trans hg0)
  obtain rfl:=Option.some.inj ((show (Tryz.prog.globals[0]?).map (·.type)=some 131 by kernel_rfl).symm.trans ht0)
  subst e0
  obtain⟨l0⟩:=cs0
  obtain⟨f1,u,v,rfl,_,_⟩:=iface_of_trod Tryz.underlying131 hd0
  exact⟨u,v,by have h0:=World.var?_cell hg0 hv0 0;simpa using h0⟩
set_option maxRecDepth 100000 in
theorem lifted (os:Os) (started:os.Started) (H:Type) (enc:TypeId × Value→H) :
    ReturnsInHanded {} Tryz.checked os 3 .any (fun w args=>(Rows.fnSnapsCutSpec.pre enc Tryz.prog Tryz.f3 Rows.fnSnapsCutRow.domain false w args∧laidMetH Tryz.prog Rows.fnSnapsCutRow.laid w)∧sizedMet enc Tryz.prog Tryz.f3 (OpenSpec.ofChange Rows.fnSnapsCutSpec) false w args) (Rows.fnSnapsCutSpec.post enc Tryz.prog Tryz.f3 false true false false):=by
  refine returnsInHanded_of_change_and (C:=Tryz.checked) (X:=fun w _=>laidMetH Tryz.prog Rows.fnSnapsCutRow.laid w) (fun _ _ _ hh h=>h.of_heap hh) own started (by kernel_rfl) Tryz.func3
    (ChangeSpec.witness_shaped (enc:=enc) (C:=Tryz.checked) (os:=os) (X:=fun w _=>laidMetH Tryz.prog Rows.fnSnapsCutRow.laid w) false (World.laidAll Tryz.prog os Rows.fnSnapsCutRow.laid) #[.slice none 0 0] 8 (World.laidAll_os _ _ _)
      (World.shaped_of_ZipB (by kernel_rfl) (by kernel_rfl)) (by kernel_rfl) (by kernel_rfl) (by kernel_rfl)
      (by rw [MakeChecks.laidMetH_plain _ _ _ (by kernel_rfl)];exact laidMet_laidAll _ (by kernel_rfl) (by kernel_rfl))) ?_
  intro W base args ds gs before hval0 hW hcnd hsz0 hL _
  have hsz:(DataW.weightsEach Tryz.prog (Tryz.f3.params.toList ++ Rows.fnSnapsCutSpec.plain.varTypes Tryz.prog) (ds ++ gs)).all (·≤reachBytes)=true:=hsz0
  have hval:∀ (j:Nat) t v,Tryz.f3.params[j]?=some t→args[j]?=some v→Value.okWide Tryz.prog W .any base t v:=hval0
  have hW':=hW
  obtain⟨p,q,hA0,hV,rfl,hfz,hnd⟩:=hW
  have hA:DataW.TrodAll enc Tryz.prog W 0 (fun _=>true) true Tryz.f3.params.toList args.toList ds p:=hA0
  rw [Tryz.params3] at hA hval hsz
  obtain⟨v0,vs0,d0,ds0,p0,q0,hargs,rfl,rfl,h0,r0⟩:=trodAll_cons hA
  obtain⟨rfl,rfl,rfl⟩:=trodAll_nil r0
  obtain rfl:args=#[v0]:=by cases args;simp_all
  obtain⟨rfl,rfl⟩:=trodVars_none hV
  have k0:=h0
  have lt0:∀ x∈p0,x.block<W.heap.size:=by obtain⟨m,hm⟩:=k0;exact DataW.trod_lt m _ _ _ hm
  obtain⟨l0,K0,f0⟩:=opens_arg (opens_slice 5 Tryz.underlying22 (by kernel_rfl) (opens_int (k:=.u8) Tryz.underlying5 (by kernel_rfl)) (B:=1) (by kernel_rfl)) h0 hsz (j:=0) rfl rfl
  obtain⟨A0,n0,c0,rfl⟩:=okWide_slice Tryz.underlying22 (hval 0 22 v0 rfl rfl)
  obtain⟨A0',c0',e0,hc0,hC0⟩:=K0
  obtain⟨rfl,rfl,rfl⟩:A0=A0'∧n0=l0.length∧c0=c0':=by simpa [Value.cells] using e0
  have hM:laidMet Tryz.prog Rows.fnSnapsCutRow.laid W:=by rw [MakeChecks.laidMetH_plain _ _ _ (by kernel_rfl)] at hL;exact hL
  have hEV:Laid.EV W:=ev_of_laid hM.tail.tail.tail.tail
  clear hA0 hval0 hsz0 hsz
  obtain⟨k,hk⟩:=Pure.FnSnapsCut l0 f0
  refine(QFnSnapsCut.laws_FnSnapsCut.calls k _ _ l0 true _ hC0 hc0 hk ⟨rfl⟩ hEV).mono fun e W' ⟨he,bel0⟩=>?_
  have bel:Below W.heap.size W W':=bel0
  subst he
  exact⟨_,rfl,_,_,_,[],_,[],hW',trodAll_mk1 (shut_bool Tryz.underlying4 _),(trodAll_cons_mk (Below.trod laidOut (by kernel_rfl) (of_decide_eq_true (by kernel_rfl)) k0 bel lt0) trodAll_mk0),rfl,bel.frame _,fun h=>by cases h⟩
theorem over:Rows.fnSnapsCutRow.holds Tryz.pinned (OpenSpec.ofChange Rows.fnSnapsCutSpec):=
  OpenClaim.holds_of_wide 3 Tryz.f3 rfl rfl rfl rfl rfl rfl rfl ⟨rfl,rfl,rfl,rfl,rfl⟩ rfl rfl rfl rfl rfl (by kernel_rfl) Tryz.func3 (by kernel_rfl)
    (of_decide_eq_true (by kernel_rfl)) (by unfold Func.isWrapper;first|(rw [if_pos (by decide +kernel)];kernel_rfl)|(rw [if_neg (by decide +kernel)];exact⟨rfl,rfl⟩))
    (fun os started H enc _=>lifted os started H enc)
theorem proved:Rows.FnSnapsCutCardSaid:=
  Claim7.holds_tied_plain_at .later [] [.data, .data, .data, .sentinel, .sentinel] true (true, "6d2e9a489bc5802ea4caf7b21ffa1c5155adf1484ca86ec824f6a139872952bc") true over (fun _ h => by cases h) (by kernel_rfl) (fun _ h => by cases h) fnSnapsCut_row_tie rfl ⟨rfl, rfl⟩ (by kernel_rfl) rfl
    (fun f fn hf hfn=>by
      obtain rfl : f = 3 := Option.some.inj ((show Tryz.prog.funcNamed "loop.example/g00232/laws.FnSnapsCut" = some 3 by kernel_rfl).symm.trans hf) |>.symm
      obtain rfl:fn=Tryz.f3:=(Option.some.inj (Tryz.func3.symm.trans hfn)).symm
      exact⟨by kernel_rfl,fun j t ht=>by
        rw [Tryz.params3] at ht
        have hm:t∈[22]:=by simpa using Array.mem_of_getElem? ht
        have hall:([22].all fun u=>!Tryz.prog.wantsStandIn u)=true:=by kernel_rfl
        exact(show Tryz.prog.wantsStandIn t=false by simpa using List.all_eq_true.1 hall t hm)⟩)
    (by kernel_rfl)
#print axioms proved
end Go.Proofs.YtofmbomonkbeaaaGreatDoor.fnSnapsCut
namespace Go.Proofs.YtofmbomonkbeaaaGreatDoor
/-- The card, under a short name, for the claim. -/
theorem fnSnapsCut_holds:Rows.FnSnapsCutCardSaid:=fnSnapsCut.proved
end Go.Proofs.YtofmbomonkbeaaaGreatDoor
