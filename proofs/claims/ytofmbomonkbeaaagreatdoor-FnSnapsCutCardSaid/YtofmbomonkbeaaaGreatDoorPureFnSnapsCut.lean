/- The pure statement of the law 'FnSnapsCut', proved: over numbers, lists and texts alone. No condition. -/
import Derived.Test.YtofmbomonkbeaaaGreatDoorStFnSnapsCut
import Derived.Laws.BitsLemmas
namespace Go.Proofs.YtofmbomonkbeaaaGreatDoor.Pure
open Go.RowKit Go.Proofs.YtofmbomonkbeaaaGreatDoor.QFnSnapsCut Go.Proofs.YtofmbomonkbeaaaGreatDoorW.PrintWords Go.Proofs.YtofmbomonkbeaaaGreatDoorW.PrintLast Go.Proofs.YtofmbomonkbeaaaGreatDoorW.PrintMore Go.Proofs.YtofmbomonkbeaaaGreatDoor.StFnSnapsCut Go.Proofs.YtofmbomonkbeaaaGreatDoor.Opens
set_option linter.unusedVariables false
set_option linter.unusedSimpArgs false

/-! ### base -/
theorem w64 {x:Int} (h0 : -9223372036854775808≤x) (h1:x≤9223372036854775807):wrap64 x=x:=by unfold wrap64;omega
theorem fX_ (x:Int) (i:Nat) (hi:i≤62):Go.bits .and .i64 x (2 ^ i - 1)=x % 2 ^ i:=by
  have hpos:0<2 ^ i:=Nat.two_pow_pos i
  have hc:((2:Int) ^ i - 1)=((2 ^ i - 1:Nat):Int):=by rw [Int.natCast_sub hpos];simp
  have h62:2 ^ i≤2 ^ 62:=Nat.pow_le_pow_right (by decide) hi
  have hlt:2 ^ i - 1<2 ^ 64:=by omega
  have hd:(2 ^ i:Nat) ∣ 2 ^ 64:=Nat.pow_dvd_pow 2 (by omega)
  rw [hc]
  simp only [Go.bits,BitVec.ofInt_natCast,BitVec.toNat_and,BitVec.toNat_ofNat,BitVec.toNat_ofInt]
  simp only [show IntKind.i64.bits=64 from rfl]
  rw [Nat.mod_eq_of_lt hlt,Nat.and_two_pow_sub_one_eq_mod]
  have h1:(((x % ((2 ^ 64:Nat):Int)).toNat % 2 ^ i:Nat):Int)=x % 2 ^ i:=by
    rw [Int.natCast_emod,Int.toNat_of_nonneg (Int.emod_nonneg _ (by decide))]
    rw [Int.natCast_pow]
    exact Int.emod_emod_of_dvd _ (by
      have:(((2 ^ i:Nat):Int)) ∣ ((2 ^ 64:Nat):Int):=Int.natCast_dvd_natCast.2 hd
      simpa using this)
  rw [h1]
  have h2:0≤x % 2 ^ i:=Int.emod_nonneg _ (by
    have:(0:Int)<2 ^ i:=by exact_mod_cast hpos
    omega)
  have h3:x % 2 ^ i<2 ^ i:=Int.emod_lt_of_pos _ (by exact_mod_cast hpos)
  have h4:(2:Int) ^ i≤2 ^ 62:=by exact_mod_cast h62
  rw [IntKind.wrap_i64]
  omega
theorem en_ (x:Int):Go.bits .and .i64 x 255=x % 256:=fX_ x 8 (by omega)
theorem Ev.ex {α:Type} {g:Nat→Option α} {r:α} (h:Ev g r):∃ k,g k=some r:=h.rounds
theorem aL_ {s t:ByteArray} (h:bytesOf s=bytesOf t):s=t:=by
  unfold bytesOf at h
  have h2:s.data.toList=t.data.toList:=by
    apply List.ext_getElem?
    intro i
    have h3:=congrArg (fun l=>l[i]?) h
    simp only [List.getElem?_map] at h3
    cases h4:s.data.toList[i]? <;> cases h5:t.data.toList[i]? <;> rw [h4,h5] at h3 <;> simp at h3 ⊢
    exact UInt8.toNat_inj.1 (by omega)
  exact ByteArray.ext (by rw [←Array.toArray_toList (xs:=s.data),h2])
theorem aE_ (s t:ByteArray):bytesOf (s ++ t)=bytesOf s ++ bytesOf t:=by
  unfold bytesOf
  rw [ByteArray.toList_data_append,List.map_append]
theorem aW_ (s:ByteArray) (a b:Nat):bytesOf (s.extract a b)=((bytesOf s).drop a).take (b - a):=by
  unfold bytesOf
  rw [ByteArray.data_extract,Array.toList_extract,←List.map_drop,←List.map_take] <;> simp [List.extract_eq_drop_take]
theorem fd_ {s:ByteArray}:∀ x∈bytesOf s,0≤x∧x≤255:=by
  intro x hx
  obtain⟨b,_,rfl⟩:=List.mem_map.1 hx
  have:=b.toNat_lt
  omega
theorem cW_ {l:List Int} (h:∀ x∈l,0≤x∧x≤255):bytesOf (strOfNums l)=l:=by
  unfold bytesOf
  rw [strOfNums_data,List.map_map]
  have:∀ x∈l,((fun b:UInt8=>(b.toNat:Int)) ∘ fun n:Int=>UInt8.ofNat n.toNat) x=x:=by
    intro x hx
    have:=h x hx
    simp only [Function.comp,UInt8.toNat_ofNat']
    omega
  rw [List.map_congr_left this,List.map_id']
theorem dH_:bytesOf (⟨#[]⟩:ByteArray)=[]:=rfl
theorem cl_ (s:ByteArray) (i:Int):bt s i=rd (bytesOf s) i:=(rd_bytesOf s i).symm
theorem ag_ {s t:ByteArray}:s.toList=t.toList↔s=t:=by
  rw [ByteArray.toList_eq,ByteArray.toList_eq]
  constructor
  · intro h;exact ByteArray.ext (by rw [←Array.toArray_toList (xs:=s.data),h])
  · intro h;rw [h]
theorem bw_ {s:ByteArray}:s.toList=([]:List UInt8)↔bytesOf s=[]:=by
  rw [ByteArray.toList_eq]
  unfold bytesOf
  simp

/-! ### sum -/
def df_ (x:Int):Int:=if Int.tmod x 2=1 then Go.bits .xor .u32 ((Int.tdiv x 2) % 4294967296) 3558460437 else (Int.tdiv x 2) % 4294967296
def gS_ (x:Int):Int:=df_ (df_ (df_ (df_ (df_ (df_ (df_ (df_ x)))))))
def dN_ (s:Int) (l:List Int):Int:=l.foldl (fun s b=>gS_ (Go.bits .xor .u32 s (b % 4294967296))) s
theorem ge_ (a b:Int):0≤Go.bits .xor .u32 a b∧Go.bits .xor .u32 a b<4294967296:=by
  simp only [Go.bits]
  rw [IntKind.wrap_u32]
  omega
theorem ed_ (x:Int):0≤df_ x∧df_ x<4294967296:=by
  unfold df_
  split
  · exact ge_ _ _
  · omega
theorem dS_ (s:Int) (h:0≤s∧s<4294967296) (l:List Int):0≤dN_ s l∧dN_ s l<4294967296:=by
  unfold dN_
  induction l generalizing s with
  |nil=>exact h
  |cons b l ih=>exact ih _ (ed_ _)
theorem eK_ (s:ByteArray) (i:Int) {r:Int} (x:Int) (h:Ev (fun k=>spec_SumMore.l0 k (gS_ x) s (wrap64 (i+1))) r):Ev (fun k=>spec_SumMore.l1 k x s i 0) r:=by
  have step:∀ (j:Int) (x:Int),0≤j→j<8→Ev (fun k=>spec_SumMore.l1 k (df_ x) s i (j+1)) r→Ev (fun k=>spec_SumMore.l1 k x s i j) r:=by
    intro j x h0 h1 h
    refine Ev.step (fun k=>?_) h
    simp only [spec_SumMore.l1]
    rw [if_pos h1,w64 (x:=j+1) (by omega) (by omega)]
    unfold df_
    split <;> rfl
  refine step 0 _ (by omega) (by omega) (step 1 _ (by omega) (by omega) (step 2 _ (by omega) (by omega) (step 3 _ (by omega) (by omega) (step 4 _ (by omega) (by omega) (step 5 _ (by omega) (by omega) (step 6 _ (by omega) (by omega) (step 7 _ (by omega) (by omega) ?_)))))))
  refine Ev.step (fun k=>?_) h
  simp only [spec_SumMore.l1]
  rw [if_neg (by omega)]
  rfl
theorem cx_ (s:ByteArray) (hs:s.size≤9000000000000000000):∀ (d j:Nat) (x:Int),s.size - j=d→j≤s.size→Ev (fun k=>spec_SumMore.l0 k x s (j:Int)) (dN_ x ((bytesOf s).drop j)):=by
  have hl:=bytesOf_length s
  intro d
  induction d with
  |zero=>
    intro j x hd hj
    rw [List.drop_of_length_le (by omega)]
    refine Ev.step (f:=fun _=>some x) (fun k=>?_) (Ev.now _)
    simp only [spec_SumMore.l0]
    rw [if_neg (by omega)]
  |succ d ih=>
    intro j x hd hj
    have hjl:j<(bytesOf s).length:=by omega
    rw [List.drop_eq_getElem_cons hjl]
    have hb:bt s (j:Int)=(bytesOf s)[j]:=by rw [cl_];unfold rd;rw [List.getD_eq_getElem?_getD,Int.toNat_natCast,List.getElem?_eq_getElem hjl];rfl
    refine Ev.step (f:=fun k=>spec_SumMore.l1 k (Go.bits .xor .u32 x ((bytesOf s)[j] % 4294967296)) s (j:Int) 0) (fun k=>?_) ?_
    · simp only [spec_SumMore.l0]
      rw [if_pos (by omega),if_pos (by omega),hb]
    · refine eK_ s _ _ ?_
      rw [w64 (x:=(j:Int)+1) (by omega) (by omega)]
      exact ih (j+1) _ (by omega) (by omega)
theorem bM_ (x:Int) (s:ByteArray) (hs:s.size≤9000000000000000000):Ev (fun k=>spec_SumMore.f k x s) (dN_ x (bytesOf s)):=cx_ s hs s.size 0 x (by omega) (by omega)
theorem bm_ (s:ByteArray) (hs:s.size≤9000000000000000000):Ev (fun k=>spec_SumOf.f k s) (dN_ 4294967295 (bytesOf s)):=Ev.bind (bM_ _ s hs) (Ev.now _)
theorem eG_ (s:ByteArray) (i:Int) {r:Int} (x:Int) (h:Ev (fun k=>impl_SumMore.l0 k (gS_ x) s (wrap64 (i+1))) r):Ev (fun k=>impl_SumMore.l1 k x s i 0) r:=by
  have step:∀ (j:Int) (x:Int),0≤j→j<8→Ev (fun k=>impl_SumMore.l1 k (df_ x) s i (j+1)) r→Ev (fun k=>impl_SumMore.l1 k x s i j) r:=by
    intro j x h0 h1 h
    refine Ev.step (fun k=>?_) h
    simp only [impl_SumMore.l1]
    rw [if_pos h1,w64 (x:=j+1) (by omega) (by omega)]
    unfold df_
    split <;> rfl
  refine step 0 _ (by omega) (by omega) (step 1 _ (by omega) (by omega) (step 2 _ (by omega) (by omega) (step 3 _ (by omega) (by omega) (step 4 _ (by omega) (by omega) (step 5 _ (by omega) (by omega) (step 6 _ (by omega) (by omega) (step 7 _ (by omega) (by omega) ?_)))))))
  refine Ev.step (fun k=>?_) h
  simp only [impl_SumMore.l1]
  rw [if_neg (by omega)]
  rfl
theorem ck_ (s:ByteArray) (hs:s.size≤9000000000000000000):∀ (d j:Nat) (x:Int),s.size - j=d→j≤s.size→Ev (fun k=>impl_SumMore.l0 k x s (j:Int)) (dN_ x ((bytesOf s).drop j)):=by
  have hl:=bytesOf_length s
  intro d
  induction d with
  |zero=>
    intro j x hd hj
    rw [List.drop_of_length_le (by omega)]
    refine Ev.step (f:=fun _=>some x) (fun k=>?_) (Ev.now _)
    simp only [impl_SumMore.l0]
    rw [if_neg (by omega)]
  |succ d ih=>
    intro j x hd hj
    have hjl:j<(bytesOf s).length:=by omega
    rw [List.drop_eq_getElem_cons hjl]
    have hb:bt s (j:Int)=(bytesOf s)[j]:=by rw [cl_];unfold rd;rw [List.getD_eq_getElem?_getD,Int.toNat_natCast,List.getElem?_eq_getElem hjl];rfl
    refine Ev.step (f:=fun k=>impl_SumMore.l1 k (Go.bits .xor .u32 x ((bytesOf s)[j] % 4294967296)) s (j:Int) 0) (fun k=>?_) ?_
    · simp only [impl_SumMore.l0]
      rw [if_pos (by omega),if_pos (by omega),hb]
    · refine eG_ s _ _ ?_
      rw [w64 (x:=(j:Int)+1) (by omega) (by omega)]
      exact ih (j+1) _ (by omega) (by omega)
theorem bJ_ (x:Int) (s:ByteArray) (hs:s.size≤9000000000000000000):Ev (fun k=>impl_SumMore.f k x s) (dN_ x (bytesOf s)):=ck_ s hs s.size 0 x (by omega) (by omega)
theorem cq_ (s:ByteArray) (hs:s.size≤9000000000000000000):Ev (fun k=>impl_SumOf.f k s) (dN_ 4294967295 (bytesOf s)):=Ev.bind (bJ_ _ s hs) (Ev.now _)

/-! ### sealed -/
def fM_ (x:Int):ByteArray:=strOfNums [x / 16777216 % 256,x / 65536 % 256,x / 256 % 256,x % 256]
def cM_ (s:ByteArray):ByteArray:=fM_ (dN_ 4294967295 (bytesOf s))
theorem bU_ (x:Int):(fM_ x).size=4:=by unfold fM_;rw [strOfNums_size];rfl
theorem cF_ (s:ByteArray):(cM_ s).size=4:=bU_ _
theorem cE_ (x:Int):∀ k,5<k→impl_highFirst.f k x 4=some (fM_ x):=by
  intro k hk
  obtain⟨k,rfl⟩:∃ m,k=m+5:=⟨k - 5,by omega⟩
  unfold impl_highFirst.f
  rw [if_pos (by omega),if_pos (by decide),w64 (by omega) (by omega)]
  have h3:List.replicate (4:Int).toNat (0:Int)=[0,0,0,0]:=rfl
  rw [h3]
  simp only [impl_highFirst.l0,en_]
  rw [if_pos (by omega),if_pos (by omega),if_pos (by simp),w64 (x:=(4 - 1:Int) - 1) (by omega) (by omega)]
  rw [if_pos (by omega),if_pos (by omega),if_pos (by simp),w64 (x:=(4 - 1:Int) - 1 - 1) (by omega) (by omega)]
  rw [if_pos (by omega),if_pos (by omega),if_pos (by simp),w64 (x:=(4 - 1:Int) - 1 - 1 - 1) (by omega) (by omega)]
  rw [if_pos (by omega),if_pos (by omega),if_pos (by simp),w64 (x:=(4 - 1:Int) - 1 - 1 - 1 - 1) (by omega) (by omega)]
  rw [if_neg (by omega)]
  have e:((([(0:Int),0,0,0].set ((4 - 1:Int)).toNat (x % 256 % 256)).set ((4 - 1:Int) - 1).toNat (x / 256 % 256 % 256)).set ((4 - 1:Int) - 1 - 1).toNat (x / 256 / 256 % 256 % 256)).set ((4 - 1:Int) - 1 - 1 - 1).toNat (x / 256 / 256 / 256 % 256 % 256)=[x / 256 / 256 / 256 % 256 % 256,x / 256 / 256 % 256 % 256,x / 256 % 256 % 256,x % 256 % 256]:=rfl
  rw [e]
  unfold fM_
  congr 2
  have h1:x / 256 / 256 / 256 % 256 % 256=x / 16777216 % 256:=by omega
  have h2:x / 256 / 256 % 256 % 256=x / 65536 % 256:=by omega
  have h4:x / 256 % 256 % 256=x / 256 % 256:=by omega
  have h5:x % 256 % 256=x % 256:=by omega
  rw [h1,h2,h4,h5]
theorem ce_ (x:Int):spec_l02Four.f x=some (fM_ x):=rfl
theorem aX_ (s:ByteArray):∃ K,∀ k,K≤k→impl_Sealed.f k s=some (if s.size≤20000 then (s ++ cM_ s,true) else ((⟨#[]⟩:ByteArray),false)):=by
  by_cases h:s.size≤20000
  · obtain⟨K,hK⟩:=cq_ s (by omega)
    refine⟨K+6,fun k hk=>?_⟩
    have hr:=dS_ 4294967295 (by omega) (bytesOf s)
    have hK':impl_SumOf.f k s=some (dN_ 4294967295 (bytesOf s)):=hK k (by omega)
    unfold impl_Sealed.f
    rw [if_neg (by omega),hK']
    simp only [Option.bind_some]
    rw [w64 (by omega) (by omega),cE_ _ k (by omega)]
    simp only [Option.bind_some]
    rw [if_pos (by rw [bU_];omega),if_pos h]
    rfl
  · refine⟨0,fun k _=>?_⟩
    unfold impl_Sealed.f
    rw [if_pos (by omega),if_neg h]
theorem aV_ (s:ByteArray):∃ K,∀ k,K≤k→spec_Sealed.f k s=some (if s.size≤20000 then (s ++ cM_ s,true) else ((⟨#[]⟩:ByteArray),false)):=by
  by_cases h:s.size≤20000
  · obtain⟨K,hK⟩:=bm_ s (by omega)
    refine⟨K,fun k hk=>?_⟩
    have hK':spec_SumOf.f k s=some (dN_ 4294967295 (bytesOf s)):=hK k (by omega)
    unfold spec_Sealed.f
    rw [if_neg (by omega),hK']
    simp only [Option.bind_some,ce_]
    rw [if_pos (by rw [bU_];omega),if_pos h]
    rfl
  · refine⟨0,fun k _=>?_⟩
    unfold spec_Sealed.f
    rw [if_pos (by omega),if_neg h]
def unB (s:ByteArray):ByteArray × Bool:=
  if 4≤s.size∧s.size≤20004∧s.extract (s.size - 4) s.size=cM_ (s.extract 0 (s.size - 4)) then (s.extract 0 (s.size - 4),true) else ((⟨#[]⟩:ByteArray),false)
theorem cv_ (s:ByteArray) (n:Nat) (h:n≤s.size):s.extract 0 n ++ s.extract n s.size=s:=by
  rw [ByteArray.extract_append_extract]
  rw [Nat.min_eq_left (Nat.zero_le _),Nat.max_eq_right h,ByteArray.extract_zero_size]
theorem aQ_ (s:ByteArray) (hs:s.size≤9000000000000000000):∃ K,∀ k,K≤k→spec_Unsealed.f k s=some (unB s):=by
  by_cases h4:4≤s.size
  · have e:wrap64 ((s.size:Int) - 4)=((s.size - 4:Nat):Int):=by rw [w64 (by omega) (by omega)];omega
    by_cases h5:s.size≤20004
    · have hx:(s.extract 0 (s.size - 4)).size=s.size - 4:=by rw [ByteArray.size_extract];omega
      obtain⟨K,hK⟩:=bm_ (s.extract 0 (s.size - 4)) (by omega)
      refine⟨K,fun k hk=>?_⟩
      have hK':spec_SumOf.f k (s.extract 0 (s.size - 4))=some (dN_ 4294967295 (bytesOf (s.extract 0 (s.size - 4)))):=hK k (by omega)
      unfold spec_Unsealed.f
      rw [e,Int.toNat_natCast,if_neg (by omega),if_neg (by omega),if_pos (by omega),if_pos (by omega),hK']
      simp only [Option.bind_some,ce_]
      rw [show fM_ (dN_ 4294967295 (bytesOf (s.extract 0 (s.size - 4))))=cM_ (s.extract 0 (s.size - 4)) from rfl]
      unfold unB
      by_cases hc:s.extract (s.size - 4) s.size=cM_ (s.extract 0 (s.size - 4))
      · rw [if_pos (ag_.2 hc),if_pos ⟨h4,h5,hc⟩]
      · rw [if_neg (fun h=>hc (ag_.1 h)),if_neg (fun h=>hc h.2.2)]
    · refine⟨0,fun k _=>?_⟩
      unfold spec_Unsealed.f unB
      rw [e,if_neg (by omega),if_pos (by omega),if_neg (fun h=>h5 h.2.1)]
  · refine⟨0,fun k _=>?_⟩
    unfold spec_Unsealed.f unB
    rw [w64 (by omega) (by omega),if_pos (by omega),if_neg (fun h=>h4 h.1)]
theorem aP_ (s:ByteArray) (hs:s.size≤9000000000000000000):∃ K,∀ k,K≤k→impl_Unsealed.f k s=some (unB s):=by
  by_cases h4:4≤s.size
  · have e:wrap64 ((s.size:Int) - 4)=((s.size - 4:Nat):Int):=by rw [w64 (by omega) (by omega)];omega
    have hx:(s.extract 0 (s.size - 4)).size=s.size - 4:=by rw [ByteArray.size_extract];omega
    obtain⟨K,hK⟩:=aX_ (s.extract 0 (s.size - 4))
    refine⟨K,fun k hk=>?_⟩
    unfold impl_Unsealed.f
    rw [e,Int.toNat_natCast,if_neg (by omega),if_pos (by omega),if_pos (by omega),hK k (by omega)]
    simp only [Option.bind_some]
    by_cases h5:s.size≤20004
    · rw [if_pos (show (s.extract 0 (s.size - 4)).size≤20000 by omega)]
      have hsp:=cv_ s (s.size - 4) (by omega)
      have hiff:(s.extract 0 (s.size - 4) ++ cM_ (s.extract 0 (s.size - 4))=s)↔s.extract (s.size - 4) s.size=cM_ (s.extract 0 (s.size - 4)):=by
        constructor
        · intro h;exact((ByteArray.append_right_inj _).1 (h.trans hsp.symm)).symm
        · intro h;rw [←h];exact hsp
      by_cases hc:s.extract (s.size - 4) s.size=cM_ (s.extract 0 (s.size - 4))
      · have hu:unB s=(s.extract 0 (s.size - 4),true):=by unfold unB;exact if_pos ⟨h4,h5,hc⟩
        rw [hu]
        simp [ag_,hiff.2 hc]
      · have hu:unB s=((⟨#[]⟩:ByteArray),false):=by unfold unB;exact if_neg (fun h=>hc h.2.2)
        rw [hu]
        have hn:¬ (s.extract 0 (s.size - 4) ++ cM_ (s.extract 0 (s.size - 4))=s):=fun h=>hc (hiff.1 h)
        simp [ag_,hn]
    · have hu:unB s=((⟨#[]⟩:ByteArray),false):=by unfold unB;exact if_neg (fun h=>h5 h.2.1)
      rw [if_neg (show ¬ (s.extract 0 (s.size - 4)).size≤20000 by omega),hu]
      simp
  · refine⟨0,fun k _=>?_⟩
    unfold impl_Unsealed.f unB
    rw [w64 (by omega) (by omega),if_pos (by omega),if_neg (fun h=>h4 h.1)]

/-! ### all -/
def cH_ (p:Nat→Bool) (j:Nat):Nat→Bool
  |0=>true
  |d+1=>p j && cH_ p (j+1) d
theorem dv_ {F:Nat→Nat→Option Bool} {n:Nat} {p:Nat→Bool} {R:Bool}
    (hs:∀ j,j<n→(p j=true→∀ r,Ev (fun k=>F k (j+1)) r→Ev (fun k=>F k j) r)∧(p j=false→Ev (fun k=>F k j) false))
    (he:Ev (fun k=>F k n) R):∀ d j,n - j=d→j≤n→Ev (fun k=>F k j) (cH_ p j d && R):=by
  intro d
  induction d with
  |zero=>
    intro j hd hj
    obtain rfl:j=n:=by omega
    simpa [cH_] using he
  |succ d ih=>
    intro j hd hj
    have h:=hs j (by omega)
    cases hp:p j with
    |true=>
      have:=ih (j+1) (by omega) (by omega)
      simp only [cH_,hp,Bool.true_and]
      exact h.1 hp _ this
    |false=>
      simp only [cH_,hp,Bool.false_and]
      exact h.2 hp
theorem Ev.here {α:Type} {F f:Nat→Option α} {r:α} (hs:∀ k,F (k+1)=f k) (h:∀ k,f k=some r):Ev F r:=Ev.step hs ⟨0,fun k _=>h k⟩
theorem bE_ {p:Nat→Bool}:∀ d j,cH_ p j d=true→∀ i,j≤i→i<j+d→p i=true:=by
  intro d
  induction d with
  |zero=>intro j _ i h1 h2;omega
  |succ d ih=>
    intro j h i h1 h2
    unfold cH_ at h
    rw [Bool.and_eq_true] at h
    by_cases hij:i=j
    · subst hij;exact h.1
    · exact ih (j+1) h.2 i (by omega) (by omega)

/-! ### in -/
def rng (a b c:Int):Bool:=decide (b≤a) && decide (a≤c)
theorem ab_ {a b c:Int}:rng a b c=true↔b≤a∧a≤c:=by simp [rng]
theorem eL_ {a b c:Int}:rng a b c=false↔¬ (b≤a∧a≤c):=by rw [←ab_];simp
theorem bc_ (a b c:Int):spec_l01In.f a b c=some (rng a b c):=by
  unfold spec_l01In.f rng
  by_cases h:b≤a
  · rw [if_pos h];simp [h]
  · rw [if_neg h];simp [h]
theorem aM_ (a b c:Int):impl_within.f a b c=some (rng a b c):=by
  unfold impl_within.f rng
  by_cases h:b≤a
  · rw [if_pos h];simp [h]
  · rw [if_neg h];simp [h]

/-! ### loops -/
theorem bb_ {α:Type} {l:List α} {j:Nat} (z:α) (h:j<l.length):l.getD (j:Int).toNat z=l[j]:=by
  simp [List.getD_eq_getElem?_getD,List.getElem?_eq_getElem h]

/-! ### conf -/
def pC (l:List Int) (j:Nat):Bool:=rng (rd l (j:Int)) 1 4 && (!decide ((j:Int)>0) || !decide (rd l ((j:Int) - 1)≥rd l (j:Int)))
def dq_ (l:List Int):Bool:=cH_ (pC l) 0 l.length
def ap_ (l:List Int):Bool:=decide (0<l.length) && dq_ l
theorem ep_ {l:List Int} (h:dq_ l=true):∀ i,i<l.length→(i:Int)+1≤rd l (i:Int)∧rd l (i:Int)≤4:=by
  intro i
  induction i with
  |zero=>
    intro hi
    have:=bE_ _ _ h 0 (by omega) (by omega)
    unfold pC at this
    simp only [Bool.and_eq_true,ab_] at this
    omega
  |succ i ih=>
    intro hi
    have h0:=ih (by omega)
    have:=bE_ _ _ h (i+1) (by omega) (by omega)
    unfold pC at this
    simp only [Bool.and_eq_true,Bool.or_eq_true,Bool.not_eq_true',decide_eq_false_iff_not,ab_] at this
    obtain⟨h1,h2⟩:=this
    have e:((i+1:Nat):Int) - 1=(i:Int):=by omega
    rw [e] at h2
    rcases h2 with h2|h2
    · exact absurd (show ((i+1:Nat):Int)>0 by omega) h2
    · omega
theorem fc_ {l:List Int} (h:dq_ l=true):l.length≤4:=by
  rcases Nat.lt_or_ge l.length 5 with h5|h5
  · omega
  · have:=ep_ h 4 (by omega)
    omega
theorem bn_ {l:List Int} (h:ap_ l=true):1≤l.length∧l.length≤4:=by
  unfold ap_ at h
  simp only [Bool.and_eq_true,decide_eq_true_eq] at h
  exact⟨by omega,fc_ h.2⟩
theorem dC_ {l:List Int} (h:ap_ l=true):∀ x∈l,1≤x∧x≤4:=by
  intro x hx
  unfold ap_ at h
  simp only [Bool.and_eq_true,decide_eq_true_eq] at h
  obtain⟨i,hi,rfl⟩:=List.mem_iff_getElem.1 hx
  have:=ep_ h.2 i hi
  have e:rd l (i:Int)=l[i]:=by unfold rd;simp [List.getD_eq_getElem?_getD,List.getElem?_eq_getElem hi]
  rw [e] at this
  omega
theorem eI_ (l:List Int) (hl:l.length≤2000000):Ev (fun k=>spec_l05Rise.f k l 1 4) (dq_ l):=by
  have h:=dv_ (F:=fun k j=>spec_l05Rise.l0 k l 1 4 (j:Int)) (p:=pC l) (R:=true) (n:=l.length) (fun j hj=>?_) ?_ l.length 0 (by omega) (by omega)
  · rw [Bool.and_true] at h
    exact h
  · have es:∀ k,spec_l05Rise.l0 (k+1) l 1 4 (j:Int)=if pC l j=true then spec_l05Rise.l0 k l 1 4 ((j+1:Nat):Int) else some false:=fun k=>by
      simp only [spec_l05Rise.l0]
      rw [if_pos (by omega),if_pos (by omega)]
      simp only [bc_,Option.bind_some]
      try simp only [spec_l05Rise.j1]
      rw [w64 (x:=(j:Int)+1) (by omega) (by omega),w64 (x:=(j:Int) - 1) (by omega) (by omega)]
      unfold pC
      have e1:((j:Int)+1)=((j+1:Nat):Int):=by omega
      rw [e1]
      by_cases h0:(j:Int)>0
      · simp only [h0,show (0:Int)≤(j:Int) - 1 by omega,show (j:Int) - 1<(l.length:Int) by omega,if_true]
        cases h1:rng (rd l (j:Int)) 1 4 <;> by_cases h3:rd l ((j:Int) - 1)≥rd l (j:Int) <;> simp [h1,h3]
      · simp only [h0,if_false]
        cases h1:rng (rd l (j:Int)) 1 4 <;> simp [h1]
    refine⟨fun hp r hr=>Ev.step (fun k=>by rw [es,if_pos hp]) hr,fun hp=>Ev.here (f:=fun _=>some false) (fun k=>by rw [es,if_neg (by simp [hp])]) (fun _=>rfl)⟩
  · exact Ev.here (f:=fun _=>some true) (fun k=>by simp only [spec_l05Rise.l0];rw [if_neg (by omega)]) (fun _=>rfl)
theorem cL_ (l:List Int) (hl:l.length≤2000000):Ev (fun k=>spec_ConfOk.f k l) (ap_ l):=by
  unfold spec_ConfOk.f
  simp only [bc_,Option.bind_some]
  cases hr:rng (l.length:Int) 1 4 with
  |false=>
    simp only [Bool.false_eq_true,if_false]
    have:ap_ l=false:=by
      cases hc:ap_ l with
      |false=>rfl
      |true=>
        have:=bn_ hc
        have:=eL_.1 hr
        omega
    rw [this]
    exact Ev.now _
  |true=>
    have hh:=ab_.1 hr
    have:ap_ l=dq_ l:=by unfold ap_;simp;omega
    rw [this]
    simp only [if_true]
    refine Ev.bind (eI_ l hl) ?_
    exact Ev.now _
theorem ew_ (l:List Int) (hl:l.length≤2000000):Ev (fun k=>impl_nodesOk.f k l) (dq_ l):=by
  have h:=dv_ (F:=fun k j=>impl_nodesOk.l0 k l l (l.length:Int) (j:Int)) (p:=pC l) (R:=true) (n:=l.length) (fun j hj=>?_) ?_ l.length 0 (by omega) (by omega)
  · rw [Bool.and_true] at h
    exact h
  · have es:∀ k,impl_nodesOk.l0 (k+1) l l (l.length:Int) (j:Int)=if pC l j=true then impl_nodesOk.l0 k l l (l.length:Int) ((j+1:Nat):Int) else some false:=fun k=>by
      simp only [impl_nodesOk.l0]
      rw [if_pos (by omega),if_pos (by omega),if_pos (by omega)]
      simp only [impl_isNode.f,aM_,Option.bind_some]
      try simp only [impl_nodesOk.j1]
      rw [w64 (x:=(j:Int)+1) (by omega) (by omega),w64 (x:=(j:Int) - 1) (by omega) (by omega)]
      unfold pC
      have e1:((j:Int)+1)=((j+1:Nat):Int):=by omega
      rw [e1]
      by_cases h0:(j:Int)>0
      · simp only [h0,show (0:Int)≤(j:Int) - 1 by omega,show (j:Int) - 1<(l.length:Int) by omega,if_true]
        cases h1:rng (rd l (j:Int)) 1 4 <;> by_cases h3:rd l ((j:Int) - 1)≥rd l (j:Int) <;> simp [h1,h3]
      · simp only [h0,if_false]
        cases h1:rng (rd l (j:Int)) 1 4 <;> simp [h1]
    refine⟨fun hp r hr=>Ev.step (fun k=>by rw [es,if_pos hp]) hr,fun hp=>Ev.here (f:=fun _=>some false) (fun k=>by rw [es,if_neg (by simp [hp])]) (fun _=>rfl)⟩
  · exact Ev.here (f:=fun _=>some true) (fun k=>by simp only [impl_nodesOk.l0];rw [if_neg (by omega)]) (fun _=>rfl)
theorem cZ_ (l:List Int) (hl:l.length≤2000000):Ev (fun k=>impl_ConfOk.f k l) (ap_ l):=by
  unfold impl_ConfOk.f
  by_cases h:(l.length:Int)>0
  · have:ap_ l=dq_ l:=by unfold ap_;simp;omega
    rw [this]
    simp only [if_pos h]
    refine Ev.bind (ew_ l hl) ?_
    exact Ev.now _
  · have:ap_ l=false:=by unfold ap_;simp;omega
    rw [this]
    simp only [if_neg h]
    exact Ev.now _
def ax_ (s:ByteArray):List Int × Bool:=if ap_ (bytesOf s)=true then (bytesOf s,true) else ([],false)
theorem wbt (s:ByteArray) (j:Nat) (hj:j<s.size):wrap64 (bt s (j:Int))=(bytesOf s)[j]'(by rw [bytesOf_length];exact hj):=by
  have hl:j<(bytesOf s).length:=by rw [bytesOf_length];exact hj
  have e:bt s (j:Int)=(bytesOf s)[j]:=by rw [cl_];unfold rd;simp [List.getD_eq_getElem?_getD,List.getElem?_eq_getElem hl]
  have:=fd_ (s:=s) _ (List.getElem_mem hl)
  rw [e,w64 (by omega) (by omega)]
theorem cI_ (s:ByteArray) (hs:s.size≤2000000):∀ (d j:Nat),s.size - j=d→j≤s.size→Ev (fun k=>impl_ReadConf.l0 k s ((bytesOf s).take j) (j:Int)) (ax_ s):=by
  intro d
  induction d with
  |zero=>
    intro j hd hj
    have hj':(bytesOf s).take j=bytesOf s:=List.take_of_length_le (by rw [bytesOf_length];omega)
    rw [hj']
    refine Ev.step (fun k=>by simp only [impl_ReadConf.l0];rw [if_neg (by omega)]) ?_
    refine Ev.bind (cZ_ _ (by rw [bytesOf_length];exact hs)) ?_
    unfold ax_
    cases ap_ (bytesOf s) <;> exact Ev.now _
  |succ d ih=>
    intro j hd hj
    have hl:j<(bytesOf s).length:=by rw [bytesOf_length];omega
    refine Ev.step (fun k=>by simp only [impl_ReadConf.l0];rw [if_pos (by omega),if_pos (by omega),if_pos (by rw [List.length_take];omega),w64 (x:=(j:Int)+1) (by omega) (by omega),wbt s j (by omega),List.take_append_getElem hl]) ?_
    exact ih (j+1) (by omega) (by omega)
theorem bl_ (s:ByteArray) (hs:s.size≤2000000):Ev (fun k=>impl_ReadConf.f k s) (ax_ s):=by
  have:=cI_ s hs s.size 0 (by omega) (by omega)
  rw [List.take_zero] at this
  exact this
theorem cV_ (s:ByteArray) (hs:s.size≤2000000):∀ (d j:Nat),5 - j=d→j≤5→j≤s.size→Ev (fun k=>spec_ReadConf.l0 k s ((bytesOf s).take j) (j:Int)) (ax_ s):=by
  have hend:∀ j:Nat,j=s.size→Ev (fun k=>spec_ReadConf.l0 k s ((bytesOf s).take j) (j:Int)) (ax_ s):=by
    intro j hj
    have hj':(bytesOf s).take j=bytesOf s:=List.take_of_length_le (by rw [bytesOf_length];omega)
    rw [hj']
    have hlen:=bytesOf_length s
    refine Ev.step (f:=fun k=>(spec_ConfOk.f k (bytesOf s)).bind fun v=>if v=true then some (bytesOf s,true) else some ([],false)) (fun k=>by
      simp only [spec_ReadConf.l0];rw [if_neg (by omega)]
      try simp only [spec_ReadConf.j1]
      rw [if_pos (by omega)]) ?_
    refine Ev.bind (cL_ _ (by rw [bytesOf_length];exact hs)) ?_
    unfold ax_
    cases ap_ (bytesOf s) <;> exact Ev.now _
  intro d
  induction d with
  |zero=>
    intro j hd hj hjs
    by_cases he:j=s.size
    · exact hend j he
    · have hlen:=bytesOf_length s
      have hc:ax_ s=([],false):=by
        unfold ax_
        cases hc:ap_ (bytesOf s) with
        |false=>simp
        |true=>
          have:=bn_ hc
          omega
      rw [hc]
      refine Ev.here (f:=fun _=>some ([],false)) (fun k=>?_) (fun _=>rfl)
      simp only [spec_ReadConf.l0]
      rw [if_pos (by omega),if_neg (by omega)]
      try simp only [spec_ReadConf.j1]
      rw [if_neg (by rw [List.length_take];omega)]
  |succ d ih=>
    intro j hd hj hjs
    by_cases he:j=s.size
    · exact hend j he
    · have hl:j<(bytesOf s).length:=by rw [bytesOf_length];omega
      refine Ev.step (fun k=>by simp only [spec_ReadConf.l0];rw [if_pos (by omega),if_pos (by omega),if_pos (by omega),if_pos (by rw [List.length_take];omega),w64 (x:=(j:Int)+1) (by omega) (by omega),wbt s j (by omega),List.take_append_getElem hl]) ?_
      exact ih (j+1) (by omega) (by omega) (by omega)
theorem be_ (s:ByteArray) (hs:s.size≤2000000):Ev (fun k=>spec_ReadConf.f k s) (ax_ s):=by
  have:=cV_ s hs 5 0 (by omega) (by omega) (by omega)
  rw [List.take_zero] at this
  exact this

/-! ### bytes -/
theorem dT_ (l:List Int) (hl:l.length≤2000000):∀ (d j:Nat) (acc:List Int),l.length - j=d→j≤l.length→acc.length=j→∀ k,d<k→impl_byteTexts.l0 k acc l (l.length:Int) (j:Int)=some (strOfNums (acc ++ (l.drop j).map (· % 256))):=by
  intro d
  induction d with
  |zero=>
    intro j acc hd hj ha k hk
    obtain⟨k,rfl⟩:∃ m,k=m+1:=⟨k - 1,by omega⟩
    simp only [impl_byteTexts.l0]
    rw [if_neg (by omega),List.drop_of_length_le (by omega)]
    simp
  |succ d ih=>
    intro j acc hd hj ha k hk
    obtain⟨k,rfl⟩:∃ m,k=m+1:=⟨k - 1,by omega⟩
    have hjl:j<l.length:=by omega
    have hget:rd l (j:Int)=l[j]:=by unfold rd;simp [List.getD_eq_getElem?_getD,List.getElem?_eq_getElem hjl]
    have hdrop:l.drop j=l[j] :: l.drop (j+1):=List.drop_eq_getElem_cons hjl
    simp only [impl_byteTexts.l0]
    rw [if_pos (by omega),if_pos (by omega),if_pos (by omega),if_pos (by omega),hget,w64 (x:=(j:Int)+1) (by omega) (by omega),hdrop]
    have:=ih (j+1) (acc ++ [l[j] % 256]) (by omega) (by omega) (by rw [List.length_append,List.length_singleton];omega) k (by omega)
    rw [List.append_assoc] at this
    exact this
theorem fl_ (l:List Int) (hl:l.length≤2000000):∀ k,l.length<k→impl_byteTexts.f k l=some (strOfNums (l.map (· % 256))):=fun k hk=>
  dT_ l hl l.length 0 [] (by omega) (by omega) rfl k hk

/-! ### conftext -/
def au_ (l:List Int):ByteArray:=strOfNums (l.map (· % 256))
def az_ (l:List Int):ByteArray × Bool:=if ap_ l=true then (au_ l,true) else ((⟨#[]⟩:ByteArray),false)
theorem cb_ (l:List Int):(az_ l).1.size≤4:=by
  unfold az_
  by_cases h:ap_ l=true
  · rw [if_pos h]
    have:=bn_ h
    show (au_ l).size≤4
    unfold au_
    rw [strOfNums_size,List.length_map]
    exact this.2
  · rw [if_neg h]
    show 0≤4
    omega
theorem fb_ {l:List Int} (h:ap_ l=true):l.map (· % 256)=l:=by
  have:=dC_ h
  have e:l.map (· % 256)=l.map id:=List.map_congr_left (fun x hx=>by have:=this x hx;show x % 256=x;omega)
  rw [e,List.map_id]
theorem cG_ {l:List Int} (h:ap_ l=true):bytesOf (au_ l)=l:=by
  unfold au_
  rw [fb_ h,cW_]
  intro x hx
  have:=dC_ h x hx
  omega
theorem cX_ (l:List Int) (hl:l.length≤2000000):∀ (d j:Nat),l.length - j=d→j≤l.length→Ev (fun k=>spec_ConfText.l0 k l ((l.map (· % 256)).take j) (j:Int)) (au_ l,true):=by
  intro d
  induction d with
  |zero=>
    intro j hd hj
    rw [List.take_of_length_le (by rw [List.length_map];omega)]
    exact Ev.step (f:=fun _=>some (strOfNums (l.map (· % 256)),true)) (fun k=>by simp only [spec_ConfText.l0];rw [if_neg (by omega)]) (Ev.now _)
  |succ d ih=>
    intro j hd hj
    have hjl:j<l.length:=by omega
    have hm:j<(l.map (· % 256)).length:=by rw [List.length_map];exact hjl
    have e:rd l (j:Int) % 256=(l.map (· % 256))[j]:=by
      rw [List.getElem_map]
      unfold rd
      simp [List.getD_eq_getElem?_getD,List.getElem?_eq_getElem hjl]
    refine Ev.step (fun k=>by simp only [spec_ConfText.l0];rw [if_pos (by omega),if_pos (by omega),if_pos (by rw [List.length_take,List.length_map];omega),e,List.take_append_getElem hm,w64 (x:=(j:Int)+1) (by omega) (by omega)]) ?_
    exact ih (j+1) (by omega) (by omega)
theorem bh_ (l:List Int) (hl:l.length≤2000000):Ev (fun k=>spec_ConfText.f k l) (az_ l):=by
  unfold spec_ConfText.f
  refine Ev.bind (cL_ l hl) ?_
  unfold az_
  by_cases h:ap_ l=true
  · simp only [if_pos h]
    have:=cX_ l hl l.length 0 (by omega) (by omega)
    rw [List.take_zero] at this
    exact this
  · simp only [if_neg h]
    exact Ev.now _
theorem cu_ (l:List Int) (hl:l.length≤2000000):Ev (fun k=>impl_ConfText.f k l) (az_ l):=by
  unfold impl_ConfText.f
  refine Ev.bind (cZ_ l hl) ?_
  unfold az_
  by_cases h:ap_ l=true
  · simp only [if_pos h]
    exact Ev.bind ⟨l.length+1,fun k hk=>fl_ l hl k (by omega)⟩ (Ev.now _)
  · simp only [if_neg h]
    exact Ev.now _

/-! ### var -/
def ak_:Nat→Int→List Int
  |0,x=>[x % 256]
  |d+1,x=>if x>127 then (x % 128+128) % 256 :: ak_ d (x / 128) else [x % 256]
theorem dr_:∀ d x,(ak_ d x).length≤d+1:=by
  intro d
  induction d with
  |zero=>intro x;simp [ak_]
  |succ d ih=>
    intro x
    unfold ak_
    split
    · have:=ih (x / 128);simp only [List.length_cons];omega
    · simp
def aj_ (x:Int):ByteArray:=strOfNums (ak_ 8 x)
theorem ac_ (x:Int):(aj_ x).size≤9:=by
  unfold aj_
  rw [strOfNums_size]
  exact dr_ 8 x
theorem cm_:∀ (d:Nat) (x:Int) (acc:List Int),0≤x→x<128 ^ (d+1)→x≤9223372036854775807→acc.length+d≤1000→∀ k,d<k→spec_l01Var.l0 k x acc=some (strOfNums (acc ++ ak_ d x)):=by
  intro d
  induction d with
  |zero=>
    intro x acc h0 h1 h2 h3 k hk
    obtain⟨k,rfl⟩:∃ m,k=m+1:=⟨k - 1,by omega⟩
    simp only [spec_l01Var.l0,ak_]
    rw [if_neg (by omega),if_pos (by omega)]
  |succ d ih=>
    intro x acc h0 h1 h2 h3 k hk
    obtain⟨k,rfl⟩:∃ m,k=m+1:=⟨k - 1,by omega⟩
    simp only [spec_l01Var.l0,ak_]
    by_cases hx:x>127
    · have hp:(128:Int) ^ (d+1+1)=128 ^ (d+1) * 128:=Int.pow_succ 128 (d+1)
      rw [if_pos hx,if_pos (by omega),if_pos hx,Int.tdiv_eq_ediv_of_nonneg h0,Int.tmod_eq_emod_of_nonneg h0,w64 (x:=x / 128) (by omega) (by omega),w64 (x:=x % 128+128) (by omega) (by omega)]
      rw [ih (x / 128) (acc ++ [(x % 128+128) % 256]) (by omega) (by omega) (by omega) (by rw [List.length_append,List.length_singleton];omega) k (by omega),List.append_assoc]
      rfl
    · rw [if_neg hx,if_pos (by omega),if_neg hx]
theorem am_ (x:Int) (h0:0≤x) (h1:x≤1000000000):Ev (fun k=>spec_l01Var.f k x) (aj_ x):=⟨9,fun k hk=>by
  exact cm_ 8 x [] h0 (by omega) (by omega) (by simp) k (by omega)⟩
theorem cs_:∀ (d:Nat) (x:Int) (acc:List Int),0≤x→x<128 ^ (d+1)→x≤9223372036854775807→acc.length+d≤1000→∀ k,d<k→impl_VarText.l0 k x acc=some (strOfNums (acc ++ ak_ d x),true):=by
  intro d
  induction d with
  |zero=>
    intro x acc h0 h1 h2 h3 k hk
    obtain⟨k,rfl⟩:∃ m,k=m+1:=⟨k - 1,by omega⟩
    simp only [impl_VarText.l0,ak_]
    rw [if_neg (by omega),if_pos (by omega)]
  |succ d ih=>
    intro x acc h0 h1 h2 h3 k hk
    obtain⟨k,rfl⟩:∃ m,k=m+1:=⟨k - 1,by omega⟩
    simp only [impl_VarText.l0,ak_]
    by_cases hx:x>127
    · have hp:(128:Int) ^ (d+1+1)=128 ^ (d+1) * 128:=Int.pow_succ 128 (d+1)
      rw [if_pos hx,if_pos (by omega),if_pos hx,Int.tdiv_eq_ediv_of_nonneg h0,Int.tmod_eq_emod_of_nonneg h0,w64 (x:=x / 128) (by omega) (by omega),w64 (x:=x % 128+128) (by omega) (by omega)]
      rw [ih (x / 128) (acc ++ [(x % 128+128) % 256]) (by omega) (by omega) (by omega) (by rw [List.length_append,List.length_singleton];omega) k (by omega),List.append_assoc]
      rfl
    · rw [if_neg hx,if_pos (by omega),if_neg hx]
theorem dM_ (x:Int) (h0:0≤x) (h1:x≤1000000000):Ev (fun k=>impl_VarText.f k x) (aj_ x,true):=⟨9,fun k hk=>by
  unfold impl_VarText.f
  have hr:rng x 0 1000000000=true:=ab_.2 ⟨h0,h1⟩
  simp only [aM_,hr,Option.bind_some,if_true]
  exact cs_ 8 x [] h0 (by omega) (by omega) (by simp) k (by omega)⟩
def aa_ (s:ByteArray):ByteArray:=aj_ (s.size:Int) ++ s
theorem ae_ (s:ByteArray):(aa_ s).size≤s.size+9:=by
  have:=ac_ (s.size:Int)
  unfold aa_
  rw [ByteArray.size_append]
  omega
theorem bs_ (s:ByteArray) (hs:s.size≤1000000000):Ev (fun k=>spec_l16Short.f k s) (aa_ s):=by
  unfold spec_l16Short.f
  refine Ev.bind (am_ (s.size:Int) (by omega) (by omega)) ?_
  have:=ac_ (s.size:Int)
  simp only [if_pos (show (aj_ (s.size:Int)).size+s.size≤9223372036854775807 by omega)]
  exact Ev.now _
theorem cd_ (s:ByteArray) (hs:s.size≤20000):Ev (fun k=>impl_ShortText.f k s) (aa_ s,true):=by
  unfold impl_ShortText.f
  simp only [if_neg (show ¬ (s.size:Int)>20000 by omega)]
  refine Ev.bind (dM_ (s.size:Int) (by omega) (by omega)) ?_
  have:=ac_ (s.size:Int)
  simp only [if_pos (show (aj_ (s.size:Int)).size+s.size≤9223372036854775807 by omega)]
  exact Ev.now _
def bZ_ {α:Type} (f:α→ByteArray):List α→ByteArray
  |[]=>(⟨#[]⟩:ByteArray)
  |x :: l=>f x ++ bZ_ f l
theorem aq_ (s:ByteArray):s ++ (⟨#[]⟩:ByteArray)=s:=aL_ (by rw [aE_,dH_,List.append_nil])
theorem bR_ (s:ByteArray):(⟨#[]⟩:ByteArray) ++ s=s:=aL_ (by rw [aE_,dH_,List.nil_append])
theorem cp_ (l:List Int) (hl:l.length≤1000000) (hr:∀ x∈l,0≤x∧x≤1000000000):∀ (d j:Nat) (acc:ByteArray),l.length - j=d→j≤l.length→acc.size≤100 * j→Ev (fun k=>impl_varTexts.l0 k acc l (l.length:Int) (j:Int)) (acc ++ bZ_ aj_ (l.drop j)):=by
  intro d
  induction d with
  |zero=>
    intro j acc hd hj ha
    rw [List.drop_of_length_le (by omega)]
    simp only [bZ_,aq_]
    exact Ev.step (f:=fun _=>some acc) (fun k=>by simp only [impl_varTexts.l0];rw [if_neg (by omega)]) (Ev.now _)
  |succ d ih=>
    intro j acc hd hj ha
    have hjl:j<l.length:=by omega
    have hget:rd l (j:Int)=l[j]:=by unfold rd;rw [List.getD_eq_getElem?_getD,Int.toNat_natCast,List.getElem?_eq_getElem hjl];rfl
    have hx:=hr l[j] (List.getElem_mem _)
    refine Ev.step (f:=fun k=>(impl_VarText.f k l[j]).bind fun bt=>if acc.size+bt.1.size≤9223372036854775807 then impl_varTexts.l0 k (acc ++ bt.1) l (l.length:Int) ((j+1:Nat):Int) else none) (fun k=>?_) ?_
    · simp only [impl_varTexts.l0]
      rw [if_pos (by omega),if_pos (by omega),if_pos (by omega),hget,w64 (x:=(j:Int)+1) (by omega) (by omega)]
      rfl
    · refine Ev.bind (dM_ _ hx.1 hx.2) ?_
      have h9:=ac_ l[j]
      simp only [if_pos (show acc.size+(aj_ l[j]).size≤9223372036854775807 by omega)]
      have:=ih (j+1) (acc ++ aj_ l[j]) (by omega) (by omega) (by rw [ByteArray.size_append];omega)
      rw [List.drop_eq_getElem_cons hjl,bZ_,←ByteArray.append_assoc]
      exact this
theorem dh_ (l:List Int) (hl:l.length≤1000000) (hr:∀ x∈l,0≤x∧x≤1000000000):Ev (fun k=>impl_varTexts.f k l) (bZ_ aj_ l):=by
  have:=cp_ l hl hr l.length 0 (⟨#[]⟩:ByteArray) (by omega) (by omega) (by show 0≤_;omega)
  rw [bR_] at this
  exact this
theorem bO_ (l:List ByteArray) (hl:l.length≤1000000) (hr:∀ x∈l,x.size≤20000):∀ (d j:Nat) (acc:ByteArray),l.length - j=d→j≤l.length→acc.size≤30000 * j→Ev (fun k=>impl_shortTexts.l0 k acc l (l.length:Int) (j:Int)) (acc ++ bZ_ aa_ (l.drop j)):=by
  intro d
  induction d with
  |zero=>
    intro j acc hd hj ha
    rw [List.drop_of_length_le (by omega)]
    simp only [bZ_,aq_]
    exact Ev.step (f:=fun _=>some acc) (fun k=>by simp only [impl_shortTexts.l0];rw [if_neg (by omega)]) (Ev.now _)
  |succ d ih=>
    intro j acc hd hj ha
    have hjl:j<l.length:=by omega
    have hget:rdOf ByteArray.empty l (j:Int)=l[j]:=by unfold rdOf;rw [List.getD_eq_getElem?_getD,Int.toNat_natCast,List.getElem?_eq_getElem hjl];rfl
    have hx:=hr l[j] (List.getElem_mem _)
    refine Ev.step (f:=fun k=>(impl_ShortText.f k l[j]).bind fun bt=>if acc.size+bt.1.size≤9223372036854775807 then impl_shortTexts.l0 k (acc ++ bt.1) l (l.length:Int) ((j+1:Nat):Int) else none) (fun k=>?_) ?_
    · simp only [impl_shortTexts.l0]
      rw [if_pos (by omega),if_pos (by omega),if_pos (by omega),hget,w64 (x:=(j:Int)+1) (by omega) (by omega)]
      rfl
    · refine Ev.bind (cd_ _ hx) ?_
      have h9:=ae_ l[j]
      simp only [if_pos (show acc.size+(aa_ l[j]).size≤9223372036854775807 by omega)]
      have:=ih (j+1) (acc ++ aa_ l[j]) (by omega) (by omega) (by rw [ByteArray.size_append];omega)
      rw [List.drop_eq_getElem_cons hjl,bZ_,←ByteArray.append_assoc]
      exact this
theorem cn_ (l:List ByteArray) (hl:l.length≤1000000) (hr:∀ x∈l,x.size≤20000):Ev (fun k=>impl_shortTexts.f k l) (bZ_ aa_ l):=by
  have:=bO_ l hl hr l.length 0 (⟨#[]⟩:ByteArray) (by omega) (by omega) (by show 0≤_;omega)
  rw [bR_] at this
  exact this

/-! ### readvar -/
def aA_:List Int→Int
  |[]=>0
  |x :: l=>x % 128+128 * aA_ l
theorem dk_:∀ l,0≤aA_ l:=by
  intro l
  induction l with
  |nil=>simp [aA_]
  |cons x l ih=>simp only [aA_];omega
theorem fR_:∀ l:List Int,aA_ l<128 ^ l.length:=by
  intro l
  induction l with
  |nil=>simp [aA_]
  |cons x l ih=>
    simp only [aA_,List.length_cons]
    have:(128:Int) ^ (l.length+1)=128 ^ l.length * 128:=Int.pow_succ 128 l.length
    omega
theorem dF_ (l:List Int) (c:Int):aA_ (l ++ [c])=aA_ l+(c % 128) * 128 ^ l.length:=by
  induction l with
  |nil=>simp [aA_]
  |cons x l ih=>
    simp only [List.cons_append,aA_,ih,List.length_cons]
    have h1:(128:Int) ^ (l.length+1)=128 ^ l.length * 128:=Int.pow_succ 128 l.length
    have h2:128 * (c % 128 * 128 ^ l.length)=c % 128 * (128 ^ l.length * 128):=by rw [Int.mul_comm 128,Int.mul_assoc]
    rw [h1,Int.mul_add,h2]
    omega
theorem fj_ (l:List Int) (c:Int) (h0:0≤c) (h1:c≤127) (hc:c≠0):1≤aA_ (l ++ [c]):=by
  induction l with
  |nil=>simp only [List.nil_append,aA_];omega
  |cons x l ih=>simp only [List.cons_append,aA_];omega
theorem dZ_:∀ d x,∀ y∈ak_ d x,0≤y∧y≤255:=by
  intro d
  induction d with
  |zero=>intro x y hy;simp only [ak_,List.mem_singleton] at hy;omega
  |succ d ih=>
    intro x y hy
    unfold ak_ at hy
    split at hy
    · rcases List.mem_cons.1 hy with h|h
      · omega
      · exact ih _ y h
    · simp only [List.mem_singleton] at hy;omega
theorem fZ_:∀ (pre:List Int) (c:Int) (d:Nat),(∀ x∈pre,128≤x∧x≤255)→0≤c→c≤127→pre.length≤d→(pre=[]∨c≠0)→ak_ d (aA_ (pre ++ [c]))=pre ++ [c]:=by
  intro pre
  induction pre with
  |nil=>
    intro c d _ h0 h1 _ _
    have e:aA_ ([] ++ [c])=c:=by simp only [List.nil_append,aA_];omega
    rw [e]
    cases d with
    |zero=>simp only [ak_,List.nil_append];congr 1;omega
    |succ d=>simp only [ak_,List.nil_append];rw [if_neg (by omega)];congr 1;omega
  |cons x l ih=>
    intro c d hp h0 h1 hl hc
    have hc:c≠0:=by
      rcases hc with h|h
      · cases h
      · exact h
    obtain⟨d,rfl⟩:∃ m,d=m+1:=⟨d - 1,by simp at hl;omega⟩
    have hx:=hp x List.mem_cons_self
    have hw:=fj_ l c h0 h1 hc
    simp only [List.cons_append,aA_,ak_]
    rw [if_pos (by omega),show (x % 128+128 * aA_ (l ++ [c])) / 128=aA_ (l ++ [c]) by omega,ih c d (fun y hy=>hp y (List.mem_cons_of_mem _ hy)) h0 h1 (by simp at hl;omega) (.inr hc)]
    congr 1
    omega
theorem fn_:∀ (pre:List Int) (d:Nat),(∀ x∈pre,128≤x∧x≤255)→pre≠[]→ak_ d (aA_ (pre ++ [0]))≠pre ++ [0]:=by
  intro pre
  induction pre with
  |nil=>intro d _ h;exact absurd rfl h
  |cons x l ih=>
    intro d hp _ he
    have hx:=hp x List.mem_cons_self
    have hlen:=congrArg List.length he
    cases d with
    |zero=>simp [ak_] at hlen
    |succ d=>
      simp only [List.cons_append,aA_,ak_] at he hlen
      by_cases hv:x % 128+128 * aA_ (l ++ [0])>127
      · rw [if_pos hv,show (x % 128+128 * aA_ (l ++ [0])) / 128=aA_ (l ++ [0]) by omega] at he
        have ht:=(List.cons.inj he).2
        cases l with
        |nil=>simp [aA_] at hv;omega
        |cons y l=>exact ih d (fun z hz=>hp z (List.mem_cons_of_mem _ hz)) (by simp) ht
      · rw [if_neg hv] at hlen
        simp at hlen
def aG_ (s:ByteArray) (a:Int) (i:Nat):List Int:=((bytesOf s).drop a.toNat).take i
theorem bD_ (s:ByteArray) (a:Int) (i:Nat) (h0:0≤a) (h:a+(i:Int)≤(s.size:Int)):(aG_ s a i).length=i:=by
  unfold aG_
  rw [List.length_take,List.length_drop,bytesOf_length]
  omega
theorem bP_ (s:ByteArray) (a:Int) (i:Nat) (h0:0≤a) (h:a+(i:Int)<(s.size:Int)):aG_ s a (i+1)=aG_ s a i ++ [bt s (a+(i:Int))]:=by
  unfold aG_
  have hl:i<((bytesOf s).drop a.toNat).length:=by rw [List.length_drop,bytesOf_length];omega
  have e:bt s (a+(i:Int))=((bytesOf s).drop a.toNat)[i]:=by
    have hb:a.toNat+i<(bytesOf s).length:=by rw [bytesOf_length];omega
    rw [List.getElem_drop,cl_]
    unfold rd
    rw [show (a+(i:Int)).toNat=a.toNat+i by omega]
    simp [List.getD_eq_getElem?_getD,List.getElem?_eq_getElem hb]
  rw [e,List.take_append_getElem hl]
theorem fi_ (s:ByteArray) (a:Int) (i:Nat) (h0:0≤a):bytesOf (s.extract a.toNat (a+(i:Int)).toNat)=aG_ s a i:=by
  rw [aW_]
  unfold aG_
  rw [show (a+(i:Int)).toNat - a.toNat=i by omega]
def rv (s:ByteArray) (a:Int):Nat→Nat→Int→Int × Int × Bool
  |0,_,_=>(0,0,false)
  |d+1,i,n=>
    if a+(i:Int)<(s.size:Int) then
      (if bt s (a+(i:Int))>127 then rv s a d (i+1) (n+bt s (a+(i:Int)) % 128 * 128 ^ i)
       else if (0<i∧bt s (a+(i:Int))=0)∨n+bt s (a+(i:Int)) % 128 * 128 ^ i>1000000000 then (0,0,false)
       else (n+bt s (a+(i:Int)) % 128 * 128 ^ i,a+(i:Int)+1,true))
    else (0,0,false)
def af_ (s:ByteArray) (a:Int):Int × Int × Bool:=if rng a 0 (s.size:Int)=true then rv s a 5 0 0 else (0,0,false)
theorem bq_ (i:Nat) (h:i≤4):1≤(128:Int) ^ i∧(128:Int) ^ i≤268435456:=by
  rcases (by omega:i=0∨i=1∨i=2∨i=3∨i=4) with rfl|rfl|rfl|rfl|rfl <;> decide
theorem cf_ (c:Int) (i:Nat) (h:i≤4):0≤c % 128 * 128 ^ i∧c % 128 * 128 ^ i≤127 * 128 ^ i:=by
  have hp:=bq_ i h
  exact⟨Int.mul_nonneg (by omega) (by omega),Int.mul_le_mul_of_nonneg_right (by omega) (by omega)⟩
theorem he_ (x:Int) (i:Nat) (hi:i≤4) (h0:0≤x) (h1:x≤127):shl .i64 x (7 * (i:Int))=x * 128 ^ i:=by
  unfold shl
  rcases (by omega:i=0∨i=1∨i=2∨i=3∨i=4) with rfl|rfl|rfl|rfl|rfl
  · rw [show x * 2 ^ min ((7 * ((0:Nat):Int)).toNat) IntKind.i64.bits=x * 1 from rfl,show (128:Int) ^ 0=1 from rfl,IntKind.wrap_i64];omega
  · rw [show x * 2 ^ min ((7 * ((1:Nat):Int)).toNat) IntKind.i64.bits=x * 128 from rfl,show (128:Int) ^ 1=128 from rfl,IntKind.wrap_i64];omega
  · rw [show x * 2 ^ min ((7 * ((2:Nat):Int)).toNat) IntKind.i64.bits=x * 16384 from rfl,show (128:Int) ^ 2=16384 from rfl,IntKind.wrap_i64];omega
  · rw [show x * 2 ^ min ((7 * ((3:Nat):Int)).toNat) IntKind.i64.bits=x * 2097152 from rfl,show (128:Int) ^ 3=2097152 from rfl,IntKind.wrap_i64];omega
  · rw [show x * 2 ^ min ((7 * ((4:Nat):Int)).toNat) IntKind.i64.bits=x * 268435456 from rfl,show (128:Int) ^ 4=268435456 from rfl,IntKind.wrap_i64];omega
theorem gf_ (s:ByteArray) (a:Int) (h0:0≤a) (h1:a≤(s.size:Int)) (hs:s.size≤9000000000000000000):∀ (d i:Nat) (n:Int),i+d=5→0≤n→n<128 ^ i→Ev (fun k=>impl_ReadVar.l0 k s a n (i:Int)) (rv s a d i n):=by
  intro d
  induction d with
  |zero=>
    intro i n hd hn0 hn1
    refine Ev.step (fun k=>by simp only [impl_ReadVar.l0];rw [if_neg (by omega)]) ?_
    exact Ev.here (f:=fun _=>some (0,0,false)) (fun k=>by simp only [impl_ReadVar.j1,Bool.false_eq_true,if_false]) (fun _=>rfl)
  |succ d ih=>
    intro i n hd hn0 hn1
    have hb:=bt_range s (a+(i:Int))
    have ea:wrap64 (a+(i:Int)+1)=a+(i:Int)+1:=w64 (by omega) (by omega)
    have ew:wrap64 (a+(i:Int))=a+(i:Int):=w64 (by omega) (by omega)
    have ei:wrap64 ((i:Int)+1)=((i+1:Nat):Int):=by rw [w64 (by omega) (by omega)];omega
    have e7:wrap64 (7 * (i:Int))=7 * (i:Int):=w64 (by omega) (by omega)
    have h07:0≤7 * (i:Int):=by omega
    have h0i:0≤a+(i:Int):=by omega
    have hi5:(i:Int)<5:=by omega
    have ec:wrap64 (bt s (a+(i:Int)))=bt s (a+(i:Int)):=w64 (by omega) (by omega)
    have em:Int.tmod (bt s (a+(i:Int))) 128=bt s (a+(i:Int)) % 128:=Int.tmod_eq_emod_of_nonneg hb.1
    have es:shl .i64 (bt s (a+(i:Int)) % 128) (7 * (i:Int))=bt s (a+(i:Int)) % 128 * 128 ^ i:=he_ _ i (by omega) (by omega) (by omega)
    obtain⟨q,hq0,hqn⟩:∃ q,bt s (a+(i:Int)) % 128 * 128 ^ i=q∧(0≤n+q∧n+q<128 ^ (i+1)∧n+q≤9000000000000000000):=by
      have hp:=bq_ i (by omega)
      have hps:(128:Int) ^ (i+1)=128 ^ i * 128:=Int.pow_succ 128 i
      have hq:=cf_ (bt s (a+(i:Int))) i (by omega)
      exact⟨_,rfl,by omega,by omega,by omega⟩
    have en:wrap64 (n+q)=n+q:=w64 (by omega) (by omega)
    have ih:=ih (i+1) (n+q) (by omega) hqn.1 hqn.2.1
    refine Ev.step (fun k=>by simp only [impl_ReadVar.l0];rw [if_pos hi5,ew]) ?_
    unfold rv
    rw [hq0] at es ⊢
    by_cases hin:a+(i:Int)<(s.size:Int)
    · rw [if_pos hin,show decide (a+(i:Int)<(s.size:Int))=true from decide_eq_true hin]
      refine Ev.step (fun k=>by simp only [impl_ReadVar.j1,if_true,ew];rw [if_pos h0i,if_pos hin,e7,if_pos h07,ec,em,es,en,ei,ea]) ?_
      by_cases hc:bt s (a+(i:Int))>127
      · rw [if_pos hc]
        simp only [if_pos hc]
        exact ih
      · rw [if_neg hc]
        simp only [if_neg hc]
        by_cases hi:(i:Int)>0
        · have hi':0<i:=Int.natCast_pos.1 hi
          by_cases hz:bt s (a+(i:Int))=0
          · have hz':(0<i∧bt s (a+(i:Int))=0)∨n+q>1000000000:=.inl ⟨hi',hz⟩
            rw [if_pos hz']
            simp only [if_pos hi,if_pos hz]
            exact Ev.now _
          · by_cases hm:n+q>1000000000
            · have hz':(0<i∧bt s (a+(i:Int))=0)∨n+q>1000000000:=.inr hm
              rw [if_pos hz']
              simp only [if_pos hi,if_neg hz,if_pos hm]
              exact Ev.now _
            · have hz':¬ ((0<i∧bt s (a+(i:Int))=0)∨n+q>1000000000):=fun h=>h.elim (fun h=>hz h.2) hm
              rw [if_neg hz']
              simp only [if_pos hi,if_neg hz,if_neg hm]
              exact Ev.now _
        · have hi':¬ 0<i:=fun h=>hi (Int.natCast_pos.2 h)
          by_cases hm:n+q>1000000000
          · have hz':(0<i∧bt s (a+(i:Int))=0)∨n+q>1000000000:=.inr hm
            rw [if_pos hz']
            simp only [if_neg hi,if_pos hm]
            exact Ev.now _
          · have hz':¬ ((0<i∧bt s (a+(i:Int))=0)∨n+q>1000000000):=fun h=>h.elim (fun h=>hi' h.1) hm
            rw [if_neg hz']
            simp only [if_neg hi,if_neg hm]
            exact Ev.now _
    · rw [if_neg hin,show decide (a+(i:Int)<(s.size:Int))=false from decide_eq_false hin]
      exact Ev.here (f:=fun _=>some (0,0,false)) (fun k=>by simp only [impl_ReadVar.j1,Bool.false_eq_true,if_false]) (fun _=>rfl)
theorem by_ (s:ByteArray) (a:Int) (hs:s.size≤9000000000000000000):Ev (fun k=>impl_ReadVar.f k s a) (af_ s a):=by
  unfold impl_ReadVar.f af_
  simp only [aM_,Option.bind_some]
  cases hr:rng a 0 (s.size:Int) with
  |false=>simp only [Bool.false_eq_true,if_false];exact Ev.now _
  |true=>
    have h:=ab_.1 hr
    simp only [if_true]
    exact gf_ s a h.1 h.2 hs 5 0 0 (by omega) (by omega) (by decide)
theorem fz_ (s:ByteArray) (a:Int) (i:Nat) (h0:0≤a) (hin:a+(i:Int)<(s.size:Int)) (hi:i≤8) (hp:∀ x∈aG_ s a i,128≤x∧x≤255) (hc:bt s (a+(i:Int))≤127) :
    (aj_ (aA_ (aG_ s a (i+1)))=s.extract a.toNat (a+(i:Int)+1).toNat)↔¬ (0<i∧bt s (a+(i:Int))=0):=by
  have hb:=bt_range s (a+(i:Int))
  have e1:bytesOf (aj_ (aA_ (aG_ s a (i+1))))=ak_ 8 (aA_ (aG_ s a (i+1))):=cW_ (dZ_ 8 _)
  have e2:bytesOf (s.extract a.toNat (a+(i:Int)+1).toNat)=aG_ s a (i+1):=by
    have:=fi_ s a (i+1) h0
    rw [show a+((i+1:Nat):Int)=a+(i:Int)+1 by omega] at this
    exact this
  have hs:=bP_ s a i h0 hin
  have hl:=bD_ s a i h0 (by omega)
  constructor
  · intro h ⟨hi0,hz⟩
    have h2:=congrArg bytesOf h
    rw [e1,e2,hs,hz] at h2
    exact fn_ (aG_ s a i) 8 hp (by intro he;rw [he] at hl;simp at hl;omega) h2
  · intro h
    apply aL_
    rw [e1,e2,hs]
    refine fZ_ (aG_ s a i) _ 8 hp hb.1 hc (by omega) ?_
    by_cases hi0:0<i
    · exact .inr (fun hz=>h ⟨hi0,hz⟩)
    · exact .inl (List.length_eq_zero_iff.1 (by omega))
theorem fP_ (s:ByteArray) (a:Int) (h0:0≤a) (h1:a≤(s.size:Int)) (hs:s.size≤9000000000000000000):∀ (d i:Nat),i+d=5→a+(i:Int)≤(s.size:Int)→(∀ x∈aG_ s a i,128≤x∧x≤255) →
    Ev (fun k=>spec_ReadVar.l0 k s a (aA_ (aG_ s a i)) (128 ^ i) (a+(i:Int))) (rv s a d i (aA_ (aG_ s a i))):=by
  have e5:wrap64 (a+5)=a+5:=w64 (by omega) (by omega)
  intro d
  induction d with
  |zero=>
    intro i hd hin hp
    refine Ev.step (f:=fun k=>spec_ReadVar.j1 k s a (aA_ (aG_ s a i)) (128 ^ i) (a+(i:Int)) false) (fun k=>?_) (Ev.here (f:=fun _=>some (0,0,false)) (fun k=>by simp only [spec_ReadVar.j1,Bool.false_eq_true,if_false]) (fun _=>rfl))
    simp only [spec_ReadVar.l0]
    by_cases h:a+(i:Int)<(s.size:Int)
    · rw [if_pos h,e5,show decide (a+(i:Int)<a+5)=false from decide_eq_false (by omega)]
    · rw [if_neg h]
  |succ d ih=>
    intro i hd hin hp
    have hb:=bt_range s (a+(i:Int))
    by_cases hlt:a+(i:Int)<(s.size:Int)
    · have hsucc:=bP_ s a i h0 hlt
      have hval:aA_ (aG_ s a (i+1))=aA_ (aG_ s a i)+bt s (a+(i:Int)) % 128 * 128 ^ i:=by rw [hsucc,dF_,bD_ s a i h0 hin]
      have hv:decide (a+(i:Int)<a+5)=true:=decide_eq_true (by omega)
      have ea:wrap64 (a+(i:Int)+1)=a+(i:Int)+1:=w64 (by omega) (by omega)
      have ec:wrap64 (bt s (a+(i:Int)))=bt s (a+(i:Int)):=w64 (by omega) (by omega)
      have em:Int.tmod (bt s (a+(i:Int))) 128=bt s (a+(i:Int)) % 128:=Int.tmod_eq_emod_of_nonneg hb.1
      have h0i:0≤a+(i:Int):=by omega
      have h01:a≤a+(i:Int)+1:=by omega
      have h02:a+(i:Int)+1≤(s.size:Int):=by omega
      have hi8:i≤8:=by omega
      obtain⟨eq,en,ep⟩:wrap64 (bt s (a+(i:Int)) % 128 * 128 ^ i)=bt s (a+(i:Int)) % 128 * 128 ^ i∧wrap64 (aA_ (aG_ s a i)+bt s (a+(i:Int)) % 128 * 128 ^ i)=aA_ (aG_ s a (i+1))∧wrap64 ((128:Int) ^ i * 128)=128 ^ (i+1):=by
        have hn0:=dk_ (aG_ s a i)
        have hn1:=fR_ (aG_ s a i)
        rw [bD_ s a i h0 hin] at hn1
        have hpb:=bq_ i (by omega)
        have hps:(128:Int) ^ (i+1)=128 ^ i * 128:=Int.pow_succ 128 i
        have hq:=cf_ (bt s (a+(i:Int))) i (by omega)
        rw [hval,hps]
        clear hval hsucc hp ih em ec ea e5 hv
        exact⟨w64 (by omega) (by omega),w64 (by omega) (by omega),w64 (by omega) (by omega)⟩
      have hpn:¬ bt s (a+(i:Int))≤127→∀ x∈aG_ s a (i+1),128≤x∧x≤255:=by
        intro hc x hx
        rw [hsucc] at hx
        rcases List.mem_append.1 hx with hx|hx
        · exact hp x hx
        · simp only [List.mem_singleton] at hx
          subst hx
          exact⟨by omega,hb.2⟩
      have ih:=ih (i+1) (by omega) (by omega)
      rw [show a+((i+1:Nat):Int)=a+(i:Int)+1 by omega] at ih
      have hiff:=fz_ s a i h0 hlt hi8 hp
      have hnn:=dk_ (aG_ s a (i+1))
      refine Ev.step (fun k=>by simp only [spec_ReadVar.l0];rw [if_pos hlt,e5,hv]) ?_
      refine Ev.step (fun k=>by simp only [spec_ReadVar.j1,if_true];rw [if_pos h0i,if_pos hlt,ec,em,eq,en,ep,ea]) ?_
      unfold rv
      rw [if_pos hlt,←hval]
      clear hval eq en ep em ec
      by_cases hc:bt s (a+(i:Int))>127
      · have hc2:¬ bt s (a+(i:Int))<128:=by omega
        rw [if_pos hc]
        simp only [if_neg hc2]
        exact ih (hpn (by omega))
      · have hc2:bt s (a+(i:Int))<128:=by omega
        have hiff:=hiff (by omega)
        rw [if_neg hc]
        simp only [if_pos hc2]
        by_cases hm:aA_ (aG_ s a (i+1))>1000000000
        · have hz':(0<i∧bt s (a+(i:Int))=0)∨aA_ (aG_ s a (i+1))>1000000000:=.inr hm
          rw [if_pos hz']
          simp only [if_pos hm]
          exact Ev.now _
        · simp only [if_neg hm]
          refine Ev.bind (am_ _ hnn (Int.not_lt.1 hm)) ?_
          simp only [if_pos h0,if_pos h01,if_pos h02,ag_]
          by_cases hz:0<i∧bt s (a+(i:Int))=0
          · have hz':(0<i∧bt s (a+(i:Int))=0)∨aA_ (aG_ s a (i+1))>1000000000:=.inl hz
            rw [if_pos hz']
            simp only [if_neg (show ¬ aj_ (aA_ (aG_ s a (i+1)))=s.extract a.toNat (a+(i:Int)+1).toNat from fun h=>hiff.1 h hz)]
            exact Ev.now _
          · have hz':¬ ((0<i∧bt s (a+(i:Int))=0)∨aA_ (aG_ s a (i+1))>1000000000):=fun h=>h.elim hz hm
            rw [if_neg hz']
            simp only [if_pos (hiff.2 hz)]
            exact Ev.now _
    · unfold rv
      rw [if_neg hlt]
      refine Ev.step (f:=fun k=>spec_ReadVar.j1 k s a (aA_ (aG_ s a i)) (128 ^ i) (a+(i:Int)) false) (fun k=>by simp only [spec_ReadVar.l0];rw [if_neg hlt]) (Ev.here (f:=fun _=>some (0,0,false)) (fun k=>by simp only [spec_ReadVar.j1,Bool.false_eq_true,if_false]) (fun _=>rfl))
theorem cK_ (s:ByteArray) (a:Int) (hs:s.size≤9000000000000000000):Ev (fun k=>spec_ReadVar.f k s a) (af_ s a):=by
  unfold spec_ReadVar.f af_
  simp only [bc_,Option.bind_some]
  cases hr:rng a 0 (s.size:Int) with
  |false=>simp only [Bool.false_eq_true,if_false];exact Ev.now _
  |true=>
    have h:=ab_.1 hr
    simp only [if_true]
    have:=fP_ s a h.1 h.2 hs 5 0 (by omega) (by omega) (by unfold aG_;simp)
    have e:aG_ s a 0=[]:=by unfold aG_;simp
    rw [e] at this
    simpa [aA_] using this
theorem gT_ (s:ByteArray) (a:Int) (h0:0≤a):∀ (d i:Nat),i+d=5→a+(i:Int)≤(s.size:Int)→(∀ x∈aG_ s a i,128≤x∧x≤255)→∀ v nx,rv s a d i (aA_ (aG_ s a i))=(v,nx,true) →
    (0≤v∧v≤1000000000)∧(a<nx∧nx≤(s.size:Int))∧s.extract a.toNat nx.toNat=aj_ v:=by
  intro d
  induction d with
  |zero=>intro i _ _ _ v nx h;simp [rv] at h
  |succ d ih=>
    intro i hd hin hp v nx h
    unfold rv at h
    have hb:=bt_range s (a+(i:Int))
    by_cases hlt:a+(i:Int)<(s.size:Int)
    · have hsucc:=bP_ s a i h0 hlt
      have hval:aA_ (aG_ s a (i+1))=aA_ (aG_ s a i)+bt s (a+(i:Int)) % 128 * 128 ^ i:=by rw [hsucc,dF_,bD_ s a i h0 hin]
      rw [if_pos hlt,←hval] at h
      by_cases hc:bt s (a+(i:Int))>127
      · rw [if_pos hc] at h
        exact ih (i+1) (by omega) (by omega) (by
          rw [hsucc]
          intro x hx
          rcases List.mem_append.1 hx with hx|hx
          · exact hp x hx
          · simp only [List.mem_singleton] at hx;omega) v nx h
      · rw [if_neg hc] at h
        by_cases hz:(0<i∧bt s (a+(i:Int))=0)∨aA_ (aG_ s a (i+1))>1000000000
        · rw [if_pos hz] at h
          simp at h
        · rw [if_neg hz] at h
          simp only [Prod.mk.injEq,and_true] at h
          obtain⟨rfl,rfl⟩:=h
          have hn:=dk_ (aG_ s a (i+1))
          have hiff:=fz_ s a i h0 hlt (by omega) hp (by omega)
          refine⟨⟨hn, ?_⟩,⟨by omega,by omega⟩,(hiff.2 (fun h=>hz (.inl h))).symm⟩
          rcases Int.lt_or_le 1000000000 (aA_ (aG_ s a (i+1))) with h|h
          · exact absurd (.inr h) hz
          · exact h
    · rw [if_neg hlt] at h
      simp at h
theorem dK_ {s:ByteArray} {a v nx:Int} (h:af_ s a=(v,nx,true)):(0≤a∧a<nx∧nx≤(s.size:Int))∧(0≤v∧v≤1000000000)∧s.extract a.toNat nx.toNat=aj_ v:=by
  unfold af_ at h
  cases hr:rng a 0 (s.size:Int) with
  |false=>rw [hr] at h;simp at h
  |true=>
    have hh:=ab_.1 hr
    rw [hr,if_pos rfl] at h
    have e:aG_ s a 0=[]:=by unfold aG_;simp
    have:=gT_ s a hh.1 5 0 (by omega) (by omega) (by rw [e];simp) v nx (by rw [e];exact h)
    exact⟨⟨hh.1,this.2.1⟩,this.1,this.2.2⟩
def bK_ (s:ByteArray) (a:Int):ByteArray × Int × Bool:=
  if (af_ s a).2.2=true∧(af_ s a).1≤20000∧(af_ s a).1≤(s.size:Int) - (af_ s a).2.1 then (s.extract (af_ s a).2.1.toNat ((af_ s a).2.1+(af_ s a).1).toNat,(af_ s a).2.1+(af_ s a).1,true) else ((⟨#[]⟩:ByteArray),0,false)
theorem eJ_ (s:ByteArray) (a:Int) (hs:s.size≤9000000000000000000):(if (af_ s a).2.2=true then (if (af_ s a).1>20000 then (some ((⟨#[]⟩:ByteArray),(0:Int),false)) else (if (af_ s a).1>(wrap64 ((s.size:Int) - (af_ s a).2.1)) then (some ((⟨#[]⟩:ByteArray),0,false)) else (if 0≤(af_ s a).2.1 then (if (af_ s a).2.1≤(wrap64 ((af_ s a).2.1+(af_ s a).1)) then (if (wrap64 ((af_ s a).2.1+(af_ s a).1))≤(s.size:Int) then (some (s.extract ((af_ s a).2.1:Int).toNat ((wrap64 ((af_ s a).2.1+(af_ s a).1)):Int).toNat,wrap64 ((af_ s a).2.1+(af_ s a).1),true)) else (none)) else (none)) else (none)))) else (some ((⟨#[]⟩:ByteArray),0,false)))=some (bK_ s a):=by
  unfold bK_
  by_cases hk:(af_ s a).2.2=true
  · have hv:=dK_ (s:=s) (a:=a) (v:=(af_ s a).1) (nx:=(af_ s a).2.1) (by rw [←hk])
    obtain⟨⟨h0,h4,h5⟩,⟨h6,h8⟩,h7⟩:=hv
    rw [if_pos hk,w64 (x:=(s.size:Int) - (af_ s a).2.1) (by omega) (by omega)]
    by_cases h1:(af_ s a).1>20000
    · rw [if_pos h1,if_neg (by omega)]
    · rw [if_neg h1]
      by_cases h2:(af_ s a).1>(s.size:Int) - (af_ s a).2.1
      · rw [if_pos h2,if_neg (by omega)]
      · rw [if_neg h2,if_pos (by omega),w64 (x:=(af_ s a).2.1+(af_ s a).1) (by omega) (by omega),if_pos (by omega),if_pos (by omega),if_pos ⟨hk,by omega,by omega⟩]
  · rw [if_neg hk,if_neg (fun h=>hk h.1)]
theorem bW_ (s:ByteArray) (a:Int) (hs:s.size≤9000000000000000000):Ev (fun k=>impl_ReadShort.f k s a) (bK_ s a):=by
  unfold impl_ReadShort.f
  refine Ev.bind (by_ s a hs) ?_
  simp only [eJ_ s a hs]
  exact Ev.now _
def bd_ (s:ByteArray) (a:Int) (b:Bool):Int × ByteArray × Int × Bool:=if b=true then (0,s,a,true) else if (af_ s a).2.2=true then ((af_ s a).1,s,(af_ s a).2.1,false) else (0,s,a,true)
def eO_ (s:ByteArray) (a:Int) (b:Bool):ByteArray × ByteArray × Int × Bool:=if b=true then ((⟨#[]⟩:ByteArray),s,a,true) else if (bK_ s a).2.2=true then ((bK_ s a).1,s,(bK_ s a).2.1,false) else ((⟨#[]⟩:ByteArray),s,a,true)
theorem bB_ (s:ByteArray) (a:Int) (b:Bool) (hs:s.size≤9000000000000000000):Ev (fun k=>impl_scan_number.f k s a b) (bd_ s a b):=by
  unfold impl_scan_number.f bd_
  refine Ev.bind (by_ s a hs) ?_
  cases b
  · by_cases h:(af_ s a).2.2=true
    · simp only [Bool.false_eq_true,if_false,if_pos h];exact Ev.now _
    · simp only [Bool.false_eq_true,if_false,if_neg h];exact Ev.now _
  · simp only [if_true];exact Ev.now _
theorem bG_ (s:ByteArray) (a:Int) (b:Bool) (hs:s.size≤9000000000000000000):Ev (fun k=>impl_scan_short.f k s a b) (eO_ s a b):=by
  unfold impl_scan_short.f eO_
  refine Ev.bind (bW_ s a hs) ?_
  cases b
  · by_cases h:(bK_ s a).2.2=true
    · simp only [Bool.false_eq_true,if_false,if_pos h];exact Ev.now _
    · simp only [Bool.false_eq_true,if_false,if_neg h];exact Ev.now _
  · simp only [if_true];exact Ev.now _
def gQ_ (s:ByteArray) (p:ByteArray) (a:Int) (b:Bool):Prop:=b=true∨(b=false∧0≤a∧a≤(s.size:Int)∧s.extract 0 a.toNat=p)
theorem fo_ (s:ByteArray) (a b:Nat) (h:a≤b):s.extract 0 a ++ s.extract a b=s.extract 0 b:=by
  apply aL_
  rw [aE_,aW_,aW_,aW_,List.drop_zero,show b - 0=a+(b - a) by omega,List.take_add,Nat.sub_zero]
theorem fr_ {s p:ByteArray} {a:Int} {b:Bool} (h:gQ_ s p a b):(bd_ s a b).2.1=s∧gQ_ s (p ++ aj_ (bd_ s a b).1) (bd_ s a b).2.2.1 (bd_ s a b).2.2.2∧(0≤(bd_ s a b).1∧(bd_ s a b).1≤1000000000):=by
  unfold bd_
  rcases h with rfl|⟨rfl,h0,h1,h2⟩
  · rw [if_pos rfl];exact⟨rfl,.inl rfl,(show (0:Int)≤0∧(0:Int)≤1000000000 by omega)⟩
  · rw [if_neg (by simp)]
    by_cases hk:(af_ s a).2.2=true
    · rw [if_pos hk]
      have hv:=dK_ (s:=s) (a:=a) (v:=(af_ s a).1) (nx:=(af_ s a).2.1) (by rw [←hk])
      refine⟨rfl,.inr ⟨rfl,(show 0≤(af_ s a).2.1 by omega),(show (af_ s a).2.1≤(s.size:Int) by omega), ?_⟩,hv.2.1⟩
      show s.extract 0 (af_ s a).2.1.toNat=p ++ aj_ (af_ s a).1
      rw [←hv.2.2,←h2,fo_ s _ _ (by omega)]
    · rw [if_neg hk];exact⟨rfl,.inl rfl,(show (0:Int)≤0∧(0:Int)≤1000000000 by omega)⟩
theorem fh_ (s:ByteArray) (a:Int):impl_scan_done.f s a true=some (false,s,a,true):=by unfold impl_scan_done.f;rw [if_pos rfl]
theorem ey_ (s:ByteArray) (a:Int):impl_scan_done.f s a false=some ((a == (s.size:Int)),s,a,false):=by unfold impl_scan_done.f;rw [if_neg (by simp)]

/-! ### sz -/
def pS (a:List S76) (j:Nat):Bool:=
  rng (rd_T76 a j).f0 1 1000000 && (!(decide ((j:Int)>0) && decide ((rd_T76 a ((j:Int) - 1)).f0≥(rd_T76 a j).f0)) && (rng (rd_T76 a j).f1 0 1000000 && (decide (((rd_T76 a j).f2.size:Int)≤40) && (!decide ((rd_T76 a j).f1=0) || decide ((rd_T76 a j).f2.toList=([]:List UInt8))))))
def pI (a:List S79) (j:Nat):Bool:=
  rng ((rd_T79 a j).f0.size:Int) 1 8 && ((!decide ((j:Int)>0) || Op.bytesLess (rd_T79 a ((j:Int) - 1)).f0.toList (rd_T79 a j).f0.toList) && (decide (((rd_T79 a j).f1.size:Int)≤20) && rng (rd_T79 a j).f2 1 1000000000))
def aT_ (a:List S76) (b:List S79):Bool:=
  (cH_ (pS a) 0 a.length && decide ((a.length:Int)≤3)) && (cH_ (pI b) 0 b.length && decide ((b.length:Int)≤8))
theorem gt_ {x:Int}:(x>40)=¬ (x≤40):=by simp
theorem fg_ {x:Int}:(x>20)=¬ (x≤20):=by simp
theorem eC_ (a:List S76) (ha:a.length≤1048576):Ev (fun k=>spec_l15Sessions.f k a) (cH_ (pS a) 0 a.length && decide ((a.length:Int)≤3)):=by
  refine dv_ (F:=fun k j=>spec_l15Sessions.l0 k a (j:Int)) (n:=a.length) (fun j hj=>?_) ?_ a.length 0 (by omega) (by omega)
  · have es:∀ k,spec_l15Sessions.l0 (k+1) a (j:Int)=spec_l15Sessions.j1 k a (j:Int) (!pS a j):=fun k=>by
      simp only [spec_l15Sessions.l0]
      rw [if_pos (by omega),if_pos (by omega)]
      simp only [bc_,Option.bind_some,gt_]
      rw [w64 (x:=(j:Int) - 1) (by omega) (by omega)]
      unfold pS
      by_cases h0:(j:Int)>0
      · simp only [h0,show (0:Int)≤(j:Int) - 1 by omega,show (j:Int) - 1<(a.length:Int) by omega,if_true]
        cases h1:rng (rd_T76 a j).f0 1 1000000 <;> cases h2:rng (rd_T76 a j).f1 0 1000000 <;>
          by_cases h3:(rd_T76 a ((j:Int) - 1)).f0≥(rd_T76 a j).f0 <;> by_cases h4:((rd_T76 a j).f2.size:Int)≤40 <;>
          by_cases h5:(rd_T76 a j).f1=0 <;> by_cases h6:(rd_T76 a j).f2.toList=([]:List UInt8) <;> simp [h1,h2,h3,h4,h5,h6] <;> exact congrArg (spec_l15Sessions.j1 k a (j:Int)) (bne_iff_ne.2 h6)
      · simp only [h0,if_false]
        cases h1:rng (rd_T76 a j).f0 1 1000000 <;> cases h2:rng (rd_T76 a j).f1 0 1000000 <;>
          by_cases h4:((rd_T76 a j).f2.size:Int)≤40 <;>
          by_cases h5:(rd_T76 a j).f1=0 <;> by_cases h6:(rd_T76 a j).f2.toList=([]:List UInt8) <;> simp [h1,h2,h4,h5,h6] <;> exact congrArg (spec_l15Sessions.j1 k a (j:Int)) (bne_iff_ne.2 h6)
    have e2:wrap64 ((j:Int)+1)=((j+1:Nat):Int):=by rw [w64 (by omega) (by omega)];omega
    refine⟨fun hp r hr=>Ev.step (fun k=>by rw [es,hp]) (Ev.step (fun k=>by simp only [spec_l15Sessions.j1,Bool.not_true,Bool.false_eq_true,if_false,e2]) hr),fun hp=>Ev.step (fun k=>by rw [es,hp]) (Ev.here (f:=fun _=>some false) (fun k=>by simp only [spec_l15Sessions.j1,Bool.not_false,if_true]) (fun _=>rfl))⟩
  · exact Ev.here (f:=fun _=>some (decide ((a.length:Int)≤3))) (fun k=>by simp only [spec_l15Sessions.l0];rw [if_neg (by omega)]) (fun _=>rfl)
theorem aY_ (a:List S76) (b:List S79) (ha:a.length≤1048576) (hb:b.length≤1048576):Ev (fun k=>spec_KeepOk.f k a b) (aT_ a b):=by
  have hfin:Ev (fun k=>spec_KeepOk.l0 k ((b.length:Nat):Int) a b) (cH_ (pS a) 0 a.length && decide ((a.length:Int)≤3) && decide ((b.length:Int)≤8)):=by
    refine Ev.step (fun k=>by simp only [spec_KeepOk.l0];rw [if_neg (by omega)]) ?_
    refine Ev.bind (eC_ a ha) ?_
    cases cH_ (pS a) 0 a.length && decide ((a.length:Int)≤3)
    · simpa using Ev.now false
    · simpa using Ev.now (decide ((b.length:Int)≤8))
  have h:=dv_ (F:=fun k j=>spec_KeepOk.l0 k (j:Int) a b) (p:=pI b) (n:=b.length) (fun j hj=>?_) hfin b.length 0 (by omega) (by omega)
  · have e:aT_ a b=(cH_ (pI b) 0 b.length && (cH_ (pS a) 0 a.length && decide ((a.length:Int)≤3) && decide ((b.length:Int)≤8))):=by
      unfold aT_
      cases cH_ (pI b) 0 b.length <;> cases cH_ (pS a) 0 a.length && decide ((a.length:Int)≤3) <;> simp
    rw [e]
    exact h
  · have es:∀ k,spec_KeepOk.l0 (k+1) (j:Int) a b=spec_KeepOk.j1 k (j:Int) (!pI b j) a b:=fun k=>by
      simp only [spec_KeepOk.l0]
      rw [if_pos (by omega),if_pos (by omega)]
      simp only [bc_,Option.bind_some,fg_]
      rw [w64 (x:=(j:Int) - 1) (by omega) (by omega)]
      unfold pI
      by_cases h0:(j:Int)>0
      · simp only [h0,show (0:Int)≤(j:Int) - 1 by omega,show (j:Int) - 1<(b.length:Int) by omega,if_true]
        cases h1:rng ((rd_T79 b j).f0.size:Int) 1 8 <;> cases h2:rng (rd_T79 b j).f2 1 1000000000 <;>
          cases h3:Op.bytesLess (rd_T79 b ((j:Int) - 1)).f0.toList (rd_T79 b j).f0.toList <;> by_cases h4:((rd_T79 b j).f1.size:Int)≤20 <;> simp [h1,h2,h3,h4]
      · simp only [h0,if_false]
        cases h1:rng ((rd_T79 b j).f0.size:Int) 1 8 <;> cases h2:rng (rd_T79 b j).f2 1 1000000000 <;>
          by_cases h4:((rd_T79 b j).f1.size:Int)≤20 <;> simp [h1,h2,h4]
    have e2:wrap64 ((j:Int)+1)=((j+1:Nat):Int):=by rw [w64 (by omega) (by omega)];omega
    refine⟨fun hp r hr=>Ev.step (fun k=>by rw [es,hp]) (Ev.step (fun k=>by simp only [spec_KeepOk.j1,Bool.not_true,Bool.false_eq_true,if_false,e2]) hr),fun hp=>Ev.step (fun k=>by rw [es,hp]) (Ev.here (f:=fun _=>some false) (fun k=>by simp only [spec_KeepOk.j1,Bool.not_false,if_true]) (fun _=>rfl))⟩

/-! ### keeptext -/
def gA_ (x:S76):ByteArray:=aj_ x.f0 ++ aj_ x.f1 ++ aa_ x.f2
def gm_ (x:S79):ByteArray:=aa_ x.f0 ++ aa_ x.f1 ++ aj_ x.f2
def eT_ (a:List S76) (b:List S79):ByteArray:=aj_ (a.length:Int) ++ bZ_ gA_ a ++ (aj_ (b.length:Int) ++ bZ_ gm_ b)
theorem aK_ {a:List S76} {b:List S79} (h:aT_ a b=true):(a.length≤3∧b.length≤8) ∧
    (∀ j (hj:j<a.length),(1≤a[j].f0∧a[j].f0≤1000000)∧(0≤a[j].f1∧a[j].f1≤1000000)∧a[j].f2.size≤40)∧(∀ j (hj:j<b.length),b[j].f0.size≤8∧b[j].f1.size≤20∧(1≤b[j].f2∧b[j].f2≤1000000000)):=by
  unfold aT_ at h
  simp only [Bool.and_eq_true,decide_eq_true_eq] at h
  obtain⟨⟨hs,ha⟩,hi,hb⟩:=h
  refine⟨⟨by omega,by omega⟩,fun j hj=>?_,fun j hj=>?_⟩
  · have:=bE_ _ _ hs j (by omega) (by omega)
    unfold pS at this
    have hget:rd_T76 a (j:Int)=a[j]:=by unfold rd_T76;exact bb_ _ hj
    simp only [Bool.and_eq_true,ab_,decide_eq_true_eq,hget] at this
    omega
  · have:=bE_ _ _ hi j (by omega) (by omega)
    unfold pI at this
    have hget:rd_T79 b (j:Int)=b[j]:=by unfold rd_T79;exact bb_ _ hj
    simp only [Bool.and_eq_true,ab_,decide_eq_true_eq,hget] at this
    omega
theorem cr_ (a:List S76) (b:List S79) (h:aT_ a b=true):∀ (d j:Nat) (acc:ByteArray),b.length - j=d→j≤b.length→acc.size≤10000+100 * j→Ev (fun k=>spec_KeepText.l1 k acc (j:Int) a b) (acc ++ bZ_ gm_ (b.drop j),true):=by
  obtain⟨⟨_,hl⟩,_,hI⟩:=aK_ h
  intro d
  induction d with
  |zero=>
    intro j acc hd hj ha
    rw [List.drop_of_length_le (by omega)]
    simp only [bZ_,aq_]
    exact Ev.step (f:=fun _=>some (acc,true)) (fun k=>by simp only [spec_KeepText.l1];rw [if_neg (by omega)]) (Ev.now _)
  |succ d ih=>
    intro j acc hd hj ha
    have hjl:j<b.length:=by omega
    obtain⟨h1,h2,h3⟩:=hI j hjl
    have hget:rd_T79 b (j:Int)=b[j]:=by unfold rd_T79;exact bb_ _ hjl
    refine Ev.step (fun k=>rfl) ?_
    simp only [spec_KeepText.l1,if_pos (show (j:Int)<(b.length:Int) by omega),if_pos (show (0:Int)≤(j:Int) by omega),hget,w64 (x:=(j:Int)+1) (by omega) (by omega)]
    have s1:=ae_ b[j].f0
    have s2:=ae_ b[j].f1
    have s3:=ac_ b[j].f2
    refine Ev.bind (bs_ b[j].f0 (by omega)) ?_
    simp only [if_pos (show acc.size+(aa_ b[j].f0).size≤9223372036854775807 by omega)]
    refine Ev.bind (bs_ b[j].f1 (by omega)) ?_
    simp only [if_pos (show (acc ++ aa_ b[j].f0).size+(aa_ b[j].f1).size≤9223372036854775807 by rw [ByteArray.size_append];omega)]
    refine Ev.bind (am_ b[j].f2 (by omega) (by omega)) ?_
    simp only [if_pos (show (acc ++ aa_ b[j].f0 ++ aa_ b[j].f1).size+(aj_ b[j].f2).size≤9223372036854775807 by rw [ByteArray.size_append,ByteArray.size_append];omega)]
    have:=ih (j+1) (acc ++ aa_ b[j].f0 ++ aa_ b[j].f1 ++ aj_ b[j].f2) (by omega) (by omega) (by rw [ByteArray.size_append,ByteArray.size_append,ByteArray.size_append];omega)
    rw [List.drop_eq_getElem_cons hjl,bZ_,gm_]
    simp only [ByteArray.append_assoc] at this ⊢
    exact this
theorem cP_ (a:List S76) (b:List S79) (h:aT_ a b=true):∀ (d j:Nat) (acc:ByteArray),a.length - j=d→j≤a.length→acc.size≤1000+100 * j→Ev (fun k=>spec_KeepText.l0 k acc (j:Int) a b) (acc ++ bZ_ gA_ (a.drop j) ++ (aj_ (b.length:Int) ++ bZ_ gm_ b),true):=by
  obtain⟨⟨hl,hl2⟩,hS,_⟩:=aK_ h
  intro d
  induction d with
  |zero=>
    intro j acc hd hj ha
    rw [List.drop_of_length_le (by omega)]
    simp only [bZ_,aq_]
    have s0:=ac_ (b.length:Int)
    refine Ev.step (fun k=>rfl) ?_
    simp only [spec_KeepText.l0,if_neg (show ¬ (j:Int)<(a.length:Int) by omega)]
    refine Ev.bind (am_ (b.length:Int) (by omega) (by omega)) ?_
    simp only [if_pos (show acc.size+(aj_ (b.length:Int)).size≤9223372036854775807 by omega)]
    have:=cr_ a b h b.length 0 (acc ++ aj_ (b.length:Int)) (by omega) (by omega) (by rw [ByteArray.size_append];omega)
    simp only [List.drop_zero,ByteArray.append_assoc] at this
    exact this
  |succ d ih=>
    intro j acc hd hj ha
    have hjl:j<a.length:=by omega
    obtain⟨h1,h2,h3⟩:=hS j hjl
    have hget:rd_T76 a (j:Int)=a[j]:=by unfold rd_T76;exact bb_ _ hjl
    refine Ev.step (fun k=>rfl) ?_
    simp only [spec_KeepText.l0,if_pos (show (j:Int)<(a.length:Int) by omega),if_pos (show (0:Int)≤(j:Int) by omega),hget,w64 (x:=(j:Int)+1) (by omega) (by omega)]
    have s1:=ac_ a[j].f0
    have s2:=ac_ a[j].f1
    have s3:=ae_ a[j].f2
    refine Ev.bind (am_ a[j].f0 (by omega) (by omega)) ?_
    simp only [if_pos (show acc.size+(aj_ a[j].f0).size≤9223372036854775807 by omega)]
    refine Ev.bind (am_ a[j].f1 (by omega) (by omega)) ?_
    simp only [if_pos (show (acc ++ aj_ a[j].f0).size+(aj_ a[j].f1).size≤9223372036854775807 by rw [ByteArray.size_append];omega)]
    refine Ev.bind (bs_ a[j].f2 (by omega)) ?_
    simp only [if_pos (show (acc ++ aj_ a[j].f0 ++ aj_ a[j].f1).size+(aa_ a[j].f2).size≤9223372036854775807 by rw [ByteArray.size_append,ByteArray.size_append];omega)]
    have:=ih (j+1) (acc ++ aj_ a[j].f0 ++ aj_ a[j].f1 ++ aa_ a[j].f2) (by omega) (by omega) (by rw [ByteArray.size_append,ByteArray.size_append,ByteArray.size_append];omega)
    rw [List.drop_eq_getElem_cons hjl,bZ_,gA_]
    simp only [ByteArray.append_assoc] at this ⊢
    exact this
theorem av_ (a:List S76) (b:List S79) (ha:a.length≤1048576) (hb:b.length≤1048576):Ev (fun k=>spec_KeepText.f k a b) (if aT_ a b=true then (eT_ a b,true) else ((⟨#[]⟩:ByteArray),false)):=by
  unfold spec_KeepText.f
  refine Ev.bind (aY_ a b ha hb) ?_
  by_cases h:aT_ a b=true
  · have s0:=ac_ (a.length:Int)
    simp only [if_pos h]
    refine Ev.bind (am_ (a.length:Int) (by omega) (by omega)) ?_
    have:=cP_ a b h a.length 0 (aj_ (a.length:Int)) (by omega) (by omega) (by omega)
    simp only [List.drop_zero] at this
    exact this
  · simp only [if_neg h]
    exact Ev.now _

/-! ### readkeep -/
theorem gs_ (s:ByteArray) (a:Int) (b:Bool):(bd_ s a b).2.1=s:=by
  unfold bd_
  split
  · rfl
  · split <;> rfl
theorem gN_ (s:ByteArray) (a:Int) (b:Bool):(eO_ s a b).2.1=s:=by
  unfold eO_
  split
  · rfl
  · split <;> rfl
theorem dj_ {s:ByteArray} {p:Nat} {x:Int} {l:List Int} (h:(bytesOf s).drop p=x :: l):p<s.size∧bt s (p:Int)=x∧(bytesOf s).drop (p+1)=l:=by
  have hl:p<(bytesOf s).length:=by
    rcases Nat.lt_or_ge p (bytesOf s).length with h1|h1
    · exact h1
    · rw [List.drop_of_length_le h1] at h;cases h
  rw [List.drop_eq_getElem_cons hl] at h
  injection h with h1 h2
  refine⟨by rw [←bytesOf_length];exact hl, ?_,h2⟩
  rw [cl_,←h1]
  unfold rd
  simp [List.getD_eq_getElem?_getD,List.getElem?_eq_getElem hl]
theorem gD_ (s:ByteArray) (p:Nat) (X:Int) (hX:X≤1000000000) (rest:List Int):∀ (d i m:Nat) (x n:Int),i+d=5→d≤m→1≤d→0≤x→n+x * 128 ^ i=X→(i=0∨1≤x)→x<128 ^ d→(bytesOf s).drop (p+i)=ak_ m x ++ rest →
    rv s (p:Int) d i n=(X,((p+i+(ak_ m x).length:Nat):Int),true):=by
  intro d
  induction d with
  |zero=>intro i m x n _ _ h;omega
  |succ d ih=>
    intro i m x n hi hm _ hx hn hz hd hb
    obtain⟨m,rfl⟩:∃ q,m=q+1:=⟨m - 1,by omega⟩
    have hs:(128:Int) ^ (i+1)=128 ^ i * 128:=Int.pow_succ 128 i
    have hsd:(128:Int) ^ (d+1)=128 ^ d * 128:=Int.pow_succ 128 d
    have ep:(p:Int)+(i:Int)=((p+i:Nat):Int):=by omega
    unfold rv
    rw [ep]
    unfold ak_ at hb ⊢
    by_cases h:x>127
    · simp only [if_pos h,List.cons_append] at hb ⊢
      obtain⟨h1,h2,h3⟩:=dj_ hb
      rw [if_pos (by omega),h2,if_pos (by omega)]
      have e1:(x % 128+128) % 256 % 128=x % 128:=by omega
      rw [e1]
      have hd1:1≤d:=by
        rcases Nat.eq_zero_or_pos d with h0|h0
        · subst h0
          rw [show (128:Int) ^ (0+1)=128 from rfl] at hd
          omega
        · exact h0
      have e2:n+x % 128 * 128 ^ i+x / 128 * 128 ^ (i+1)=X:=by
        rw [←hn,hs]
        generalize (128:Int) ^ i=P
        have e3:x=128 * (x / 128)+x % 128:=by omega
        have e4:x * P=(128 * (x / 128)) * P+x % 128 * P:=by rw [←Int.add_mul,←e3]
        have e5:x / 128 * (P * 128)=(128 * (x / 128)) * P:=by rw [Int.mul_comm P 128,←Int.mul_assoc,Int.mul_comm (x / 128) 128]
        omega
      have e6:x / 128<128 ^ d:=by
        rw [hsd] at hd
        generalize (128:Int) ^ d=P at hd ⊢
        omega
      have:=ih (i+1) m (x / 128) (n+x % 128 * 128 ^ i) (by omega) (by omega) hd1 (by omega) e2 (.inr (by omega)) e6 (by rw [show p+(i+1)=p+i+1 by omega];exact h3)
      rw [this]
      congr 2
      simp only [List.length_cons]
      omega
    · simp only [if_neg h,List.cons_append,List.nil_append] at hb ⊢
      obtain⟨h1,h2,h3⟩:=dj_ hb
      rw [if_pos (by omega),h2]
      have e0:x % 256=x:=by omega
      have e1:x % 128=x:=by omega
      rw [e0] at h2
      rw [if_neg (by omega),e0,e1,hn]
      have hc:¬ ((0<i∧x=0)∨X>1000000000):=by omega
      rw [if_neg hc]
      congr 2
theorem cS_ {s:ByteArray} {p:Nat} {X:Int} {rest:List Int} (h0:0≤X) (h1:X≤1000000000) (hb:(bytesOf s).drop p=ak_ 8 X ++ rest):af_ s (p:Int)=(X,((p+(ak_ 8 X).length:Nat):Int),true):=by
  unfold af_
  have hl:ak_ 8 X≠[]:=by unfold ak_;split <;> simp
  have hp:p<s.size:=by
    cases hc:ak_ 8 X with
    |nil=>exact absurd hc hl
    |cons x l=>rw [hc,List.cons_append] at hb;exact(dj_ hb).1
  rw [if_pos (ab_.2 ⟨by omega,by omega⟩)]
  have h2:X<128 ^ 5:=by
    rw [show (128:Int) ^ 5=34359738368 from rfl]
    omega
  have:=gD_ s p X h1 rest 5 0 8 X 0 (by omega) (by omega) (by omega) h0 (by rw [show (128:Int) ^ 0=1 from rfl];omega) (.inl rfl) h2 hb
  exact this
theorem dt_ {s:ByteArray} {p:Nat} {X:Int} {rest:List Int} (h0:0≤X) (h1:X≤1000000000) (hb:(bytesOf s).drop p=ak_ 8 X ++ rest):bd_ s (p:Int) false=(X,s,((p+(ak_ 8 X).length:Nat):Int),false)∧(bytesOf s).drop (p+(ak_ 8 X).length)=rest:=by
  refine⟨?_, ?_⟩
  · unfold bd_
    rw [cS_ h0 h1 hb]
    simp
  · rw [←List.drop_drop,hb,List.drop_left]

/-! ### samekeep -/
theorem eV_:∀ d x,∀ y∈ak_ d x,0≤y∧y≤255:=by
  intro d
  induction d with
  |zero=>
    intro x y hy
    simp only [ak_,List.mem_singleton] at hy
    omega
  |succ d ih=>
    intro x y hy
    unfold ak_ at hy
    split at hy
    · rcases List.mem_cons.1 hy with h|h
      · omega
      · exact ih _ y h
    · rw [List.mem_singleton] at hy
      omega
theorem blV (x:Int):bytesOf (aj_ x)=ak_ 8 x:=cW_ (eV_ 8 x)
theorem dz_ (d:Nat) (x:Int):0<(ak_ d x).length:=by
  cases d with
  |zero=>simp [ak_]
  |succ d=>unfold ak_;split <;> simp
theorem eN_ {s t:ByteArray} {p:Nat} {rest:List Int} (ht:t.size≤1000) (hb:(bytesOf s).drop p=bytesOf (aa_ t) ++ rest):eO_ s (p:Int) false=(t,s,((p+(bytesOf (aa_ t)).length:Nat):Int),false)∧(bytesOf s).drop (p+(bytesOf (aa_ t)).length)=rest:=by
  refine⟨?_,by rw [←List.drop_drop,hb,List.drop_left]⟩
  have e:bytesOf (aa_ t)=ak_ 8 (t.size:Int) ++ bytesOf t:=by unfold aa_;rw [aE_,blV]
  rw [e] at hb ⊢
  rw [List.append_assoc] at hb
  have hl0:=congrArg List.length hb
  rw [List.length_drop,List.length_append,List.length_append,bytesOf_length,bytesOf_length] at hl0
  have hp0:=dz_ 8 (t.size:Int)
  have hv:=cS_ (X:=(t.size:Int)) (by omega) (by omega) hb
  have hd2:(bytesOf s).drop (p+(ak_ 8 (t.size:Int)).length)=bytesOf t ++ rest:=by rw [←List.drop_drop,hb,List.drop_left]
  have hx:s.extract (p+(ak_ 8 (t.size:Int)).length) (p+(ak_ 8 (t.size:Int)).length+t.size)=t:=by
    apply aL_
    rw [aW_,hd2,show p+(ak_ 8 (t.size:Int)).length+t.size - (p+(ak_ 8 (t.size:Int)).length)=(bytesOf t).length by rw [bytesOf_length];omega,List.take_left]
  have hr:bK_ s (p:Int)=(t,((p+((ak_ 8 (t.size:Int)).length+t.size):Nat):Int),true):=by
    unfold bK_
    rw [hv]
    have c1:(t.size:Int)≤20000:=by omega
    have c2:(t.size:Int)≤(s.size:Int) - ((p+(ak_ 8 (t.size:Int)).length:Nat):Int):=by omega
    rw [if_pos ⟨rfl,c1,c2⟩]
    rw [show ((p+(ak_ 8 (t.size:Int)).length:Nat):Int).toNat=p+(ak_ 8 (t.size:Int)).length by omega,show (((p+(ak_ 8 (t.size:Int)).length:Nat):Int)+(t.size:Int)).toNat=p+(ak_ 8 (t.size:Int)).length+t.size by omega,hx]
    rw [show ((p+(ak_ 8 (t.size:Int)).length:Nat):Int)+(t.size:Int)=((p+((ak_ 8 (t.size:Int)).length+t.size):Nat):Int) by omega]
  unfold eO_
  rw [hr]
  simp only [Bool.false_eq_true,if_false,if_true]
  rw [List.length_append,bytesOf_length]
theorem cj_ {s:ByteArray} {p:Nat} {X:Int} {rest:List Int} (h0:0≤X∧X≤1000000000) (hb:(bytesOf s).drop p=bytesOf (aj_ X) ++ rest):bd_ s (p:Int) false=(X,s,((p+(bytesOf (aj_ X)).length:Nat):Int),false)∧(bytesOf s).drop (p+(bytesOf (aj_ X)).length)=rest:=by
  rw [blV] at hb ⊢
  exact dt_ h0.1 h0.2 hb
def Cur (b:List Int) (i:Int):Prop:=0≤i∧i≤(b.length:Int)
theorem ff_ (b:List Int):∀ (d:Nat) (i x:Int),0≤i→i≤4000→4000 - i≤d→∃ h,∀ k,d<k→spec_l01New.l0 k b x i=some (b,0,h):=by
  intro d
  induction d with
  |zero=>
    intro i x h0 h1 hd
    refine⟨x,fun k hk=>?_⟩
    obtain⟨k,rfl⟩:∃ m,k=m+1:=⟨k - 1,by omega⟩
    simp only [spec_l01New.l0]
    by_cases hl:i<(b.length:Int)
    · rw [if_pos hl,if_neg (by omega)]
    · rw [if_neg hl]
  |succ d ih=>
    intro i x h0 h1 hd
    by_cases hl:i<(b.length:Int)∧i<4000
    · obtain⟨h,ih⟩:=ih (i+1) (Go.bits .and .i64 (wrap64 ((wrap64 ((wrap64 (x * 131))+(wrap64 (rd b i))))+7)) 1073741823) (by omega) (by omega) (by omega)
      refine⟨h,fun k hk=>?_⟩
      obtain⟨k,rfl⟩:∃ m,k=m+1:=⟨k - 1,by omega⟩
      simp only [spec_l01New.l0]
      rw [if_pos hl.1,if_pos hl.2,if_pos h0,w64 (x:=i+1) (by omega) (by omega)]
      exact ih k (by omega)
    · refine⟨x,fun k hk=>?_⟩
      obtain⟨k,rfl⟩:∃ m,k=m+1:=⟨k - 1,by omega⟩
      simp only [spec_l01New.l0]
      by_cases hl2:i<(b.length:Int)
      · rw [if_pos hl2,if_neg (by omega)]
      · rw [if_neg hl2]
theorem fC_ (b:List Int):∃ h,Ev (fun k=>spec_l01New.f k b) (b,0,h):=by
  obtain⟨h,hk⟩:=ff_ b 4000 0 (wrap64 (37401+(b.length:Int))) (by omega) (by omega) (by omega)
  exact⟨h,4001,fun k h1=>hk k (by omega)⟩
theorem dy_ (b:List Int):Cur b 0:=⟨by omega,by omega⟩
theorem bp_ {b:List Int} {i:Int} (h:Int) (hb:b.length≤1048576) (hi:Cur b i):∃ v i' h',spec_l01Byte.f b i h=some (v,i',h')∧(0≤v∧v≤255)∧Cur b i':=by
  obtain⟨h0,h1⟩:=hi
  unfold spec_l01Byte.f
  by_cases hl:i<(b.length:Int)
  · rw [if_pos hl,if_pos h0]
    refine⟨_,_,_,rfl, ?_, ?_⟩
    · rw [en_];omega
    · rw [w64 (by omega) (by omega)];exact⟨by omega,by omega⟩
  · rw [if_neg hl]
    refine⟨_,_,_,rfl, ?_,h0,h1⟩
    rw [en_];omega
theorem bx_ {x n:Int} (hx:0≤x) (hn:0<n):0≤Int.tmod x n∧Int.tmod x n<n:=by
  rw [Int.tmod_eq_emod_of_nonneg hx]
  exact⟨Int.emod_nonneg _ (by omega),Int.emod_lt_of_pos _ hn⟩
theorem bz_ {b:List Int} {i:Int} (h n:Int) (hb:b.length≤1048576) (hi:Cur b i):∃ v i' h',spec_l01Below.f b i h n=some (v,i',h')∧(0≤v∧(0<n→v<n)∧(n≤0→v=0))∧Cur b i':=by
  unfold spec_l01Below.f
  by_cases hn:n≤0
  · rw [if_pos hn]
    exact⟨0,i,h,rfl,⟨by omega,fun h=>by omega,fun _=>rfl⟩,hi⟩
  · rw [if_neg hn]
    by_cases hs:n≤256
    · rw [if_pos hs]
      obtain⟨v,i',h',e,hv,hi'⟩:=bp_ h hb hi
      rw [e]
      simp only [Option.bind_some]
      rw [if_neg (by omega)]
      have:=bx_ hv.1 (show 0<n by omega)
      exact⟨_,_,_,rfl,⟨this.1,fun _=>this.2,fun h=>absurd h hn⟩,hi'⟩
    · rw [if_neg hs]
      obtain⟨v1,i1,h1,e1,hv1,hi1⟩:=bp_ h hb hi
      rw [e1]
      simp only [Option.bind_some]
      obtain⟨v2,i2,h2,e2,hv2,hi2⟩:=bp_ h1 hb hi1
      rw [e2]
      simp only [Option.bind_some]
      obtain⟨v3,i3,h3,e3,hv3,hi3⟩:=bp_ h2 hb hi2
      rw [e3]
      simp only [Option.bind_some]
      obtain⟨v4,i4,h4,e4,hv4,hi4⟩:=bp_ h3 hb hi3
      rw [e4]
      simp only [Option.bind_some]
      rw [if_neg (by omega)]
      rw [w64 (x:=v1 * 16777216) (by omega) (by omega),w64 (x:=v2 * 65536) (by omega) (by omega),w64 (x:=v3 * 256) (by omega) (by omega),w64 (x:=v1 * 16777216+v2 * 65536) (by omega) (by omega),
        w64 (x:=v1 * 16777216+v2 * 65536+v3 * 256) (by omega) (by omega),w64 (x:=v1 * 16777216+v2 * 65536+v3 * 256+v4) (by omega) (by omega)]
      have:=bx_ (show 0≤v1 * 16777216+v2 * 65536+v3 * 256+v4 by omega) (show 0<n by omega)
      exact⟨_,_,_,rfl,⟨this.1,fun _=>this.2,fun h=>absurd h hn⟩,hi4⟩
theorem gL_ (b:List Int):laws_big.f b=some (decide ((b.length:Int)>1048576)):=rfl

/-! ### tot -/
def Tot {α:Type} (g:Nat→Option α) (P:α→Prop):Prop:=∃ r,Ev g r∧P r
theorem Tot.bind {α β:Type} {g:Nat→Option α} {f:Nat→α→Option β} {P:α→Prop} {Q:β→Prop} (h:Tot g P) (h2:∀ r,P r→Tot (fun k=>f k r) Q):Tot (fun k=>(g k).bind (f k)) Q:=by
  obtain⟨r,e,hr⟩:=h
  obtain⟨q,e2,hq⟩:=h2 r hr
  exact⟨q,Ev.bind e e2,hq⟩
theorem Tot.ret {α:Type} {P:α→Prop} (r:α) (h:P r):Tot (fun _=>some r) P:=⟨r,Ev.now _,h⟩
theorem Tot.step {α:Type} {F f:Nat→Option α} {P:α→Prop} (hs:∀ k,F (k+1)=f k) (h:Tot f P):Tot F P:=by
  obtain⟨r,e,hr⟩:=h
  exact⟨r,Ev.step hs e,hr⟩
theorem Tot.mono {α:Type} {g:Nat→Option α} {P Q:α→Prop} (h:Tot g P) (hpq:∀ r,P r→Q r):Tot g Q:=by
  obtain⟨r,e,hr⟩:=h
  exact⟨r,e,hpq r hr⟩
theorem Tot.of_some {α:Type} {o:Option α} {P:α→Prop} (r:α) (e:o=some r) (h:P r):Tot (fun _=>o) P:=⟨r,⟨0,fun _ _=>e⟩,h⟩
theorem gR_ {b:List Int} {i:Int} (h:Int) (hb:b.length≤1048576) (hi:Cur b i):Tot (fun _=>spec_l01Byte.f b i h) (fun r=>(0≤r.1∧r.1≤255)∧Cur b r.2.1):=by
  obtain⟨v,i',h',e,hv,hi'⟩:=bp_ h hb hi
  exact Tot.of_some _ e ⟨hv,hi'⟩
theorem ay_ {b:List Int} {i:Int} (h n:Int) (hb:b.length≤1048576) (hi:Cur b i):Tot (fun _=>spec_l01Below.f b i h n) (fun r=>(0≤r.1∧(0<n→r.1<n)∧(n≤0→r.1=0))∧Cur b r.2.1):=by
  obtain⟨v,i',h',e,hv,hi'⟩:=bz_ h n hb hi
  exact Tot.of_some _ e ⟨hv,hi'⟩
theorem fx_ {l:List Int} {i:Int} (h0:0≤i) (h1:i<(l.length:Int)):rd l i∈l:=by
  unfold rd
  rw [List.getD_eq_getElem?_getD,List.getElem?_eq_getElem (by omega),Option.getD_some]
  exact List.getElem_mem _
theorem gV_ {b:List Int} {i:Int} (h:Int) (l:List Int) (hb:b.length≤1048576) (hi:Cur b i) (hl:0<l.length):Tot (fun _=>spec_l01PickInt.f b i h l) (fun r=>r.1∈l∧Cur b r.2.1):=by
  obtain⟨v,i',h',e,hv,hi'⟩:=bz_ h (l.length:Int) hb hi
  have h1:=hv.2.1 (by omega)
  refine Tot.of_some (rd l v,i',h') ?_ ⟨fx_ hv.1 h1,hi'⟩
  unfold spec_l01PickInt.f
  rw [e]
  simp only [Option.bind_some]
  rw [if_pos hv.1,if_pos h1]
theorem fw_ {b:List Int} {i:Int} (h n:Int) (hb:b.length≤1048576) (hi:Cur b i):Tot (fun _=>spec_l01Once.f b i h n) (fun r=>Cur b r.2.1):=by
  obtain⟨v,i',h',e,_,hi'⟩:=bz_ h n hb hi
  refine Tot.of_some (v == 0,i',h') ?_ hi'
  unfold spec_l01Once.f
  rw [e]
  rfl
theorem fA_ {b:List Int} {i:Int} (h:Int) (l:List ByteArray) (hb:b.length≤1048576) (hi:Cur b i) (hl:0<l.length):Tot (fun _=>spec_l01Pick.f b i h l) (fun r=>r.1∈l∧Cur b r.2.1):=by
  obtain⟨v,i',h',e,hv,hi'⟩:=bz_ h (l.length:Int) hb hi
  have h1:=hv.2.1 (by omega)
  have hm:rdOf ByteArray.empty l v∈l:=by
    unfold rdOf
    rw [List.getD_eq_getElem?_getD,List.getElem?_eq_getElem (by have:=hv.1;omega),Option.getD_some]
    exact List.getElem_mem _
  refine Tot.of_some (rdOf ByteArray.empty l v,i',h') ?_ ⟨hm,hi'⟩
  unfold spec_l01Pick.f
  rw [e]
  simp only [Option.bind_some]
  rw [if_pos hv.1,if_pos h1]

/-! ### cmdspec -/
theorem bI_ {s:ByteArray} (h:s.toList=([]:List UInt8)):s.size=0:=by
  have h1:=bw_.1 h
  have h2:=bytesOf_length s
  rw [h1] at h2
  simpa using h2.symm
theorem ch_ (o t q:Int) (key val:ByteArray) (v:Int) (k:Nat) (h:spec_CommandOk.f (k+2) o t q key val v=some true):(0≤t∧t≤1000000)∧(0≤q∧q≤1000000)∧(0≤v∧v≤1000000000)∧(1≤o∧o≤5)∧key.size≤8∧val.size≤20:=by
  unfold spec_CommandOk.f at h
  simp only [bc_,Option.bind_some,spec_CommandOk.j0,spec_CommandOk.j1] at h
  cases ht:rng t 0 1000000 with
  |false=>simp [ht] at h
  |true=>
    cases hq:rng q 0 1000000 with
    |false=>simp [ht,hq] at h
    |true=>
      cases ho:rng o 1 5 with
      |false=>simp [ht,hq,ho] at h
      |true=>
        refine⟨ab_.1 ht,ab_.1 hq, ?_⟩
        simp only [ht,hq,ho,if_true,Bool.not_true,Bool.false_eq_true,if_false] at h
        by_cases h1:o=1
        · subst h1
          by_cases c:key.toList=[]
          · by_cases d:val.toList=[]
            · by_cases hv:v=0
              · have:=bI_ c
                have:=bI_ d
                exact⟨by omega,by omega,by omega,by omega⟩
              · exfalso
                revert h
                by_cases h7:t=0 <;> by_cases h8:q=0 <;> simp [h7,h8,hv,c,d]
            · simp [c,d] at h
          · simp [c] at h
        · simp only [if_neg h1] at h
          cases hk:rng (key.size:Int) 1 8 with
          |false=>simp [hk] at h
          |true=>
            have hk':=ab_.1 hk
            simp only [hk,if_true,decide_eq_true_eq] at h
            by_cases hv20:(val.size:Int)>20
            · simp [hv20] at h
            · simp only [if_neg hv20] at h
              refine⟨?_,ab_.1 ho,by omega,by omega⟩
              by_cases h2:o=2
              · simp only [if_pos h2,Option.some.injEq,beq_iff_eq] at h
                omega
              · by_cases h5:o=5
                · simp only [if_neg h2,if_pos h5,Option.some.injEq] at h
                  have:=ab_.1 h
                  omega
                · by_cases d:val.toList=[]
                  · simp only [if_neg h2,if_neg h5,if_pos d,Option.some.injEq,beq_iff_eq] at h
                    omega
                  · simp [h2,h5,d] at h
theorem dV_ (o t q:Int) (key val:ByteArray) (v:Int) (k:Nat):spec_CommandOk.f (k+3) o t q key val v=spec_CommandOk.f (0+3) o t q key val v:=by
  unfold spec_CommandOk.f
  simp only [spec_CommandOk.j0,spec_CommandOk.j1]
theorem do_ (o t q:Int) (key val:ByteArray) (v:Int):∃ b,Ev (fun k=>spec_CommandOk.f k o t q key val v) b∧(b=true→(0≤t∧t≤1000000)∧(0≤q∧q≤1000000)∧(0≤v∧v≤1000000000)∧(1≤o∧o≤5)∧key.size≤8∧val.size≤20):=by
  have ht:(spec_CommandOk.f (0+3) o t q key val v).isSome=true:=by
    unfold spec_CommandOk.f
    simp only [bc_,Option.bind_some,spec_CommandOk.j0,spec_CommandOk.j1]
    repeat' split
    all_goals rfl
  obtain⟨b,hb⟩:=Option.isSome_iff_exists.1 ht
  refine⟨b,⟨3,fun k hk=>?_⟩,fun h=>?_⟩
  · obtain⟨m,rfl⟩:∃ m,k=m+3:=⟨k - 3,by omega⟩
    show spec_CommandOk.f (m+3) o t q key val v=some b
    rw [dV_]
    exact hb
  · subst h
    exact ch_ o t q key val v 1 hb

/-! ### cmddraw -/
theorem eY_ (a:List S76) (l:List S79) (s:ByteArray) (hl:l.length≤1048576):∀ (d j:Nat),l.length - j=d→j≤l.length→Tot (fun k=>spec_ItemOf.l0 k s (j:Int) a l) (fun _=>True):=by
  intro d
  induction d with
  |zero=>
    intro j hd hj
    refine Tot.step (fun k=>rfl) ?_
    simp only [spec_ItemOf.l0,if_neg (show ¬ (j:Int)<(l.length:Int) by omega)]
    exact Tot.ret _ trivial
  |succ d ih=>
    intro j hd hj
    refine Tot.step (fun k=>rfl) ?_
    simp only [spec_ItemOf.l0,if_pos (show (j:Int)<(l.length:Int) by omega),if_pos (show (0:Int)≤(j:Int) by omega),w64 (x:=(j:Int)+1) (by omega) (by omega)]
    by_cases h:(rd_T79 l (j:Int)).f0.toList=s.toList
    · simp only [if_pos h]
      exact Tot.ret _ trivial
    · simp only [if_neg h]
      exact ih (j+1) (by omega) (by omega)
theorem gZ_ {b:List Int} {i:Int} (h:Int) (hb:b.length≤1048576) (hi:Cur b i) (q:Bool) (o t s:Int) (k1 k2:ByteArray) (v:Int) (y1 y2:ByteArray) (y3:Int):Tot (fun k=>spec_l15Of.j1 k q b i h o t s k1 k2 v y1 y2 y3) (fun r=>Cur b r.2.2.2.2.2.2.1):=by
  refine Tot.step (fun k=>rfl) ?_
  simp only [spec_l15Of.j1]
  by_cases h5:o=5
  · simp only [if_pos h5]
    refine Tot.bind (ay_ h 20 hb hi) fun r hr=>?_
    by_cases hq:q=true
    · simp only [if_pos hq]
      refine Tot.bind (fw_ _ 3 hb hr.2) fun u hu=>?_
      by_cases hu1:u.1=true
      · simp only [if_pos hu1];exact Tot.ret _ hu
      · simp only [if_neg hu1];exact Tot.ret _ hu
    · simp only [if_neg hq]
      exact Tot.ret _ hr.2
  · simp only [if_neg h5]
    exact Tot.ret _ hi
theorem hb_ {b:List Int} {i:Int} (h:Int) (hb:b.length≤1048576) (hi:Cur b i) (q w:Bool) (o t s:Int) (k1 k2:ByteArray) (v:Int) (y1 y2:ByteArray) (y3:Int):Tot (fun k=>spec_l15Of.j0 k q w b i h o t s k1 k2 v y1 y2 y3) (fun r=>Cur b r.2.2.2.2.2.2.1):=by
  refine Tot.step (fun k=>rfl) ?_
  simp only [spec_l15Of.j0]
  by_cases hw:w=true
  · simp only [if_pos hw]
    refine Tot.bind (fA_ _ _ hb hi (by simp)) fun u hu=>?_
    exact gZ_ _ hb hu.2 _ _ _ _ _ _ _ _ _ _
  · simp only [if_neg hw]
    exact gZ_ _ hb hi _ _ _ _ _ _ _ _ _ _
theorem tOf {b:List Int} {i:Int} (h:Int) (hb:b.length≤1048576) (hi:Cur b i) (x:List S76) (y:List S79) (hy:y.length≤1048576):Tot (fun k=>spec_l15Of.f k b i h x y) (fun r=>Cur b r.2.2.2.2.2.2.1):=by
  unfold spec_l15Of.f
  refine Tot.bind (gV_ h _ hb hi (by simp)) fun r hr=>?_
  refine Tot.bind (fA_ _ _ hb hr.2 (by simp)) fun u hu=>?_
  refine Tot.bind (P:=fun _=>True) (show Tot (fun k=>spec_ItemOf.f k x y u.1) _ from eY_ x y u.1 hy y.length 0 (by omega) (by omega)) fun v _=>?_
  by_cases h2:r.1=2
  · simp only [if_pos h2]
    exact hb_ _ hb hu.2 _ _ _ _ _ _ _ _ _ _ _
  · simp only [if_neg h2]
    exact hb_ _ hb hu.2 _ _ _ _ _ _ _ _ _ _ _
theorem gM_ {b:List Int} {i:Int} (h:Int) (hb:b.length≤1048576) (hi:Cur b i) (o t s:Int) (k1 k2:ByteArray) (v y1 y2:Int) (y3:ByteArray):Tot (fun k=>spec_l15Command.j1 k b i h o t s k1 k2 v y1 y2 y3) (fun r=>Cur b r.2.2.2.2.2.2.1):=by
  refine Tot.step (fun k=>rfl) ?_
  simp only [spec_l15Command.j1]
  refine Tot.bind (ay_ h 16 hb hi) fun r hr=>?_
  by_cases h0:r.1=0
  · simp only [if_pos h0];(try(refine Tot.step (fun k=>rfl) ?_;simp only [spec_l15Command.j2]));exact Tot.ret _ hr.2
  · by_cases h1:r.1=1
    · simp only [if_neg h0,if_pos h1]
      refine Tot.bind (ay_ _ 4 hb hr.2) fun u hu=>?_
      (try(refine Tot.step (fun k=>rfl) ?_;simp only [spec_l15Command.j2]));exact Tot.ret _ hu.2
    · by_cases h2:r.1=2
      · simp only [if_neg h0,if_neg h1,if_pos h2]
        refine Tot.bind (ay_ _ 9 hb hr.2) fun u hu=>?_
        (try(refine Tot.step (fun k=>rfl) ?_;simp only [spec_l15Command.j2]));exact Tot.ret _ hu.2
      · simp only [if_neg h0,if_neg h1,if_neg h2];(try(refine Tot.step (fun k=>rfl) ?_;simp only [spec_l15Command.j2]));exact Tot.ret _ hr.2
theorem hd_ {b:List Int} {i:Int} (h:Int) (hb:b.length≤1048576) (hi:Cur b i) (x:List S76) (y:List S79) (hx:0<x.length∧x.length≤1048576) (hy:y.length≤1048576):Tot (fun k=>spec_l15Command.f k b i h x y) (fun r=>Cur b r.2.2.2.2.2.2.1):=by
  unfold spec_l15Command.f
  simp only [if_neg (show ¬ (x.length:Int)=0 by omega)]
  refine Tot.bind (fw_ h 16 hb hi) fun r hr=>?_
  refine Tot.step (fun k=>rfl) ?_
  simp only [spec_l15Command.j0]
  by_cases hr1:r.1=true
  · simp only [if_pos hr1]
    exact Tot.ret _ hr
  · simp only [if_neg hr1]
    refine Tot.bind (tOf _ hb hr x y hy) fun u hu=>?_
    simp only [w64 (x:=(x.length:Int) - 1) (by omega) (by omega),if_pos (show (0:Int)≤(x.length:Int) - 1 by omega),if_pos (show (x.length:Int) - 1<(x.length:Int) by omega)]
    refine Tot.bind (fw_ _ 4 hb hu) fun v hv=>?_
    by_cases hv1:v.1=true
    · simp only [if_pos hv1]
      refine Tot.bind (ay_ _ (x.length:Int) hb hv) fun w hw=>?_
      have hw1:=hw.1.2.1 (by omega)
      simp only [if_pos hw.1.1,if_pos hw1]
      exact gM_ _ hb hw.2 _ _ _ _ _ _ _ _ _
    · simp only [if_neg hv1]
      exact gM_ _ hb hv _ _ _ _ _ _ _ _ _

/-! ### decimal -/
theorem fv_ (s:Bool):∀ (d:Nat) (x:Int) (acc:ByteArray),0≤x→x<10 ^ d→x≤1000000000000→acc.size≤100→d+acc.size≤100→Tot (fun k=>spec_Decimal.l0 k x s acc) (fun r=>r.size≤acc.size+d+1):=by
  intro d
  induction d with
  |zero=>
    intro x acc h0 h1 _ ha hd
    have hx:x=0:=by rw [show (10:Int) ^ 0=1 from rfl] at h1;omega
    refine Tot.step (fun k=>rfl) ?_
    simp only [spec_Decimal.l0,if_pos hx]
    by_cases hs:s=true
    · simp only [if_pos hs,if_pos (show 1+acc.size≤9223372036854775807 by omega)]
      exact Tot.ret _ (by rw [ByteArray.size_append];show 1+acc.size≤_;omega)
    · simp only [if_neg hs]
      exact Tot.ret _ (by omega)
  |succ d ih=>
    intro x acc h0 h1 h2 ha hd
    refine Tot.step (fun k=>rfl) ?_
    by_cases hx:x=0
    · simp only [spec_Decimal.l0,if_pos hx]
      by_cases hs:s=true
      · simp only [if_pos hs,if_pos (show 1+acc.size≤9223372036854775807 by omega)]
        exact Tot.ret _ (by rw [ByteArray.size_append];show 1+acc.size≤_;omega)
      · simp only [if_neg hs]
        exact Tot.ret _ (by omega)
    · have hm:Int.tmod x 10=x % 10:=Int.tmod_eq_emod_of_nonneg h0
      have hq:Int.tdiv x 10=x / 10:=Int.tdiv_eq_ediv_of_nonneg h0
      have hp:(10:Int) ^ (d+1)=10 ^ d * 10:=Int.pow_succ 10 d
      rw [hp] at h1
      obtain⟨v,hv⟩:∃ v,spec_l01Figure.f (Int.tmod x 10)=some v:=by
        unfold spec_l01Figure.f
        split <;> exact⟨_,rfl⟩
      simp only [spec_Decimal.l0,if_neg hx,if_neg (show ¬ Int.tmod x 10<0 by omega),hv,Option.bind_some]
      (try(refine Tot.step (fun k=>rfl) ?_;simp only [spec_Decimal.j1,hv,Option.bind_some]))
      have hz:(strOfNums [v]).size=1:=by rw [strOfNums_size];rfl
      simp only [if_pos (show (strOfNums [v]).size+acc.size≤9223372036854775807 by omega),hq,w64 (x:=x / 10) (by omega) (by omega)]
      have hlt:x / 10<10 ^ d:=by generalize (10:Int) ^ d=P at *;omega
      refine Tot.mono (ih (x / 10) (strOfNums [v] ++ acc) (by omega) hlt (by omega) (by rw [ByteArray.size_append];omega) (by rw [ByteArray.size_append];omega)) fun r hr=>?_
      rw [ByteArray.size_append] at hr
      omega
theorem gu_ (x:Int) (h0:0≤x) (h1:x≤1000000000):Tot (fun k=>spec_Decimal.f k x) (fun r=>r.size≤20):=by
  unfold spec_Decimal.f
  by_cases hx:x=0
  · simp only [if_pos hx]
    exact Tot.ret _ (by show 1≤20;omega)
  · simp only [if_neg hx]
    refine Tot.mono (fv_ _ 12 x _ h0 (by rw [show (10:Int) ^ 12=1000000000000 from by decide];omega) (by omega) (by show 0≤100;omega) (by show 12+0≤100;omega)) fun r hr=>?_
    have:(⟨#[]⟩:ByteArray).size=0:=rfl
    omega

/-! ### text -/

/-! ### keepdraw -/
theorem fL_ (x:List S76) (y:List S79) (hx:x.length≤1000) (hy:y.length≤1000):spec_l15Copy.f x y=some (x,y):=by
  unfold spec_l15Copy.f
  simp only [Option.bind_some,List.nil_append,List.length_nil]
  rw [if_pos (by omega),if_pos (by omega)]
theorem eg_ (x:List S76) (y:List S79) (hx:x.length≤1000) (hy:y.length≤1000):Tot (fun _=>spec_l15Copy.f x y) (fun r=>r=(x,y)):=Tot.of_some _ (fL_ x y hx hy) rfl
theorem fS_ (i:Int) (h0:0≤i) (h1:i≤1000000) (a:List S76) (b:List S79) (c:List S76) (e:List S79) (ha:a.length≤3):∀ (d j:Nat) (x:List S76),a.length - j=d→j≤a.length→x.length≤j+4→Tot (fun k=>spec_l15Open.l1 k i x (j:Int) a b c e) (fun r=>r.1.length≤20∧r.2.1=e):=by
  intro d
  induction d with
  |zero=>
    intro j x hd hj hx
    refine Tot.step (fun k=>rfl) ?_
    simp only [spec_l15Open.l1,if_neg (show ¬ (j:Int)<(a.length:Int) by omega)]
    by_cases h3:(x.length:Int)>3
    · simp only [if_pos h3,Option.bind_some,if_pos (show 1≤(x.length:Int) by omega),List.length_nil,List.nil_append,if_pos (show 0+(x.drop 1).length<4398046511104 by rw [List.length_drop];omega)]
      (try(refine Tot.step (fun k=>rfl) ?_;simp only [spec_l15Open.j2]));refine Tot.bind (gu_ i h0 (by omega)) fun t ht=>?_
      simp only [if_pos (show 5+t.size≤9223372036854775807 by omega)]
      exact Tot.ret _ ⟨by show (x.drop 1).length≤20;rw [List.length_drop];omega,rfl⟩
    · simp only [if_neg h3]
      (try(refine Tot.step (fun k=>rfl) ?_;simp only [spec_l15Open.j2]));refine Tot.bind (gu_ i h0 (by omega)) fun t ht=>?_
      simp only [if_pos (show 5+t.size≤9223372036854775807 by omega)]
      exact Tot.ret _ ⟨by show x.length≤20;omega,rfl⟩
  |succ d ih=>
    intro j x hd hj hx
    refine Tot.step (fun k=>rfl) ?_
    simp only [spec_l15Open.l1,if_pos (show (j:Int)<(a.length:Int) by omega),if_pos (show (0:Int)≤(j:Int) by omega),w64 (x:=(j:Int)+1) (by omega) (by omega)]
    by_cases h:(rd_T76 a (j:Int)).f0>i
    · simp only [if_pos h,if_pos (show x.length<4398046511104 by omega)]
      exact ih (j+1) _ (by omega) (by omega) (by rw [List.length_append,List.length_singleton];omega)
    · simp only [if_neg h]
      exact ih (j+1) _ (by omega) (by omega) (by omega)
theorem fV_ (i:Int) (h0:0≤i) (h1:i≤1000000) (a:List S76) (b:List S79) (c:List S76) (e:List S79) (ha:a.length≤3):∀ (d j:Nat) (x:List S76),a.length - j=d→j≤a.length→x.length≤j→Tot (fun k=>spec_l15Open.l0 k i x (j:Int) a b c e) (fun r=>r.1.length≤20∧r.2.1=e):=by
  intro d
  induction d with
  |zero=>
    intro j x hd hj hx
    refine Tot.step (fun k=>rfl) ?_
    simp only [spec_l15Open.l0,if_neg (show ¬ (j:Int)<(a.length:Int) by omega),if_pos (show x.length<4398046511104 by omega)]
    exact fS_ i h0 h1 a b c e ha a.length 0 _ (by omega) (by omega) (by rw [List.length_append,List.length_singleton];omega)
  |succ d ih=>
    intro j x hd hj hx
    refine Tot.step (fun k=>rfl) ?_
    simp only [spec_l15Open.l0,if_pos (show (j:Int)<(a.length:Int) by omega),if_pos (show (0:Int)≤(j:Int) by omega),w64 (x:=(j:Int)+1) (by omega) (by omega)]
    by_cases h:(rd_T76 a (j:Int)).f0<i
    · simp only [if_pos h,if_pos (show x.length<4398046511104 by omega)]
      exact ih (j+1) _ (by omega) (by omega) (by rw [List.length_append,List.length_singleton];omega)
    · simp only [if_neg h]
      exact ih (j+1) _ (by omega) (by omega) (by omega)
theorem gU_ (i:Int) (h0:0≤i) (h1:i≤1000000) (a:List S76) (b:List S79) (ha:a.length≤3) (hb:b.length≤20):Tot (fun k=>spec_l15Open.f k a b i) (fun r=>r.1.length≤20∧r.2.1.length≤20):=by
  unfold spec_l15Open.f
  refine Tot.bind (eg_ a b (by omega) (by omega)) fun r hr=>?_
  subst hr
  refine Tot.mono (fV_ i h0 h1 a b a b ha a.length 0 [] (by omega) (by omega) (by simp)) fun q hq=>?_
  exact⟨hq.1,by rw [hq.2];exact hb⟩
theorem gK_ (a:List S76) (b:List S79) (p q:ByteArray) (v:Int) (hb:b.length≤8):∀ (d j:Nat) (x:List S79),b.length - j=d→j≤b.length→x.length≤j+10→Tot (fun k=>spec_l15Put.l1 k x (j:Int) a b p q v) (fun r=>r.2.length≤8):=by
  intro d
  induction d with
  |zero=>
    intro j x hd hj hx
    refine Tot.step (fun k=>rfl) ?_
    simp only [spec_l15Put.l1,if_neg (show ¬ (j:Int)<(b.length:Int) by omega)]
    by_cases h3:(x.length:Int)>8
    · simp only [if_pos h3]
      exact Tot.ret _ hb
    · simp only [if_neg h3]
      exact Tot.ret _ (by show x.length≤8;omega)
  |succ d ih=>
    intro j x hd hj hx
    refine Tot.step (fun k=>rfl) ?_
    simp only [spec_l15Put.l1,if_pos (show (j:Int)<(b.length:Int) by omega),if_pos (show (0:Int)≤(j:Int) by omega),w64 (x:=(j:Int)+1) (by omega) (by omega)]
    by_cases h:(Op.bytesLess p.toList (rd_T79 b (j:Int)).f0.toList)=true
    · simp only [if_pos h,if_pos (show x.length<3518437208883 by omega)]
      exact ih (j+1) _ (by omega) (by omega) (by rw [List.length_append,List.length_singleton];omega)
    · simp only [if_neg h]
      exact ih (j+1) _ (by omega) (by omega) (by omega)
theorem gP_ (a:List S76) (b:List S79) (p q:ByteArray) (v:Int) (hb:b.length≤8):∀ (d j:Nat) (x:List S79),b.length - j=d→j≤b.length→x.length≤j→Tot (fun k=>spec_l15Put.l0 k x (j:Int) a b p q v) (fun r=>r.2.length≤8):=by
  intro d
  induction d with
  |zero=>
    intro j x hd hj hx
    refine Tot.step (fun k=>rfl) ?_
    simp only [spec_l15Put.l0,if_neg (show ¬ (j:Int)<(b.length:Int) by omega),if_pos (show x.length<3518437208883 by omega)]
    exact gK_ a b p q v hb b.length 0 _ (by omega) (by omega) (by rw [List.length_append,List.length_singleton];omega)
  |succ d ih=>
    intro j x hd hj hx
    refine Tot.step (fun k=>rfl) ?_
    simp only [spec_l15Put.l0,if_pos (show (j:Int)<(b.length:Int) by omega),if_pos (show (0:Int)≤(j:Int) by omega),w64 (x:=(j:Int)+1) (by omega) (by omega)]
    by_cases h:(Op.bytesLess (rd_T79 b (j:Int)).f0.toList p.toList)=true
    · simp only [if_pos h,if_pos (show x.length<3518437208883 by omega)]
      exact ih (j+1) _ (by omega) (by omega) (by rw [List.length_append,List.length_singleton];omega)
    · simp only [if_neg h]
      exact ih (j+1) _ (by omega) (by omega) (by omega)
theorem eE_ (a:List S76) (l:List S79) (s:ByteArray) (hl:l.length≤1048576) (hg:∀ j (hj:j<l.length),l[j].f0.size≤8∧l[j].f1.size≤20∧(1≤l[j].f2∧l[j].f2≤1000000000)):∀ (d j:Nat),l.length - j=d→j≤l.length→Tot (fun k=>spec_ItemOf.l0 k s (j:Int) a l) (fun r=>r.2.1.size≤20∧0≤r.2.2.1∧r.2.2.1≤1000000000):=by
  intro d
  induction d with
  |zero=>
    intro j hd hj
    refine Tot.step (fun k=>rfl) ?_
    simp only [spec_ItemOf.l0,if_neg (show ¬ (j:Int)<(l.length:Int) by omega)]
    exact Tot.ret _ ⟨by show 0≤20;omega,by show (0:Int)≤0;omega,by show (0:Int)≤1000000000;omega⟩
  |succ d ih=>
    intro j hd hj
    have hjl:j<l.length:=by omega
    have hget:rd_T79 l (j:Int)=l[j]:=by unfold rd_T79;exact bb_ _ hjl
    have hh:=hg j hjl
    refine Tot.step (fun k=>rfl) ?_
    simp only [spec_ItemOf.l0,if_pos (show (j:Int)<(l.length:Int) by omega),if_pos (show (0:Int)≤(j:Int) by omega),w64 (x:=(j:Int)+1) (by omega) (by omega),hget]
    by_cases h:l[j].f0.toList=s.toList
    · simp only [if_pos h]
      exact Tot.ret _ ⟨hh.2.1,by show 0≤l[j].f2;omega,hh.2.2.2⟩
    · simp only [if_neg h]
      exact ih (j+1) (by omega) (by omega)
theorem gh_ (a:List S76) (b:List S79) (o t s:Int) (p q:ByteArray) (v:Int) (hb:b.length≤8):∀ (d j:Nat) (x:List S79),b.length - j=d→j≤b.length→x.length≤j→Tot (fun k=>spec_l15Do.l0 k x (j:Int) a b o t s p q v) (fun r=>r.2.length≤8):=by
  intro d
  induction d with
  |zero=>
    intro j x hd hj hx
    refine Tot.step (fun k=>rfl) ?_
    simp only [spec_l15Do.l0,if_neg (show ¬ (j:Int)<(b.length:Int) by omega)]
    exact Tot.ret _ (by show x.length≤8;omega)
  |succ d ih=>
    intro j x hd hj hx
    refine Tot.step (fun k=>rfl) ?_
    simp only [spec_l15Do.l0,if_pos (show (j:Int)<(b.length:Int) by omega),if_pos (show (0:Int)≤(j:Int) by omega),w64 (x:=(j:Int)+1) (by omega) (by omega)]
    by_cases h:(rd_T79 b (j:Int)).f0.toList=p.toList
    · simp only [if_pos h]
      exact ih (j+1) _ (by omega) (by omega) (by omega)
    · simp only [if_neg h,if_pos (show x.length<3518437208883 by omega)]
      exact ih (j+1) _ (by omega) (by omega) (by rw [List.length_append,List.length_singleton];omega)
theorem ha_ (i:Int) (h0:0≤i) (h1:i≤1000000) (a:List S76) (b:List S79) (o t s:Int) (p q:ByteArray) (v:Int) (hb:b.length≤8):Tot (fun k=>spec_l15Do.j1 k i a b o t s p q v) (fun r=>r.2.length≤8):=by
  refine Tot.step (fun k=>rfl) ?_
  simp only [spec_l15Do.j1]
  refine Tot.bind (show Tot (fun k=>spec_l15Put.f k a b p q i) _ from gP_ a b p q i hb b.length 0 [] (by omega) (by omega) (by simp)) fun r hr=>?_
  by_cases h:r.1=true
  · simp only [if_pos h]
    refine Tot.bind (gu_ i h0 (by omega)) fun u hu=>?_
    simp only [if_pos (show 4+u.size≤9223372036854775807 by omega)]
    exact Tot.ret _ hr
  · simp only [if_neg h]
    exact Tot.ret _ hr
theorem tDo (i:Int) (h0:0≤i) (h1:i≤1000000) (a:List S76) (b:List S79) (o t s:Int) (p q:ByteArray) (v:Int) (hb:b.length≤8) (hg:∀ j (hj:j<b.length),b[j].f0.size≤8∧b[j].f1.size≤20∧(1≤b[j].f2∧b[j].f2≤1000000000)):Tot (fun k=>spec_l15Do.f k a b i o t s p q v) (fun r=>r.2.length≤8):=by
  unfold spec_l15Do.f
  refine Tot.bind (show Tot (fun k=>spec_ItemOf.f k a b p) _ from eE_ a b p (by omega) hg b.length 0 (by omega) (by omega)) fun r hr=>?_
  obtain⟨hr1,hr2,hr3⟩:=hr
  by_cases o3:o=3
  · simp only [if_pos o3]
    by_cases hh:r.2.2.2=true
    · simp only [if_pos hh]
      refine Tot.bind (gu_ r.2.2.1 hr2 hr3) fun u hu=>?_
      have s1:(⟨#[105,115,32]⟩:ByteArray).size=3:=rfl
      have s2:(⟨#[32]⟩:ByteArray).size=1:=rfl
      simp only [if_pos (show 3+u.size≤9223372036854775807 by omega),if_pos (show ((⟨#[105,115,32]⟩:ByteArray) ++ u).size+1≤9223372036854775807 by rw [ByteArray.size_append];omega),if_pos (show (((⟨#[105,115,32]⟩:ByteArray) ++ u) ++ (⟨#[32]⟩:ByteArray)).size+r.2.1.size≤9223372036854775807 by rw [ByteArray.size_append,ByteArray.size_append];omega)]
      exact Tot.ret _ hb
    · simp only [if_neg hh]
      exact Tot.ret _ hb
  · simp only [if_neg o3]
    by_cases o4:o=4
    · simp only [if_pos o4]
      by_cases hh:r.2.2.2=true
      · simp only [if_pos hh]
        exact gh_ a b o t s p q v hb b.length 0 [] (by omega) (by omega) (by simp)
      · simp only [if_neg hh]
        exact Tot.ret _ hb
    · simp only [if_neg o4]
      by_cases o5:o=5
      · simp only [if_pos o5]
        by_cases hh:r.2.2.2=true
        · simp only [if_pos hh]
          by_cases hv:r.2.2.1=v
          · simp only [if_pos hv]
            exact ha_ i h0 h1 a b o t s p q v hb
          · simp only [if_neg hv]
            refine Tot.bind (gu_ r.2.2.1 hr2 hr3) fun u hu=>?_
            simp only [if_pos (show 4+u.size≤9223372036854775807 by omega)]
            exact Tot.ret _ hb
        · simp only [if_neg hh]
          exact Tot.ret _ hb
      · simp only [if_neg o5]
        exact ha_ i h0 h1 a b o t s p q v hb
theorem fE_ (i:Int) (h0:0≤i) (h1:i≤1000000) (m:Nat) (w:Bool) (a:List S76) (b:List S79) (o t s:Int) (p q:ByteArray) (v y1 y2:Int) (y3:ByteArray) (hk:aT_ a b=true) (hm:m<a.length):Tot (fun k=>spec_Perform.j2 k i (m:Int) w a b o t s p q v y1 y2 y3) (fun r=>r.1.length≤20∧r.2.1.length≤20):=by
  obtain⟨⟨ha,hb⟩,_,hg⟩:=aK_ hk
  refine Tot.step (fun k=>rfl) ?_
  simp only [spec_Perform.j2]
  by_cases hw:w=true
  · simp only [if_pos hw]
    refine Tot.bind (eg_ a b (by omega) (by omega)) fun r hr=>?_
    subst hr
    exact Tot.ret _ ⟨by show a.length≤20;omega,by show b.length≤20;omega⟩
  · simp only [if_neg hw]
    by_cases c1:s=y2
    · simp only [if_pos c1]
      refine Tot.bind (eg_ a b (by omega) (by omega)) fun r hr=>?_
      subst hr
      exact Tot.ret _ ⟨by show a.length≤20;omega,by show b.length≤20;omega⟩
    · simp only [if_neg c1]
      by_cases c2:s>wrap64 (y2+1)
      · simp only [if_pos c2]
        refine Tot.bind (eg_ a b (by omega) (by omega)) fun r hr=>?_
        subst hr
        exact Tot.ret _ ⟨by show a.length≤20;omega,by show b.length≤20;omega⟩
      · simp only [if_neg c2]
        refine Tot.bind (eg_ a b (by omega) (by omega)) fun r hr=>?_
        subst hr
        refine Tot.bind (tDo i h0 h1 a b o t s p q v hb hg) fun u hu=>?_
        simp only [if_pos (show (0:Int)≤(m:Int) by omega),if_pos (show (m:Int)<(a.length:Int) by omega),Option.bind_some]
        exact Tot.ret _ ⟨by show (List.set _ _ _).length≤20;rw [List.length_set,List.length_set];omega,by show u.2.length≤20;omega⟩
theorem ga_ (i:Int) (h0:0≤i) (h1:i≤1000000) (a:List S76) (b:List S79) (o t s:Int) (p q:ByteArray) (v:Int) (hk:aT_ a b=true):∀ (d j:Nat) (x:Int),a.length - j=d→j≤a.length→(x = -1∨(0≤x∧x<(a.length:Int)))→Tot (fun k=>spec_Perform.l0 k i x (j:Int) a b o t s p q v) (fun r=>r.1.length≤20∧r.2.1.length≤20):=by
  obtain⟨⟨ha,hb⟩,_,hg⟩:=aK_ hk
  intro d
  induction d with
  |zero=>
    intro j x hd hj hx
    refine Tot.step (fun k=>rfl) ?_
    simp only [spec_Perform.l0,if_neg (show ¬ (j:Int)<(a.length:Int) by omega)]
    by_cases hx0:x<0
    · simp only [if_pos hx0]
      refine Tot.bind (eg_ a b (by omega) (by omega)) fun r hr=>?_
      subst hr
      exact Tot.ret _ ⟨by show a.length≤20;omega,by show b.length≤20;omega⟩
    · obtain⟨m,rfl⟩:∃ m:Nat,x=(m:Int):=⟨x.toNat,by omega⟩
      simp only [if_neg hx0,if_pos (show (0:Int)≤(m:Int) by omega),if_pos (show (m:Int)<(a.length:Int) by omega)]
      by_cases hs:s=0
      · simp only [if_pos hs]
        exact fE_ i h0 h1 m true a b o t s p q v _ _ _ hk (by omega)
      · simp only [if_neg hs]
        exact fE_ i h0 h1 m _ a b o t s p q v _ _ _ hk (by omega)
  |succ d ih=>
    intro j x hd hj hx
    refine Tot.step (fun k=>rfl) ?_
    simp only [spec_Perform.l0,if_pos (show (j:Int)<(a.length:Int) by omega),if_pos (show (0:Int)≤(j:Int) by omega),w64 (x:=(j:Int)+1) (by omega) (by omega)]
    by_cases h:(rd_T76 a (j:Int)).f0=t
    · simp only [if_pos h]
      exact ih (j+1) _ (by omega) (by omega) (.inr ⟨by omega,by omega⟩)
    · simp only [if_neg h]
      exact ih (j+1) _ (by omega) (by omega) hx
theorem cw_ (i:Int) (a:List S76) (b:List S79) (o t s:Int) (p q:ByteArray) (v:Int):Tot (fun k=>spec_Perform.j0 k i true a b o t s p q v) (fun r=>r.1.length≤20∧r.2.1.length≤20):=by
  refine Tot.step (fun k=>rfl) ?_
  simp only [spec_Perform.j0,if_true]
  exact Tot.ret _ ⟨by simp,by simp⟩
theorem gI_ (i:Int) (a:List S76) (b:List S79) (o t s:Int) (p q:ByteArray) (v:Int) (ha:a.length≤1000) (hb:b.length≤1000):Tot (fun k=>spec_Perform.f k a b i o t s p q v) (fun r=>r.1.length≤20∧r.2.1.length≤20):=by
  unfold spec_Perform.f
  refine Tot.bind (P:=fun r=>r=aT_ a b) ⟨_,aY_ a b (by omega) (by omega),rfl⟩ fun r hr=>?_
  subst hr
  by_cases hk:aT_ a b=true
  · simp only [if_pos hk,bc_,Option.bind_some]
    by_cases hi:rng i 1 1000000=true
    · simp only [if_pos hi]
      have hi':=ab_.1 hi
      by_cases h4:i>400000
      · simp only [if_pos h4]
        exact cw_ i a b o t s p q v
      · simp only [if_neg h4]
        obtain⟨c,hc,_⟩:=do_ o t s p q v
        refine Tot.bind (P:=fun _=>True) ⟨c,hc,trivial⟩ fun u _=>?_
        cases u with
        |false=>exact cw_ i a b o t s p q v
        |true=>
          obtain⟨⟨la,lb⟩,_⟩:=aK_ hk
          refine Tot.step (fun k=>rfl) ?_
          simp only [spec_Perform.j0,Bool.not_true,Bool.false_eq_true,if_false]
          by_cases ho:o=1
          · simp only [if_pos ho]
            refine Tot.bind (gU_ i (by omega) (by omega) a b la (by omega)) fun w hw=>?_
            exact Tot.ret _ hw
          · simp only [if_neg ho]
            exact ga_ i (by omega) (by omega) a b o t s p q v hk a.length 0 (-1) (by omega) (by omega) (.inl rfl)
    · simp only [if_neg hi]
      exact cw_ i a b o t s p q v
  · simp only [if_neg hk]
    exact cw_ i a b o t s p q v
theorem gY_ {b:List Int} {i:Int} (h:Int) (hb:b.length≤1048576) (hi:Cur b i) (x:List S76) (y:List S79) (hx:x.length≤1048576) (hy:y.length≤1048576):Tot (fun k=>spec_l15Command.f k b i h x y) (fun r=>Cur b r.2.2.2.2.2.2.1):=by
  rcases Nat.eq_zero_or_pos x.length with h0|h0
  · unfold spec_l15Command.f
    simp only [if_pos (show (x.length:Int)=0 by omega)]
    refine Tot.step (fun k=>rfl) ?_
    simp only [spec_l15Command.j0,if_true]
    exact Tot.ret _ hi
  · exact hd_ h hb hi x y ⟨h0,hx⟩ hy
theorem fY_ {b:List Int} (hb:b.length≤1048576) (n:Int) (hn:n≤20):∀ (d:Nat) (x i h:Int) (a:List S76) (c:List S79),n - x≤d→0≤x→x≤20→a.length≤20→c.length≤20→Cur b i→Tot (fun k=>spec_l15Keep.l0 k n x b i h a c) (fun r=>(r.1.length≤20∧r.2.1.length≤20)∧Cur b r.2.2.1):=by
  intro d
  induction d with
  |zero=>
    intro x i h a c hd h0 h2 ha hc hi
    refine Tot.step (fun k=>rfl) ?_
    simp only [spec_l15Keep.l0]
    refine Tot.bind (ay_ h n hb hi) fun r hr=>?_
    have h3:r.1≤x:=by
      by_cases hn0:0<n
      · have:=hr.1.2.1 hn0;omega
      · have:=hr.1.2.2 (by omega);omega
    simp only [if_neg (show ¬ x<r.1 by omega)]
    exact Tot.ret _ ⟨⟨ha,hc⟩,hr.2⟩
  |succ d ih=>
    intro x i h a c hd h0 h2 ha hc hi
    refine Tot.step (fun k=>rfl) ?_
    simp only [spec_l15Keep.l0]
    refine Tot.bind (ay_ h n hb hi) fun r hr=>?_
    by_cases hx:x<r.1
    · have h3:x<n:=by
        by_cases hn0:0<n
        · have:=hr.1.2.1 hn0;omega
        · have:=hr.1.2.2 (by omega);omega
      simp only [if_pos hx]
      refine Tot.bind (gY_ _ hb hr.2 a c (by omega) (by omega)) fun u hu=>?_
      refine Tot.bind (gI_ _ a c u.1 u.2.1 u.2.2.1 u.2.2.2.1 u.2.2.2.2.1 u.2.2.2.2.2.1 (by omega) (by omega)) fun w hw=>?_
      by_cases hw1:w.2.2.2=true
      · simp only [if_pos hw1,w64 (x:=x+1) (by omega) (by omega)]
        exact ih (x+1) _ _ _ _ (by omega) (by omega) (by omega) hw.1 hw.2 hu
      · simp only [if_neg hw1,w64 (x:=x+1) (by omega) (by omega)]
        exact ih (x+1) _ _ _ _ (by omega) (by omega) (by omega) ha hc hu
    · simp only [if_neg hx]
      exact Tot.ret _ ⟨⟨ha,hc⟩,hr.2⟩
theorem fO_ {b:List Int} {i:Int} (h n:Int) (hn:n≤20) (hb:b.length≤1048576) (hi:Cur b i):Tot (fun k=>spec_l15Keep.f k b i h n) (fun r=>(r.1.length≤20∧r.2.1.length≤20)∧Cur b r.2.2.1):=by
  unfold spec_l15Keep.f spec_KeepNew.f
  simp only [Option.bind_some]
  refine Tot.bind (gI_ 1 _ _ 1 0 0 _ _ 0 (by simp) (by simp)) fun r hr=>?_
  exact fY_ hb n hn 20 0 i h r.1 r.2.1 (by omega) (by omega) (by omega) hr.1 hr.2 hi

/-! ### confv -/
def eP_:Nat→List (List Int)
  |0=>[[]]
  |n+1=>eP_ n ++ (eP_ n).map (· ++ [((n:Int)+1)])
theorem dJ_:∀ (n:Nat) (l:List Int),l∈eP_ n→l.length≤n:=by
  intro n
  induction n with
  |zero=>intro l h;simp [eP_] at h;subst h;simp
  |succ n ih=>
    intro l h
    unfold eP_ at h
    rcases List.mem_append.1 h with h|h
    · have:=ih l h;omega
    · obtain⟨m,hm,rfl⟩:=List.mem_map.1 h
      have:=ih m hm
      rw [List.length_append,List.length_singleton]
      omega
theorem es_:∀ l∈eP_ 4,l.length≠0→ap_ l=true:=by decide
theorem eR_:ap_ [1]=true:=by decide
theorem dl_ {b:List Int} (hb:b.length≤1048576):∀ (d n:Nat) (l:List Int) (i h:Int),4 - n=d→n≤4→l∈eP_ n→Cur b i→Tot (fun k=>spec_l05Conf.l0 k l ((n:Int)+1) b i h) (fun r=>ap_ r.1=true∧Cur b r.2.1):=by
  intro d
  induction d with
  |zero=>
    intro n l i h hd h5 hl hi
    obtain rfl:n=4:=by omega
    have hlen:=dJ_ _ _ hl
    refine Tot.step (fun k=>rfl) ?_
    simp only [spec_l05Conf.l0,if_neg (show ¬ ((4:Nat):Int)+1≤4 by omega)]
    by_cases h0:(l.length:Int)=0
    · have hn:l=[]:=List.length_eq_zero_iff.1 (by omega)
      subst hn
      simp only [if_pos h0,if_pos (show ([]:List Int).length<17592186044416 by simp)]
      exact Tot.ret _ ⟨eR_,hi⟩
    · simp only [if_neg h0]
      exact Tot.ret _ ⟨es_ l hl (by omega),hi⟩
  |succ d ih=>
    intro n l i h hd h5 hl hi
    have hlen:=dJ_ _ _ hl
    refine Tot.step (fun k=>rfl) ?_
    simp only [spec_l05Conf.l0,if_pos (show (n:Int)+1≤4 by omega)]
    refine Tot.bind (fw_ h 2 hb hi) fun r hr=>?_
    have e:wrap64 ((n:Int)+1+1)=((n+1:Nat):Int)+1:=by rw [w64 (by omega) (by omega)];omega
    by_cases hr1:r.1=true
    · simp only [if_pos hr1,if_pos (show l.length<17592186044416 by omega),e]
      exact ih (n+1) _ _ _ (by omega) (by omega) (by unfold eP_;exact List.mem_append.2 (.inr (List.mem_map.2 ⟨l,hl,rfl⟩))) hr
    · simp only [if_neg hr1,e]
      exact ih (n+1) _ _ _ (by omega) (by omega) (by unfold eP_;exact List.mem_append.2 (.inl hl)) hr
theorem ev_ {b:List Int} {i:Int} (h:Int) (hb:b.length≤1048576) (hi:Cur b i):Tot (fun k=>spec_l05Conf.f k b i h) (fun r=>ap_ r.1=true∧Cur b r.2.1):=
  dl_ hb 4 0 [] i h (by omega) (by omega) (by simp [eP_]) hi

/-! ### snap -/
def ao_ (i t:Int) (c:List Int) (b:ByteArray):ByteArray:=aj_ i ++ aj_ t ++ aa_ (au_ c) ++ aa_ b
def ad_ (i t:Int) (c:List Int) (b:ByteArray):ByteArray:=ao_ i t c b ++ cM_ (ao_ i t c b)
structure GoodSnap (i t:Int) (c:List Int) (b:ByteArray):Prop where
  hi:0≤i∧i≤1000000
  ht:0≤t∧t≤100000
  hc:ap_ c=true
  hb:b.size≤1000
theorem aB_ {c:List Int} (h:ap_ c=true):(au_ c).size≤4:=by
  have:=cb_ c
  unfold az_ at this
  rw [if_pos h] at this
  exact this
theorem aC_ {i t:Int} {c:List Int} {b:ByteArray} (h:GoodSnap i t c b):(ao_ i t c b).size≤2000:=by
  have h1:=ac_ i
  have h2:=ac_ t
  have h3:=ae_ (au_ c)
  have h4:=ae_ b
  have h5:=aB_ h.hc
  have h6:=h.hb
  unfold ao_
  simp only [ByteArray.size_append]
  omega
theorem an_ {i t:Int} {c:List Int} {b:ByteArray} (h:GoodSnap i t c b):(ad_ i t c b).size≤2004∧4≤(ad_ i t c b).size:=by
  have h1:=aC_ h
  have h2:=cF_ (ao_ i t c b)
  unfold ad_
  rw [ByteArray.size_append]
  omega
theorem aS_ (i:Int):impl_isIndex.f i=some (rng i 0 1000000):=by unfold impl_isIndex.f;rw [aM_];rfl
theorem bL_ (i:Int):impl_isTerm.f i=some (rng i 0 100000):=by unfold impl_isTerm.f;rw [aM_];rfl
theorem aN_ (s:ByteArray) (hs:s.size≤1000000000):Ev (fun k=>spec_l05Short.f k s) (aa_ s):=by
  have h1:=ac_ (s.size:Int)
  unfold spec_l05Short.f
  refine Ev.bind (am_ _ (by omega) (by omega)) ?_
  simp only [if_pos (show (aj_ (s.size:Int)).size+s.size≤9223372036854775807 by omega)]
  exact Ev.now _
theorem cc_ {i t:Int} {c:List Int} {b:ByteArray} (h:GoodSnap i t c b):(aj_ i).size≤9∧(aj_ t).size≤9∧(aa_ (au_ c)).size≤13∧(aa_ b).size≤1009:=by
  have h1:=ac_ i
  have h2:=ac_ t
  have h3:=ae_ (au_ c)
  have h4:=ae_ b
  have h5:=aB_ h.hc
  have h6:=h.hb
  exact⟨h1,h2,by omega,by omega⟩
theorem bi_ {i t:Int} {c:List Int} {b:ByteArray} (h:GoodSnap i t c b):Ev (fun k=>spec_SnapText.f k i t c b) (ad_ i t c b,true):=by
  have hl:=bn_ h.hc
  obtain⟨s1,s2,s3,s4⟩:=cc_ h
  have hz:=aC_ h
  unfold spec_SnapText.f
  refine Ev.bind (bh_ c (by omega)) ?_
  have hb:=h.hb
  simp only [az_,if_pos h.hc,if_true,bc_,ab_.2 h.hi,ab_.2 h.ht,Option.bind_some,decide_eq_false (show ¬ (b.size:Int)>20000 by omega)]
  refine Ev.step (fun k=>by simp only [spec_SnapText.j0,Bool.false_eq_true,if_false];rfl) ?_
  refine Ev.bind (am_ i (by have:=h.hi;omega) (by have:=h.hi;omega)) ?_
  refine Ev.bind (am_ t (by have:=h.ht;omega) (by have:=h.ht;omega)) ?_
  simp only [if_pos (show (aj_ i).size+(aj_ t).size≤9223372036854775807 by omega)]
  refine Ev.bind (aN_ _ (by have:=aB_ h.hc;omega)) ?_
  simp only [if_pos (show (aj_ i ++ aj_ t).size+(aa_ (au_ c)).size≤9223372036854775807 by rw [ByteArray.size_append];omega)]
  refine Ev.bind (aN_ _ (by omega)) ?_
  simp only [if_pos (show (aj_ i ++ aj_ t ++ aa_ (au_ c)).size+(aa_ b).size≤9223372036854775807 by simp only [ByteArray.size_append];omega)]
  have e:aj_ i ++ aj_ t ++ aa_ (au_ c) ++ aa_ b=ao_ i t c b:=rfl
  rw [e,w64 (by omega) (by omega)]
  simp only [if_neg (show ¬ ((ao_ i t c b).size:Int)+4>20000 by omega)]
  refine Ev.bind (aV_ _) ?_
  rw [if_pos (by omega)]
  exact Ev.now _
theorem cz_ {i t:Int} {c:List Int} {b:ByteArray} (h:GoodSnap i t c b):Ev (fun k=>impl_SnapText.f k i t c b) (ad_ i t c b,true):=by
  have hl:=bn_ h.hc
  obtain⟨s1,s2,s3,s4⟩:=cc_ h
  have hz:=aC_ h
  have hy:=an_ h
  have hb:=h.hb
  have hi:=h.hi
  have ht:=h.ht
  unfold impl_SnapText.f
  refine Ev.bind (cu_ c (by omega)) ?_
  refine Ev.bind (cd_ b (by omega)) ?_
  simp only [az_,if_pos h.hc,if_true,aS_,bL_,ab_.2 h.hi,ab_.2 h.ht,Option.bind_some]
  refine Ev.bind (dh_ [i,t] (by simp) (by simp only [List.mem_cons,List.not_mem_nil,or_false];rintro x (rfl|rfl) <;> omega)) ?_
  refine Ev.bind (cn_ [au_ c] (by simp) (by simp only [List.mem_cons,List.not_mem_nil,or_false];rintro x rfl;have:=aB_ h.hc;omega)) ?_
  simp only [bZ_,aq_]
  simp only [if_pos (show (aj_ i ++ aj_ t).size+(aa_ (au_ c)).size≤9223372036854775807 by rw [ByteArray.size_append];omega),
    if_pos (show (aj_ i ++ aj_ t ++ aa_ (au_ c)).size+(aa_ b).size≤9223372036854775807 by simp only [ByteArray.size_append];omega)]
  have e:aj_ i ++ aj_ t ++ aa_ (au_ c) ++ aa_ b=ao_ i t c b:=rfl
  rw [e]
  refine Ev.bind (aX_ _) ?_
  rw [if_pos (show (ao_ i t c b).size≤20000 by omega)]
  have e2:ao_ i t c b ++ cM_ (ao_ i t c b)=ad_ i t c b:=rfl
  rw [e2]
  simp only [if_true,if_neg (show ¬ ((ad_ i t c b).size:Int)>20000 by omega)]
  exact Ev.now _
theorem ds_ (s:ByteArray) (hs:s.size≤20000):unB (s ++ cM_ s)=(s,true):=by
  have h4:=cF_ s
  have hz:(s ++ cM_ s).size=s.size+4:=by rw [ByteArray.size_append,h4]
  have e1:(s ++ cM_ s).extract 0 s.size=s:=by
    apply aL_
    rw [aW_,aE_,List.drop_zero,Nat.sub_zero,←bytesOf_length s,List.take_left]
  have e2:(s ++ cM_ s).extract s.size (s.size+4)=cM_ s:=by
    apply aL_
    rw [aW_,aE_,←bytesOf_length s,List.drop_left,Nat.add_sub_cancel_left,List.take_of_length_le (by rw [bytesOf_length,h4];omega)]
  unfold unB
  rw [hz,Nat.add_sub_cancel,e1,e2,if_pos ⟨by omega,by omega,rfl⟩]
theorem eo_ {i t:Int} {c:List Int} {b:ByteArray} (h:GoodSnap i t c b):Ev (fun k=>impl_ReadSnap.f k (ad_ i t c b)) (i,t,c,b,true):=by
  have hz:=aC_ h
  have hy:=an_ h
  have hi:=h.hi
  have ht:=h.ht
  have hc4:=aB_ h.hc
  have hb:(bytesOf (ao_ i t c b)).drop 0=bytesOf (aj_ i) ++ (bytesOf (aj_ t) ++ (bytesOf (aa_ (au_ c)) ++ (bytesOf (aa_ b) ++ []))):=by
    rw [List.drop_zero]
    unfold ao_
    rw [aE_,aE_,aE_,List.append_assoc,List.append_assoc,List.append_nil]
  have hlen:(ao_ i t c b).size=(bytesOf (aj_ i)).length+((bytesOf (aj_ t)).length+((bytesOf (aa_ (au_ c))).length+(bytesOf (aa_ b)).length)):=by
    have:=congrArg List.length hb
    simp only [List.drop_zero,List.length_append,List.length_nil,bytesOf_length] at this ⊢
    omega
  obtain⟨e1,hb⟩:=cj_ (p:=0) ⟨by omega,by omega⟩ hb
  obtain⟨e2,hb⟩:=cj_ ⟨by omega,by omega⟩ hb
  obtain⟨e3,hb⟩:=eN_ (by omega) hb
  obtain⟨e4,_⟩:=eN_ h.hb hb
  unfold impl_ReadSnap.f
  have hu:Ev (fun k=>impl_Unsealed.f k (ad_ i t c b)) (ao_ i t c b,true):=by
    have:=aP_ (ad_ i t c b) (by omega)
    unfold ad_ at this
    rw [ds_ _ (by omega)] at this
    exact this
  refine Ev.bind hu ?_
  simp only [Bool.not_true]
  refine Ev.bind (bB_ _ 0 false (by omega)) ?_
  rw [show ((0:Nat):Int)=0 from rfl] at e1
  simp only [e1]
  refine Ev.bind (bB_ _ _ false (by omega)) ?_
  simp only [e2]
  refine Ev.bind (bG_ _ _ false (by omega)) ?_
  simp only [e3]
  refine Ev.bind (bG_ _ _ false (by omega)) ?_
  simp only [e4]
  refine Ev.bind (bl_ (au_ c) (by omega)) ?_
  have hcr:ax_ (au_ c)=(c,true):=by
    unfold ax_
    rw [cG_ h.hc,if_pos h.hc]
  rw [hcr]
  simp only [ey_,Option.bind_some]
  rw [show ((((0+(bytesOf (aj_ i)).length+(bytesOf (aj_ t)).length+(bytesOf (aa_ (au_ c))).length+(bytesOf (aa_ b)).length:Nat):Int)) == ((ao_ i t c b).size:Int))=true by rw [beq_iff_eq,hlen];exact congrArg Int.ofNat (by omega)]
  simp only [if_true,aS_,bL_,ab_.2 hi,ab_.2 ht,Option.bind_some,decide_eq_false (show ¬ ((ad_ i t c b).size:Int)>20000 by omega)]
  exact Ev.here (f:=fun _=>some (i,t,c,b,true)) (fun k=>by simp only [impl_ReadSnap.j0,Bool.false_eq_true,if_false]) (fun _=>rfl)

/-! ### disk -/
abbrev Fl:=S59
def lt (a b:ByteArray):Bool:=Op.bytesLess a.toList b.toList
theorem dR_:∀ x y z:List UInt8,Op.bytesLess x y=true→Op.bytesLess y z=true→Op.bytesLess x z=true:=by
  intro x
  induction x with
  |nil=>
    intro y z h1 h2
    cases y with
    |nil=>simp [Op.bytesLess] at h1
    |cons b y=>
      cases z with
      |nil=>simp [Op.bytesLess] at h2
      |cons c z=>rfl
  |cons a x ih=>
    intro y z h1 h2
    cases y with
    |nil=>simp [Op.bytesLess] at h1
    |cons b y=>
      cases z with
      |nil=>simp [Op.bytesLess] at h2
      |cons c z=>
        simp only [Op.bytesLess,Bool.or_eq_true,Bool.and_eq_true,decide_eq_true_eq,beq_iff_eq] at h1 h2 ⊢
        rcases h1 with h1|⟨h1,h3⟩
        · rcases h2 with h2|⟨h2,h4⟩
          · exact .inl (UInt8.lt_trans h1 h2)
          · exact .inl (h2 ▸ h1)
        · rcases h2 with h2|⟨h2,h4⟩
          · exact .inl (h1 ▸ h2)
          · exact .inr ⟨h1.trans h2,ih y z h3 h4⟩
theorem dm_:∀ x:List UInt8,Op.bytesLess x x=false:=by
  intro x
  induction x with
  |nil=>rfl
  |cons a x ih=>simp [Op.bytesLess,ih]
theorem bH_ {a b c:ByteArray} (h1:lt a b=true) (h2:lt b c=true):lt a c=true:=dR_ _ _ _ h1 h2
theorem aD_ (a:ByteArray):lt a a=false:=dm_ _
theorem bQ_ {a b:ByteArray} (h:lt a b=true):a≠b:=by intro e;subst e;rw [aD_] at h;cases h
def bC_ (f:Fl):Prop:=(1≤f.f0.size∧f.f0.size≤8)∧f.f1.size≤20000∧(0≤f.f2∧f.f2≤(f.f1.size:Int))
structure GoodDisk (d:List Fl):Prop where
  hl:d.length≤30
  hf:∀ f∈d,bC_ f
  hp:d.Pairwise (fun a b=>lt a.f0 b.f0=true)
theorem ar_ {l:List Fl} {j:Nat} (h:j<l.length):rd_T59 l (j:Int)=l[j]:=by unfold rd_T59;exact bb_ _ h
theorem cA_ {l:List Fl} (h:l.Pairwise (fun a b=>lt a.f0 b.f0=true)) {i j:Nat} (hj:j<l.length) (hij:i<j):lt (l[i]'(by omega)).f0 l[j].f0=true:=
  List.pairwise_iff_getElem.1 h i j (by omega) hj hij
theorem ca_ {d:List Fl} (h:GoodDisk d):∀ (m j:Nat),d.length - j=m→j≤d.length→Ev (fun k=>impl_DiskOk.l0 k d (d.length:Int) (j:Int) d) true:=by
  have hl:=h.hl
  intro m
  induction m with
  |zero=>
    intro j hm hj
    exact Ev.here (f:=fun _=>some true) (fun k=>by simp only [impl_DiskOk.l0];rw [if_neg (by omega),decide_eq_true (by omega)]) (fun _=>rfl)
  |succ m ih=>
    intro j hm hj
    have hjl:j<d.length:=by omega
    obtain⟨g1,g2,g3⟩:=h.hf d[j] (List.getElem_mem hjl)
    have r1:rng ((d[j].f0.size:Int)) 1 8=true:=ab_.2 ⟨by omega,by omega⟩
    have r2:rng d[j].f2 0 (d[j].f1.size:Int)=true:=ab_.2 g3
    have step:Ev (fun k=>impl_DiskOk.j1 k d (d.length:Int) (j:Int) d) true:=by
      refine Ev.step (fun k=>by simp only [impl_DiskOk.j1];rfl) ?_
      rw [w64 (x:=(j:Int)+1) (by omega) (by omega)]
      exact ih (j+1) (by omega) (by omega)
    refine Ev.step (fun k=>by simp only [impl_DiskOk.l0];rw [if_pos (show (j:Int)<(d.length:Int) by omega),if_pos (show (0:Int)≤(j:Int) by omega)]) ?_
    simp only [if_pos (show (j:Int)<(d.length:Int) by omega),ar_ hjl,aM_,Option.bind_some,r1,r2,if_true,if_neg (show ¬ (d[j].f1.size:Int)>20000 by omega)]
    by_cases h0:(j:Int)>0
    · have e1:wrap64 ((j:Int) - 1)=((j - 1:Nat):Int):=by rw [w64 (by omega) (by omega)];omega
      have hlt:=cA_ h.hp hjl (show j - 1<j by omega)
      unfold lt at hlt
      simp only [if_pos h0,e1,if_pos (show (0:Int)≤((j - 1:Nat):Int) by omega),if_pos (show ((j - 1:Nat):Int)<(d.length:Int) by omega),ar_ (show j - 1<d.length by omega),hlt,if_true]
      exact step
    · simp only [if_neg h0]
      exact step
theorem cO_ {d:List Fl} (h:GoodDisk d):Ev (fun k=>impl_DiskOk.f k d) true:=ca_ h d.length 0 (by omega) (by omega)
theorem br_ (s:ByteArray):spec_l03Name.f s=some (rng (s.size:Int) 1 8):=by unfold spec_l03Name.f;rw [bc_];rfl
theorem bY_ {d:List Fl} (h:GoodDisk d):∀ (m j:Nat),d.length - j=m→j≤d.length→Ev (fun k=>spec_DiskOk.l0 k (j:Int) d) true:=by
  have hl:=h.hl
  intro m
  induction m with
  |zero=>
    intro j hm hj
    exact Ev.here (f:=fun _=>some true) (fun k=>by simp only [spec_DiskOk.l0];rw [if_neg (by omega)]) (fun _=>rfl)
  |succ m ih=>
    intro j hm hj
    have hjl:j<d.length:=by omega
    obtain⟨g1,g2,g3⟩:=h.hf d[j] (List.getElem_mem hjl)
    have r1:rng ((d[j].f0.size:Int)) 1 8=true:=ab_.2 ⟨by omega,by omega⟩
    have r2:rng d[j].f2 0 (d[j].f1.size:Int)=true:=ab_.2 g3
    have step:Ev (fun k=>spec_DiskOk.j1 k (j:Int) d) true:=by
      refine Ev.step (fun k=>by simp only [spec_DiskOk.j1];rfl) ?_
      rw [w64 (x:=(j:Int)+1) (by omega) (by omega)]
      exact ih (j+1) (by omega) (by omega)
    refine Ev.step (fun k=>by simp only [spec_DiskOk.l0];rw [if_pos (show (j:Int)<(d.length:Int) by omega),if_pos (show (0:Int)≤(j:Int) by omega)]) ?_
    simp only [ar_ hjl,br_,bc_,Option.bind_some,r1,r2,if_true,if_neg (show ¬ (d[j].f1.size:Int)>20000 by omega)]
    by_cases h0:(j:Int)>0
    · have e1:wrap64 ((j:Int) - 1)=((j - 1:Nat):Int):=by rw [w64 (by omega) (by omega)];omega
      have hlt:=cA_ h.hp hjl (show j - 1<j by omega)
      unfold lt at hlt
      simp only [if_pos h0,e1,if_pos (show (0:Int)≤((j - 1:Nat):Int) by omega),if_pos (show ((j - 1:Nat):Int)<(d.length:Int) by omega),ar_ (show j - 1<d.length by omega),hlt,if_true]
      exact step
    · simp only [if_neg h0]
      exact step
theorem bj_ {d:List Fl} (h:GoodDisk d):Ev (fun k=>spec_DiskOk.f k d) true:=by
  have hl:=h.hl
  unfold spec_DiskOk.f
  simp only [if_neg (show ¬ (d.length:Int)>30 by omega)]
  exact bY_ h d.length 0 (by omega) (by omega)
def put (d:List Fl) (n t:ByteArray) (v:Int):List Fl:=d.filter (fun f=>lt f.f0 n) ++ (⟨n,t,v⟩:Fl) :: d.filter (fun f=>lt n f.f0)
def bV_ (d:List Fl) (n:ByteArray):List Fl:=d.filter (fun f=>!(decide (f.f0=n)))
theorem aw_ {α:Type} {p:α→Bool} {l:List α} {j:Nat} (h:j<l.length):(l.take (j+1)).filter p=(l.take j).filter p ++ (if p l[j]=true then [l[j]] else []):=by
  rw [←List.take_append_getElem h,List.filter_append]
  congr 1
  by_cases hp:p l[j]=true
  · rw [if_pos hp,List.filter_cons_of_pos hp];rfl
  · rw [if_neg hp,List.filter_cons_of_neg hp];rfl
theorem aJ_ {α:Type} {p:α→Bool} {l:List α} {n:Nat} (h:l.length≤n):(l.filter p).length≤n:=Nat.le_trans (List.length_filter_le p l) h
theorem gl_ {d:List Fl} (n t:ByteArray) (v:Int) (a:List Fl) (hd:d.length≤1000) (ha:a.length≤2000):∀ (m j:Nat),d.length - j=m→j≤d.length→Ev (fun k=>spec_l03Put.l1 k (j:Int) d n t v (a ++ (d.take j).filter (fun f=>lt n f.f0))) (a ++ d.filter (fun f=>lt n f.f0)):=by
  intro m
  induction m with
  |zero=>
    intro j hm hj
    rw [List.take_of_length_le (by omega)]
    exact Ev.here (f:=fun _=>some (a ++ d.filter (fun f=>lt n f.f0))) (fun k=>by simp only [spec_l03Put.l1];rw [if_neg (by omega)]) (fun _=>rfl)
  |succ m ih=>
    intro j hm hj
    have hjl:j<d.length:=by omega
    have hz:(a ++ (d.take j).filter (fun f=>lt n f.f0)).length<3518437208883:=by
      have:=aJ_ (p:=fun f:Fl=>lt n f.f0) (l:=d.take j) (n:=1000) (by rw [List.length_take];omega)
      rw [List.length_append];omega
    have hn:=ih (j+1) (by omega) (by omega)
    refine Ev.step (fun k=>by simp only [spec_l03Put.l1];rw [if_pos (show (j:Int)<(d.length:Int) by omega),if_pos (show (0:Int)≤(j:Int) by omega)]) ?_
    simp only [ar_ hjl,w64 (x:=(j:Int)+1) (by omega) (by omega)]
    rw [aw_ hjl] at hn
    by_cases hc:lt n d[j].f0=true
    · have hc':=hc
      unfold lt at hc'
      simp only [if_pos hc',if_pos hz]
      rw [if_pos hc,←List.append_assoc] at hn
      exact hn
    · have hc':=hc
      unfold lt at hc'
      simp only [if_neg hc']
      rw [if_neg hc,List.append_nil] at hn
      exact hn
theorem gk_ {d:List Fl} (n t:ByteArray) (v:Int) (hd:d.length≤1000):∀ (m j:Nat),d.length - j=m→j≤d.length→Ev (fun k=>spec_l03Put.l0 k (j:Int) d n t v ((d.take j).filter (fun f=>lt f.f0 n))) (put d n t v):=by
  intro m
  induction m with
  |zero=>
    intro j hm hj
    rw [List.take_of_length_le (by omega)]
    have hz:=aJ_ (p:=fun f:Fl=>lt f.f0 n) hd
    refine Ev.step (fun k=>by simp only [spec_l03Put.l0];rw [if_neg (show ¬ (j:Int)<(d.length:Int) by omega),if_pos (show (d.filter (fun f=>lt f.f0 n)).length<3518437208883 by omega)]) ?_
    have:=gl_ n t v (d.filter (fun f=>lt f.f0 n) ++ [(⟨n,t,v⟩:Fl)]) hd (by rw [List.length_append,List.length_singleton];omega) d.length 0 (by omega) (by omega)
    rw [List.take_zero,List.filter_nil,List.append_nil,List.append_assoc] at this
    exact this
  |succ m ih=>
    intro j hm hj
    have hjl:j<d.length:=by omega
    have hz:((d.take j).filter (fun f=>lt f.f0 n)).length<3518437208883:=by
      have:=aJ_ (p:=fun f:Fl=>lt f.f0 n) (l:=d.take j) (n:=1000) (by rw [List.length_take];omega)
      omega
    have hn:=ih (j+1) (by omega) (by omega)
    refine Ev.step (fun k=>by simp only [spec_l03Put.l0];rw [if_pos (show (j:Int)<(d.length:Int) by omega),if_pos (show (0:Int)≤(j:Int) by omega)]) ?_
    simp only [ar_ hjl,w64 (x:=(j:Int)+1) (by omega) (by omega)]
    rw [aw_ hjl] at hn
    by_cases hc:lt d[j].f0 n=true
    · have hc':=hc
      unfold lt at hc'
      simp only [if_pos hc',if_pos hz]
      rw [if_pos hc] at hn
      exact hn
    · have hc':=hc
      unfold lt at hc'
      simp only [if_neg hc']
      rw [if_neg hc,List.append_nil] at hn
      exact hn
theorem bk_ {d:List Fl} (n t:ByteArray) (v:Int) (hd:d.length≤1000):Ev (fun k=>spec_l03Put.f k d n t v) (put d n t v):=by
  have:=gk_ n t v hd d.length 0 (by omega) (by omega)
  rw [List.take_zero,List.filter_nil] at this
  exact this
theorem fH_ {d:List Fl} (n:ByteArray) (hd:d.length≤1000):∀ (m j:Nat),d.length - j=m→j≤d.length→Ev (fun k=>spec_l03Without.l0 k n (j:Int) d (bV_ (d.take j) n)) (bV_ d n):=by
  intro m
  induction m with
  |zero=>
    intro j hm hj
    rw [List.take_of_length_le (by omega)]
    exact Ev.here (f:=fun _=>some (bV_ d n)) (fun k=>by simp only [spec_l03Without.l0];rw [if_neg (by omega)]) (fun _=>rfl)
  |succ m ih=>
    intro j hm hj
    have hjl:j<d.length:=by omega
    have hz:(bV_ (d.take j) n).length<3518437208883:=by
      have:=aJ_ (p:=fun f:Fl=>!(decide (f.f0=n))) (l:=d.take j) (n:=1000) (by rw [List.length_take];omega)
      unfold bV_;omega
    have hn:=ih (j+1) (by omega) (by omega)
    refine Ev.step (fun k=>by simp only [spec_l03Without.l0];rw [if_pos (show (j:Int)<(d.length:Int) by omega),if_pos (show (0:Int)≤(j:Int) by omega)]) ?_
    simp only [ar_ hjl,w64 (x:=(j:Int)+1) (by omega) (by omega),ag_]
    unfold bV_ at hn hz ⊢
    rw [aw_ hjl] at hn
    by_cases hc:d[j].f0=n
    · simp only [if_pos hc]
      rw [if_neg (by simp [hc]),List.append_nil] at hn
      exact hn
    · simp only [if_neg hc,if_pos hz]
      rw [if_pos (by simp [hc])] at hn
      exact hn
theorem cQ_ {d:List Fl} (n:ByteArray) (hd:d.length≤1000):Ev (fun k=>spec_l03Without.f k d n) (bV_ d n):=by
  have:=fH_ n hd d.length 0 (by omega) (by omega)
  rw [List.take_zero] at this
  exact this
theorem gW_ {d:List Fl} {n:ByteArray} (hd:d.length≤1000) (h:∀ f∈d,f.f0≠n):Ev (fun k=>spec_l03At.f k d n) (-1):=by
  unfold spec_l03At.f
  have:∀ (m j:Nat),d.length - j=m→j≤d.length→Ev (fun k=>spec_l03At.l0 k n (j:Int) d) (-1):=by
    intro m
    induction m with
    |zero=>
      intro j hm hj
      exact Ev.here (f:=fun _=>some (-1)) (fun k=>by simp only [spec_l03At.l0];rw [if_neg (by omega)]) (fun _=>rfl)
    |succ m ih=>
      intro j hm hj
      have hjl:j<d.length:=by omega
      refine Ev.step (fun k=>by simp only [spec_l03At.l0];rw [if_pos (show (j:Int)<(d.length:Int) by omega),if_pos (show (0:Int)≤(j:Int) by omega)]) ?_
      simp only [ar_ hjl,w64 (x:=(j:Int)+1) (by omega) (by omega),ag_,if_neg (h _ (List.getElem_mem hjl))]
      exact ih (j+1) (by omega) (by omega)
  exact this d.length 0 (by omega) (by omega)
theorem gp_ {d:List Fl} {n:ByteArray} {i:Nat} (hd:d.length≤1000) (hi:i<d.length) (h:∀ j (hj:j<i),(d[j]'(by omega)).f0≠n) (hf:d[i].f0=n):Ev (fun k=>spec_l03At.f k d n) (i:Int):=by
  unfold spec_l03At.f
  have:∀ (m j:Nat),i - j=m→j≤i→Ev (fun k=>spec_l03At.l0 k n (j:Int) d) (i:Int):=by
    intro m
    induction m with
    |zero=>
      intro j hm hj
      obtain rfl:j=i:=by omega
      exact Ev.here (f:=fun _=>some (j:Int)) (fun k=>by simp only [spec_l03At.l0];rw [if_pos (show (j:Int)<(d.length:Int) by omega),if_pos (show (0:Int)≤(j:Int) by omega),ar_ hi,if_pos (ag_.2 hf)]) (fun _=>rfl)
    |succ m ih=>
      intro j hm hj
      have hjl:j<d.length:=by omega
      refine Ev.step (fun k=>by simp only [spec_l03At.l0];rw [if_pos (show (j:Int)<(d.length:Int) by omega),if_pos (show (0:Int)≤(j:Int) by omega)]) ?_
      simp only [ar_ hjl,w64 (x:=(j:Int)+1) (by omega) (by omega),ag_,if_neg (h j (by omega))]
      exact ih (j+1) (by omega) (by omega)
  exact this i 0 (by omega) (by omega)

/-! ### acts -/
abbrev Ac:=S65
def mt:ByteArray:=(⟨#[]⟩:ByteArray)
theorem eu_:mt.toList=([]:List UInt8):=bw_.2 rfl
theorem de_ {α:Type} {p q:α→Bool} (h:∀ x,p x=true→q x=false):∀ l:List α,(l.filter p).length+(l.filter q).length≤l.length:=by
  intro l
  induction l with
  |nil=>simp
  |cons a l ih=>
    cases hp:p a with
    |true=>rw [List.filter_cons_of_pos hp,List.filter_cons_of_neg (by rw [h a hp];simp)];simp only [List.length_cons];omega
    |false=>
      rw [List.filter_cons_of_neg (by rw [hp];simp)]
      cases hq:q a with
      |true=>rw [List.filter_cons_of_pos hq];simp only [List.length_cons];omega
      |false=>rw [List.filter_cons_of_neg (by rw [hq];simp)];simp only [List.length_cons];omega
theorem bS_ (d:List Fl) (n t:ByteArray) (v:Int):(put d n t v).length≤d.length+1:=by
  have:=de_ (p:=fun f:Fl=>lt f.f0 n) (q:=fun f:Fl=>lt n f.f0) (fun x h=>by
    cases h2:lt n x.f0 with
    |false=>rfl
    |true=>have h3:=bH_ h h2;rw [aD_] at h3;cases h3) d
  unfold put
  simp only [List.length_append,List.length_cons]
  exact Nat.add_le_add_right this 1
theorem bF_ {d:List Fl} {n t:ByteArray} {v:Int} (h:GoodDisk d) (hf:bC_ (⟨n,t,v⟩:Fl)) (hl:(put d n t v).length≤30):GoodDisk (put d n t v):=by
  refine⟨hl,fun f hm=>?_, ?_⟩
  · unfold put at hm
    rcases List.mem_append.1 hm with hm|hm
    · exact h.hf f (List.mem_filter.1 hm).1
    · rcases List.mem_cons.1 hm with rfl|hm
      · exact hf
      · exact h.hf f (List.mem_filter.1 hm).1
  · unfold put
    refine List.pairwise_append.2 ⟨h.hp.sublist List.filter_sublist,List.pairwise_cons.2 ⟨fun f hm=>(List.mem_filter.1 hm).2,h.hp.sublist List.filter_sublist⟩,fun x hx y hy=>?_⟩
    have hx2:=(List.mem_filter.1 hx).2
    rcases List.mem_cons.1 hy with rfl|hy
    · exact hx2
    · exact bH_ hx2 (List.mem_filter.1 hy).2
theorem bN_ {d:List Fl} (n:ByteArray) (h:GoodDisk d):GoodDisk (bV_ d n):=
  ⟨aJ_ h.hl,fun f hm=>h.hf f (List.mem_filter.1 hm).1,h.hp.sublist List.filter_sublist⟩
theorem eD_ {f:Fl} {d:List Fl} (h:GoodDisk (f :: d)):GoodDisk d:=
  ⟨by have:=h.hl;simp only [List.length_cons] at this;omega,fun x hx=>h.hf x (List.mem_cons_of_mem _ hx),(List.pairwise_cons.1 h.hp).2⟩
theorem gE_ {d:List Fl} {f:Fl} (h:GoodDisk d) (hm:f∈d):∃ i,∃ hi:i<d.length,d[i]=f∧Ev (fun k=>spec_l03At.f k d f.f0) (i:Int):=by
  obtain⟨i,hi,e⟩:=List.getElem_of_mem hm
  have hl:=h.hl
  refine⟨i,hi,e,gp_ (by omega) hi (fun j hj=>?_) (by rw [e])⟩
  rw [←e]
  exact bQ_ (cA_ h.hp hi hj)
theorem cY_ {d:List Fl} (h:GoodDisk d):Ev (fun k=>spec_DoAct.j3 k d) (d,true):=by
  refine Ev.step (fun k=>by simp only [spec_DoAct.j3];rfl) ?_
  refine Ev.bind (bj_ h) ?_
  simp only [if_true]
  exact Ev.now _
theorem cN_ {d:List Fl} {o:Int} {n t u:ByteArray} {r:List Fl × Bool} (h:GoodDisk d) (hn:1≤n.size∧n.size≤8) (hu:o≠3→u=mt) (ht:o≠1→t=mt) (hr:Ev (fun k=>spec_DoAct.j0 k false d o n t u) r):Ev (fun k=>spec_DoAct.f k d o n t u) r:=by
  unfold spec_DoAct.f
  refine Ev.bind (bj_ h) ?_
  simp only [if_true,br_,ab_.2 (show 1≤(n.size:Int)∧(n.size:Int)≤8 by omega),Option.bind_some]
  have e:((mt.toList:List UInt8) != ([]:List UInt8))=false:=by rw [eu_];rfl
  by_cases h3:o=3
  · have h1:¬ o=1:=by omega
    have:=ht h1
    subst this
    simp only [if_pos h3,if_neg h1,e]
    exact hr
  · have:=hu h3
    subst this
    simp only [if_neg h3,if_pos eu_]
    by_cases h1:o=1
    · simp only [if_pos h1]
      exact hr
    · have:=ht h1
      subst this
      simp only [if_neg h1,e]
      exact hr
theorem dI_ {d:List Fl} {o:Int} {n t u:ByteArray} {r:List Fl × Bool} {f:Fl} (h:GoodDisk d) (hm:f∈d) (hn:f.f0=n) (hr:∀ i:Nat,Ev (fun k=>spec_DoAct.j1 k (i:Int) d o n t u f.f0 f.f1 f.f2) r):Ev (fun k=>spec_DoAct.j0 k false d o n t u) r:=by
  subst hn
  obtain⟨i,hi,e,ha⟩:=gE_ h hm
  refine Ev.step (fun k=>by simp only [spec_DoAct.j0,Bool.false_eq_true,if_false];rfl) ?_
  refine Ev.bind ha ?_
  simp only [if_pos (show (i:Int)≥0 by omega),if_pos (show (0:Int)≤(i:Int) by omega),if_pos (show (i:Int)<(d.length:Int) by omega),ar_ hi,e]
  exact hr i
theorem fJ_ {d:List Fl} {n t:ByteArray} (h:GoodDisk d) (hn:1≤n.size∧n.size≤8) (hno:∀ f∈d,f.f0≠n) (hg:GoodDisk (put d n t 0)) (hz:t.size≤20000):Ev (fun k=>spec_DoAct.f k d 1 n t mt) (put d n t 0,true):=by
  have hl:=h.hl
  refine cN_ h hn (fun _=>rfl) (fun h=>absurd rfl h) ?_
  refine Ev.step (fun k=>by simp only [spec_DoAct.j0,Bool.false_eq_true,if_false];rfl) ?_
  refine Ev.bind (gW_ (by omega) hno) ?_
  simp only [if_neg (show ¬ (-1:Int)≥0 by omega)]
  refine Ev.step (fun k=>by simp only [spec_DoAct.j1,if_true];rfl) ?_
  simp only [if_pos (show (⟨#[]⟩:ByteArray).size+t.size≤9223372036854775807 by have:(⟨#[]⟩:ByteArray).size=0:=rfl;omega),bR_]
  refine Ev.bind (bk_ n t 0 (by omega)) ?_
  exact cY_ hg
theorem gd_ {d:List Fl} {n t:ByteArray} {f:Fl} (h:GoodDisk d) (hm:f∈d) (hn:f.f0=n) (hg:GoodDisk (put d n (f.f1 ++ t) f.f2)) (hz:t.size≤20000):Ev (fun k=>spec_DoAct.f k d 1 n t mt) (put d n (f.f1 ++ t) f.f2,true):=by
  have hl:=h.hl
  have hgf:=h.hf f hm
  refine cN_ h (by rw [←hn];exact hgf.1) (fun _=>rfl) (fun h=>absurd rfl h) ?_
  refine dI_ h hm hn fun i=>?_
  refine Ev.step (fun k=>by simp only [spec_DoAct.j1,if_true];rfl) ?_
  simp only [if_pos (show f.f1.size+t.size≤9223372036854775807 by have:=hgf.2.1;omega),hn]
  refine Ev.bind (bk_ n _ _ (by omega)) ?_
  exact cY_ hg
theorem fe_ {d:List Fl} {n:ByteArray} {f:Fl} (h:GoodDisk d) (hm:f∈d) (hn:f.f0=n) (hg:GoodDisk (put d n f.f1 (f.f1.size:Int))):Ev (fun k=>spec_DoAct.f k d 2 n mt mt) (put d n f.f1 (f.f1.size:Int),true):=by
  have hl:=h.hl
  have hgf:=h.hf f hm
  refine cN_ h (by rw [←hn];exact hgf.1) (fun _=>rfl) (fun _=>rfl) ?_
  refine dI_ h hm hn fun i=>?_
  refine Ev.step (fun k=>by simp only [spec_DoAct.j1,if_true];rfl) ?_
  simp only [if_neg (show ¬ (2:Int)=1 by omega),if_neg (show ¬ (i:Int)<0 by omega),hn]
  refine Ev.bind (bk_ n _ _ (by omega)) ?_
  exact cY_ hg
theorem eW_ {d:List Fl} {n u:ByteArray} {f:Fl} (h:GoodDisk d) (hm:f∈d) (hn:f.f0=n) (hk:f.f2=(f.f1.size:Int)) (hu:1≤u.size∧u.size≤8) (hne:u≠n) (hg:GoodDisk (put (bV_ d n) u f.f1 f.f2)):Ev (fun k=>spec_DoAct.f k d 3 n mt u) (put (bV_ d n) u f.f1 f.f2,true):=by
  have hl:=h.hl
  have hgf:=h.hf f hm
  refine cN_ h (by rw [←hn];exact hgf.1) (fun h=>absurd rfl h) (fun _=>rfl) ?_
  refine dI_ h hm hn fun i=>?_
  refine Ev.step (fun k=>by simp only [spec_DoAct.j1,if_true];rfl) ?_
  simp only [if_neg (show ¬ (3:Int)=1 by omega),if_neg (show ¬ (i:Int)<0 by omega),if_neg (show ¬ (3:Int)=2 by omega),if_neg (show ¬ f.f2<(f.f1.size:Int) by omega),ag_,if_neg hne,br_,ab_.2 (show 1≤(u.size:Int)∧(u.size:Int)≤8 by omega),Option.bind_some,Bool.not_true]
  refine Ev.step (fun k=>by simp only [spec_DoAct.j2,Bool.false_eq_true,if_false];rfl) ?_
  refine Ev.bind (cQ_ n (by omega)) ?_
  refine Ev.bind (bk_ u _ _ (by have:=(bN_ n h).hl;omega)) ?_
  exact cY_ hg
theorem dw_ {d:List Fl} {n:ByteArray} {f:Fl} (h:GoodDisk d) (hm:f∈d) (hn:f.f0=n):Ev (fun k=>spec_DoAct.f k d 4 n mt mt) (bV_ d n,true):=by
  have hl:=h.hl
  have hgf:=h.hf f hm
  refine cN_ h (by rw [←hn];exact hgf.1) (fun _=>rfl) (fun _=>rfl) ?_
  refine dI_ h hm hn fun i=>?_
  refine Ev.step (fun k=>by simp only [spec_DoAct.j1,if_true];rfl) ?_
  simp only [if_neg (show ¬ (4:Int)=1 by omega),if_neg (show ¬ (i:Int)<0 by omega),if_neg (show ¬ (4:Int)=2 by omega),if_neg (show ¬ (4:Int)=3 by omega)]
  refine Ev.bind (cQ_ n (by omega)) ?_
  exact cY_ (bN_ n h)
inductive dg_:List Fl→List Ac→List Fl→Prop
  |nil (d:List Fl):dg_ d [] d
  |cons {d e g:List Fl} {a:Ac} {r:List Ac} (h:Ev (fun k=>spec_DoAct.f k d a.f0 a.f1 a.f2 a.f3) (e,true)) (h2:dg_ e r g):dg_ d (a :: r) g
theorem dg_.app {d e g:List Fl} {a r:List Ac} (h:dg_ d a e) (h2:dg_ e r g):dg_ d (a ++ r) g:=by
  induction h with
  |nil d=>exact h2
  |cons h _ ih=>exact .cons h (ih h2)
theorem gq_ {l:List Ac} {j:Nat} (h:j<l.length):rd_T65 l (j:Int)=l[j]:=by unfold rd_T65;exact bb_ _ h
theorem el_ {d e:List Fl} {r:List Ac} (h:dg_ d r e):∀ (l:List Ac) (j:Nat),l.length≤1000000→j≤l.length→l.drop j=r→Ev (fun k=>spec_DoActs.l0 k l (j:Int) d) (e,(l.length:Int)):=by
  induction h with
  |nil d=>
    intro l j hl hj hr
    have:l.length≤j:=by
      rcases Nat.lt_or_ge j l.length with h1|h1
      · have h2:=congrArg List.length hr
        rw [List.length_drop,List.length_nil] at h2
        omega
      · exact h1
    exact Ev.here (f:=fun _=>some (d,(l.length:Int))) (fun k=>by simp only [spec_DoActs.l0];rw [if_neg (by omega)]) (fun _=>rfl)
  |@cons d e g a r h _ ih=>
    intro l j hl hj hr
    have hjl:j<l.length:=by
      rcases Nat.lt_or_ge j l.length with h1|h1
      · exact h1
      · rw [List.drop_of_length_le h1] at hr;cases hr
    rw [List.drop_eq_getElem_cons hjl] at hr
    injection hr with h1 h2
    refine Ev.step (fun k=>by simp only [spec_DoActs.l0];rw [if_pos (show (j:Int)<(l.length:Int) by omega),if_pos (show (0:Int)≤(j:Int) by omega)]) ?_
    simp only [gq_ hjl,h1]
    refine Ev.bind h ?_
    simp only [if_true,w64 (x:=(j:Int)+1) (by omega) (by omega)]
    exact ih l (j+1) hl (by omega) h2
theorem eH_ {d e:List Fl} {r:List Ac} (h:dg_ d r e) (hd:d.length≤30) (hr:r.length≤1000000):Ev (fun k=>spec_DoActs.f k d r) (e,(r.length:Int)):=by
  unfold spec_DoActs.f
  simp only [Option.bind_some,List.length_nil,Nat.zero_add,if_pos (show d.length<3518437208883 by omega),List.nil_append]
  exact el_ h r 0 hr (by omega) rfl
inductive aU_ (P:List Fl→Prop):List Fl→List Ac→List Fl→Prop
  |nil (d:List Fl) (hp:P d):aU_ P d [] d
  |cons {d e g:List Fl} {a:Ac} {r:List Ac} (hp:P d) (h:Ev (fun k=>spec_DoAct.f k d a.f0 a.f1 a.f2 a.f3) (e,true)) (h2:aU_ P e r g):aU_ P d (a :: r) g
theorem aU_.app {P:List Fl→Prop} {d e g:List Fl} {a r:List Ac} (h:aU_ P d a e) (h2:aU_ P e r g):aU_ P d (a ++ r) g:=by
  induction h with
  |nil d _=>exact h2
  |cons hp h _ ih=>exact .cons hp h (ih h2)
theorem aU_.take {P:List Fl→Prop} {d e:List Fl} {l:List Ac} (h:aU_ P d l e):∀ n:Nat,∃ m,dg_ d (l.take n) m∧P m:=by
  induction h with
  |nil d hp=>intro n;exact⟨d,by rw [List.take_nil];exact .nil d,hp⟩
  |@cons d e g a r hp h _ ih=>
    intro n
    cases n with
    |zero=>exact⟨d,.nil d,hp⟩
    |succ n=>
      obtain⟨m,h1,h2⟩:=ih n
      exact⟨m,.cons h h1,h2⟩

/-! ### snapacts -/
theorem fD_ {α:Type} {f:α→ByteArray} (n:Nat):∀ l:List α,(∀ x∈l,(f x).size≤n)→(bZ_ f l).size≤n * l.length:=by
  intro l
  induction l with
  |nil=>intro _;show 0≤_;omega
  |cons x l ih=>
    intro h
    have h1:=h x (by simp)
    have h2:=ih (fun y hy=>h y (by simp [hy]))
    simp only [bZ_,List.length_cons]
    rw [ByteArray.size_append,Nat.mul_add]
    omega
theorem eh_ {a:List S76} {b:List S79} (h:aT_ a b=true):(eT_ a b).size≤1000:=by
  obtain⟨⟨hl1,hl2⟩,h1,h2⟩:=aK_ h
  have c1:=fD_ (f:=gA_) 67 a (fun x hx=>by
    obtain⟨j,hj,rfl⟩:=List.getElem_of_mem hx
    have h3:=h1 j hj
    have s0:=ac_ a[j].f0
    have s1:=ac_ a[j].f1
    have s2:=ae_ a[j].f2
    unfold gA_
    rw [ByteArray.size_append,ByteArray.size_append]
    omega)
  have c2:=fD_ (f:=gm_) 55 b (fun x hx=>by
    obtain⟨j,hj,rfl⟩:=List.getElem_of_mem hx
    have h3:=h2 j hj
    have s0:=ae_ b[j].f0
    have s1:=ae_ b[j].f1
    have s2:=ac_ b[j].f2
    unfold gm_
    rw [ByteArray.size_append,ByteArray.size_append]
    omega)
  have s0:=ac_ (a.length:Int)
  have s1:=ac_ (b.length:Int)
  unfold eT_
  rw [ByteArray.size_append,ByteArray.size_append,ByteArray.size_append]
  omega
def ks (a:List S76) (b:List S79):ByteArray × Bool:=if aT_ a b=true then (eT_ a b,true) else ((⟨#[]⟩:ByteArray),false)
theorem di_ (a:List S76) (b:List S79):(ks a b).1.size≤1000:=by
  unfold ks
  by_cases h:aT_ a b=true
  · rw [if_pos h];exact eh_ h
  · rw [if_neg h];show 0≤1000;omega
theorem toL (s:ByteArray):s.toList=s.data.toList:=ByteArray.toList_eq s
def dg (i:Nat):List UInt8:=if i<10 then [UInt8.ofNat (48+i)] else [UInt8.ofNat (48+i / 10),UInt8.ofNat (48+i % 10)]
theorem gB_ {i:Nat} (h:i<100):Lib.decDigits i=dg i:=by
  unfold dg
  rw [Lib.decDigits]
  by_cases h1:i<10
  · rw [dif_pos h1,if_pos h1]
  · rw [dif_neg h1,if_neg h1,Lib.decDigits,dif_pos (by omega)]
    rfl
def sS:ByteArray:=⟨#[115]⟩
def nm (i:Nat):ByteArray:=sS ++ (⟨(dg i).toArray⟩:ByteArray)
def sp:ByteArray:=⟨#[115,43]⟩
theorem bv_ (i:Nat):(nm i).data.toList=115 :: dg i:=by
  unfold nm
  rw [ByteArray.toList_data_append]
  rfl
theorem gy_ {i j:Nat}:lt (nm i) (nm j)=Op.bytesLess (115 :: dg i) (115 :: dg j):=by unfold lt;rw [toL,toL,bv_,bv_]
theorem gj_ {i:Nat} (h:i<18):lt sp (nm i)=true:=by
  unfold lt
  rw [toL,toL,bv_]
  have:∀ i:Nat,i<18→Op.bytesLess [115,43] (115 :: dg i)=true:=by decide
  exact this i h
theorem bo_ (i:Nat):1≤(dg i).length∧(dg i).length≤2:=by unfold dg;split <;> simp
theorem aZ_ (i:Nat):2≤(nm i).size∧(nm i).size≤3:=by
  have:=bo_ i
  have h:(nm i).size=(nm i).data.toList.length:=(Array.length_toList).symm
  rw [h,bv_,List.length_cons]
  omega
theorem gw_ {i j:Nat} (hi:i<18) (hj:j<18) (h:nm i=nm j):i=j:=by
  have h1:(115 :: dg i:List UInt8)=115 :: dg j:=by rw [←bv_,←bv_,h]
  have:∀ i j:Nat,i<18→j<18→(115 :: dg i:List UInt8)=115 :: dg j→i=j:=by
    have h2:∀ i:Nat,i<18→∀ j:Nat,j<18→(115 :: dg i:List UInt8)=115 :: dg j→i=j:=by decide
    exact fun i j hi hj=>h2 i hi j hj
  exact this i j hi hj h1
theorem fB_ (x:ByteArray):(sS ++ x).extract 1 (sS ++ x).size=x:=by
  apply aL_
  have hz:(sS ++ x).size=1+x.size:=by rw [ByteArray.size_append];rfl
  rw [aW_,aE_,hz,Nat.add_sub_cancel_left,show (1:Nat)=(bytesOf sS).length from rfl,List.drop_left,List.take_of_length_le (by rw [bytesOf_length];omega)]
theorem gG_ (x:ByteArray):(sS ++ x).extract 0 1=sS:=by
  apply aL_
  rw [aW_,aE_,List.drop_zero,Nat.sub_zero,show (1:Nat)=(bytesOf sS).length from rfl,List.take_left]
theorem fG_ {i:Nat} (h:i<18):Lib.atoi (dg i)=some (i:Int):=by
  have:∀ i:Nat,i<18→Lib.atoi (dg i)=some (i:Int):=by decide
  exact this i h
theorem fT_ {i:Nat} (h:i<18):impl_ReadDecimal.f (⟨(dg i).toArray⟩:ByteArray)=some ((i:Int),true):=by
  have h1:(⟨(dg i).toArray⟩:ByteArray).data.toList=dg i:=rfl
  have hz:(⟨(dg i).toArray⟩:ByteArray).size=(dg i).length:=rfl
  have:=bo_ i
  unfold impl_ReadDecimal.f
  rw [h1,fG_ h]
  simp only [hz,Int.toNat_natCast,gB_ (show i<100 by omega),if_true]
  rw [if_pos ⟨by omega,by omega,by omega⟩]
theorem dG_ {i:Nat} (h:i<18):Ev (fun _=>impl_numberOf.f (nm i) (⟨#[115]⟩:ByteArray) 1000000) (i:Int):=by
  have hz:=aZ_ i
  unfold impl_numberOf.f
  have e:((nm i).extract 0 1).toList=(⟨#[115]⟩:ByteArray).toList:=by unfold nm;rw [gG_];rfl
  have e2:(nm i).extract 1 (nm i).size=(⟨(dg i).toArray⟩:ByteArray):=by unfold nm;exact fB_ _
  simp only [if_neg (show ¬ ((nm i).size:Int)<2 by omega),if_pos (show (0:Int)≤1 by omega),if_pos (show (1:Int)≤((nm i).size:Int) by omega),e,if_true,e2,fT_ h,Option.bind_some,if_neg (show ¬ (i:Int)>1000000 by omega)]
  exact Ev.now _
theorem fy_ {i:Nat} (h:i<18) (t:ByteArray) (v:Int):Ev (fun _=>impl_isSnap.f (nm i) t v) true:=by
  unfold impl_isSnap.f
  refine Ev.bind (dG_ h) ?_
  rw [decide_eq_true (by omega)]
  exact Ev.now _
theorem dx_ {i:Nat} (h:i<18):impl_SnapName.f (i:Int)=some (nm i):=by
  have:=bo_ i
  unfold impl_SnapName.f impl_Decimal.f
  rw [aS_,ab_.2 ⟨by omega,by omega⟩]
  simp only [Option.bind_some,if_true]
  rw [if_pos ⟨by omega,by omega⟩]
  simp only [Option.bind_some,Int.toNat_natCast,gB_ (show i<100 by omega)]
  rw [if_pos (show 1+(⟨(dg i).toArray⟩:ByteArray).size≤9223372036854775807 by show 1+(dg i).length≤_;omega)]
  rfl
theorem fF_ {x:Int} (h0:0≤x) (h:x<10):spec_l01Figure.f x=some (48+x):=by
  unfold spec_l01Figure.f
  rw [if_pos h,w64 (by omega) (by omega)]
  congr 1
  omega
theorem ej_ {i:Nat} (h:i<10):Ev (fun k=>spec_Decimal.f k (i:Int)) (⟨(dg i).toArray⟩:ByteArray):=by
  unfold spec_Decimal.f
  by_cases h0:i=0
  · subst h0
    simp only [if_pos (show ((0:Nat):Int)=0 from rfl)]
    exact Ev.now _
  · have hd:dg i=[UInt8.ofNat (48+i)]:=by unfold dg;rw [if_pos h]
    have es:strOfNums [48+(i:Int)]=(⟨(dg i).toArray⟩:ByteArray):=by
      apply aL_
      rw [cW_ (by intro x hx;rw [List.mem_singleton] at hx;omega),hd]
      show [48+(i:Int)]=[((UInt8.ofNat (48+i)).toNat:Int)]
      rw [UInt8.toNat_ofNat']
      congr 1
      omega
    simp only [if_neg (show ¬ (i:Int)=0 by omega),decide_eq_false (show ¬ (i:Int)<0 by omega)]
    have hm:Int.tmod (i:Int) 10=(i:Int):=by rw [Int.tmod_eq_emod_of_nonneg (by omega)];omega
    have hq:Int.tdiv (i:Int) 10=0:=by rw [Int.tdiv_eq_ediv_of_nonneg (by omega)];omega
    refine Ev.step (fun k=>by simp only [spec_Decimal.l0];rw [if_neg (show ¬ (i:Int)=0 by omega),hm,if_neg (show ¬ (i:Int)<0 by omega)]) ?_
    refine Ev.step (fun k=>by simp only [spec_Decimal.j1];rfl) ?_
    have hz:(strOfNums [48+(i:Int)]).size=1:=by rw [strOfNums_size];rfl
    have hz2:(strOfNums [48+(i:Int)]).size+(⟨#[]⟩:ByteArray).size≤9223372036854775807:=by rw [hz];show 1+0≤_;omega
    have w0:wrap64 0=0:=w64 (by omega) (by omega)
    simp only [fF_ (show (0:Int)≤(i:Int) by omega) (show (i:Int)<10 by omega),Option.bind_some,if_pos hz2,hq,aq_,w0]
    rw [es]
    exact Ev.here (f:=fun _=>some (⟨(dg i).toArray⟩:ByteArray)) (fun k=>by simp only [spec_Decimal.l0,if_true,Bool.false_eq_true,if_false]) (fun _=>rfl)
theorem fq_ {i:Nat} (h:i<10):Ev (fun k=>spec_SnapName.f k (i:Int)) (nm i):=by
  have:=bo_ i
  unfold spec_SnapName.f
  rw [bc_,ab_.2 ⟨by omega,by omega⟩]
  simp only [Option.bind_some,if_true]
  refine Ev.bind (ej_ h) ?_
  simp only [if_pos (show 1+(⟨(dg i).toArray⟩:ByteArray).size≤9223372036854775807 by show 1+(dg i).length≤_;omega)]
  exact Ev.now _
def al_ (f:Fl):Prop:=∃ (i:Nat) (t:Int) (c:List Int) (b:ByteArray),i≤8∧GoodSnap i t c b∧f=(⟨nm i,ad_ i t c b,((ad_ i t c b).size:Int)⟩:Fl)
theorem al_.good {f:Fl} (h:al_ f):bC_ f:=by
  obtain⟨i,t,c,b,hi,hg,rfl⟩:=h
  have h1:=aZ_ i
  have h2:=an_ hg
  exact⟨⟨by show 1≤(nm i).size;omega,by show (nm i).size≤8;omega⟩,by show (ad_ i t c b).size≤20000;omega,by show (0:Int)≤((ad_ i t c b).size:Int);omega,by show ((ad_ i t c b).size:Int)≤((ad_ i t c b).size:Int);omega⟩
structure Drawn (d:List Fl):Prop where
  g:GoodDisk d
  s:∀ f∈d,al_ f
theorem eq_ {d:List Fl} {i:Nat} {t:Int} {c:List Int} {b:ByteArray} (h:Drawn d) (hl:d.length≤20) (hi:i≤8) (hg:GoodSnap i t c b):Drawn (put d (nm i) (ad_ i t c b) ((ad_ i t c b).size:Int)):=by
  have hs:al_ (⟨nm i,ad_ i t c b,((ad_ i t c b).size:Int)⟩:Fl):=⟨i,t,c,b,hi,hg,rfl⟩
  refine⟨bF_ h.g hs.good (by have:=bS_ d (nm i) (ad_ i t c b) ((ad_ i t c b).size:Int);omega),fun f hf=>?_⟩
  unfold put at hf
  rcases List.mem_append.1 hf with hf|hf
  · exact h.s f (List.mem_filter.1 hf).1
  · rcases List.mem_cons.1 hf with rfl|hf
    · exact hs
    · exact h.s f (List.mem_filter.1 hf).1
structure New (i t:Int) (c:List Int) (b:ByteArray):Prop where
  n:∃ j:Nat,i=(j:Int)∧9≤j∧j<18
  g:GoodSnap i t c b
theorem dc_ {b:List Int} (hb:b.length≤1048576):∀ (m:Nat) (x i h:Int) (d:List Fl),2 - x≤m→0≤x→x≤2→(d.length:Int)≤x→Drawn d→Cur b i →
    Tot (fun k=>spec_DrawRightSnaps.l0 k x b i h d) (fun r=>Drawn r.1∧r.1.length≤2∧New r.2.1 r.2.2.1 r.2.2.2.1 r.2.2.2.2):=by
  intro m
  induction m with
  |zero=>
    intro x i h d hm h0 h2 hl hd hi
    obtain rfl:x=2:=by omega
    refine Tot.step (fun k=>by simp only [spec_DrawRightSnaps.l0];rfl) ?_
    refine Tot.bind (ay_ h 3 hb hi) fun q hq=>?_
    have hq2:=hq.1.2.1 (by omega)
    simp only [if_neg (show ¬ (2:Int)<q.1 by omega)]
    refine Tot.bind (fO_ _ 12 (by omega) hb hq.2) fun u hu=>?_
    refine Tot.bind (P:=fun r=>r.1.size≤1000) ⟨_,av_ u.1 u.2.1 (by have:=hu.1.1;omega) (by have:=hu.1.2;omega),di_ _ _⟩ fun t ht=>?_
    refine Tot.bind (ay_ _ 9 hb hu.2) fun v hv=>?_
    refine Tot.bind (ay_ _ 5 hb hv.2) fun w hw=>?_
    refine Tot.bind (ev_ _ hb hw.2) fun y hy=>?_
    have hv0:=hv.1.1
    have hv1:=hv.1.2.1 (by omega)
    have hw0:=hw.1.1
    have hw1:=hw.1.2.1 (by omega)
    refine Tot.ret _ ⟨hd,by show d.length≤2;omega, ?_, ?_⟩
    · show ∃ j:Nat,wrap64 (9+v.1)=(j:Int)∧_
      rw [w64 (by omega) (by omega)]
      exact⟨(9+v.1).toNat,by omega,by omega,by omega⟩
    · show GoodSnap (wrap64 (9+v.1)) w.1 y.1 t.1
      rw [w64 (by omega) (by omega)]
      exact⟨⟨by omega,by omega⟩,⟨by omega,by omega⟩,hy.1,ht⟩
  |succ m ih=>
    intro x i h d hm h0 h2 hl hd hi
    refine Tot.step (fun k=>by simp only [spec_DrawRightSnaps.l0];rfl) ?_
    refine Tot.bind (ay_ h 3 hb hi) fun q hq=>?_
    have hq2:=hq.1.2.1 (by omega)
    by_cases hx:x<q.1
    · simp only [if_pos hx]
      refine Tot.bind (fO_ _ 6 (by omega) hb hq.2) fun u hu=>?_
      refine Tot.bind (P:=fun r=>r.1.size≤1000) ⟨_,av_ u.1 u.2.1 (by have:=hu.1.1;omega) (by have:=hu.1.2;omega),di_ _ _⟩ fun t ht=>?_
      refine Tot.bind (ay_ _ 9 hb hu.2) fun v hv=>?_
      refine Tot.bind (ay_ _ 5 hb hv.2) fun w hw=>?_
      refine Tot.bind (ev_ _ hb hw.2) fun y hy=>?_
      have hv0:=hv.1.1
      have hv1:=hv.1.2.1 (by omega)
      have hw0:=hw.1.1
      have hw1:=hw.1.2.1 (by omega)
      obtain⟨n,hn⟩:∃ n:Nat,v.1=(n:Int):=⟨v.1.toNat,by omega⟩
      have hg:GoodSnap v.1 w.1 y.1 t.1:=⟨⟨by omega,by omega⟩,⟨by omega,by omega⟩,hy.1,ht⟩
      rw [hn] at hg ⊢
      refine Tot.bind (P:=fun r=>r=(ad_ n w.1 y.1 t.1,true)) ⟨_,bi_ hg,rfl⟩ fun z hz=>?_
      subst hz
      refine Tot.bind (P:=fun r=>r=nm n) ⟨_,fq_ (show n<10 by omega),rfl⟩ fun z hz=>?_
      subst hz
      refine Tot.bind (P:=fun r=>r=put d (nm n) (ad_ n w.1 y.1 t.1) ((ad_ n w.1 y.1 t.1).size:Int)) ⟨_,bk_ _ _ _ (by omega),rfl⟩ fun z hz=>?_
      subst hz
      rw [w64 (x:=x+1) (by omega) (by omega)]
      have hpl:=bS_ d (nm n) (ad_ n w.1 y.1 t.1) ((ad_ n w.1 y.1 t.1).size:Int)
      exact ih _ _ _ _ (by omega) (by omega) (by omega) (by omega) (eq_ hd (by omega) (by omega) hg) hy.2
    · simp only [if_neg hx]
      refine Tot.bind (fO_ _ 12 (by omega) hb hq.2) fun u hu=>?_
      refine Tot.bind (P:=fun r=>r.1.size≤1000) ⟨_,av_ u.1 u.2.1 (by have:=hu.1.1;omega) (by have:=hu.1.2;omega),di_ _ _⟩ fun t ht=>?_
      refine Tot.bind (ay_ _ 9 hb hu.2) fun v hv=>?_
      refine Tot.bind (ay_ _ 5 hb hv.2) fun w hw=>?_
      refine Tot.bind (ev_ _ hb hw.2) fun y hy=>?_
      have hv0:=hv.1.1
      have hv1:=hv.1.2.1 (by omega)
      have hw0:=hw.1.1
      have hw1:=hw.1.2.1 (by omega)
      refine Tot.ret _ ⟨hd,by show d.length≤2;omega, ?_, ?_⟩
      · show ∃ j:Nat,wrap64 (9+v.1)=(j:Int)∧_
        rw [w64 (by omega) (by omega)]
        exact⟨(9+v.1).toNat,by omega,by omega,by omega⟩
      · show GoodSnap (wrap64 (9+v.1)) w.1 y.1 t.1
        rw [w64 (by omega) (by omega)]
        exact⟨⟨by omega,by omega⟩,⟨by omega,by omega⟩,hy.1,ht⟩
theorem gO_ {b:List Int} (hb:b.length≤1048576):Tot (fun k=>spec_DrawRightSnaps.f k b) (fun r=>Drawn r.1∧r.1.length≤2∧New r.2.1 r.2.2.1 r.2.2.2.1 r.2.2.2.2):=by
  obtain⟨h,hn⟩:=fC_ b
  unfold spec_DrawRightSnaps.f
  refine Tot.bind (P:=fun r=>r=(b,0,h)) ⟨_,hn,rfl⟩ fun r hr=>?_
  subst hr
  exact dc_ hb 2 0 0 h [] (by omega) (by omega) (by omega) (by simp) ⟨⟨by simp,fun f hf=>(by cases hf),.nil⟩,fun f hf=>(by cases hf)⟩ (dy_ b)

/-! ### snaprun -/
theorem fp_ {d:List Fl} {n:ByteArray} (hd:d.length≤1000) (h:∀ f∈d,f.f0≠n):Ev (fun k=>impl_placeOf.f k d n) (-1):=by
  unfold impl_placeOf.f
  have:∀ (m j:Nat),d.length - j=m→j≤d.length→Ev (fun k=>impl_placeOf.l0 k d n (j:Int)) (-1):=by
    intro m
    induction m with
    |zero=>
      intro j hm hj
      exact Ev.here (f:=fun _=>some (-1)) (fun k=>by simp only [impl_placeOf.l0];rw [if_neg (by omega)]) (fun _=>rfl)
    |succ m ih=>
      intro j hm hj
      have hjl:j<d.length:=by omega
      have hne:(d[j].f0.toList == n.toList)=false:=by rw [beq_eq_false_iff_ne];exact fun e=>h _ (List.getElem_mem hjl) (ag_.1 e)
      refine Ev.step (fun k=>by simp only [impl_placeOf.l0];rw [if_pos (show (j:Int)<(d.length:Int) by omega),if_pos (show (0:Int)≤(j:Int) by omega)]) ?_
      simp only [ar_ hjl,hne,Bool.false_eq_true,if_false,w64 (x:=(j:Int)+1) (by omega) (by omega)]
      exact ih (j+1) (by omega) (by omega)
  exact this d.length 0 (by omega) (by omega)
theorem dW_ {d:List Fl} {n:ByteArray} (hd:d.length≤1000) (h:∀ f∈d,f.f0≠n):Ev (fun k=>impl_hasFile.f k d n) false:=by
  unfold impl_hasFile.f
  refine Ev.bind (fp_ hd h) ?_
  exact Ev.now _
def ai_ (s:ByteArray):Nat:=min 60 s.size
def aH_:Nat→ByteArray→List Ac
  |0,_=>[]
  |m+1,s=>if s.size=0 then [] else (⟨1,sp,s.extract 0 (ai_ s),mt⟩:Ac) :: aH_ m (s.extract (ai_ s) s.size)
def bX_ (f:Fl):Ac:=⟨4,f.f0,mt,mt⟩
def dY_ (n:ByteArray):List Ac:=[⟨2,sp,mt,mt⟩,⟨3,sp,mt,n⟩]
theorem dO_:∀ (m:Nat) (s:ByteArray),(aH_ m s).length≤m:=by
  intro m
  induction m with
  |zero=>intro s;exact Nat.le_refl 0
  |succ m ih=>
    intro s
    unfold aH_
    split
    · exact Nat.zero_le _
    · have:=ih (s.extract (ai_ s) s.size)
      rw [List.length_cons]
      omega
theorem hc_ (s:ByteArray):mn 60 (s.size:Int)=((ai_ s:Nat):Int):=by unfold ai_ mn;(try split) <;> omega
theorem gx_ {s:ByteArray}:s.toList=([]:List UInt8)↔s.size=0:=by
  rw [bw_,←bytesOf_length s]
  exact List.length_eq_zero_iff.symm
theorem dQ_ {d:List Fl} {n:ByteArray} (hd:d.length≤1000) (hs:∀ f∈d,al_ f) (hn:∀ f∈d,f.f0≠n):∀ (m j:Nat) (acc:List Ac),d.length - j=m→j≤d.length→acc.length≤100000+j →
    Ev (fun k=>impl_SnapActs.l1 k acc n d (d.length:Int) (j:Int)) (acc ++ (d.drop j).map bX_,true):=by
  intro m
  induction m with
  |zero=>
    intro j acc hm hj _
    rw [List.drop_of_length_le (by omega),List.map_nil,List.append_nil]
    exact Ev.here (f:=fun _=>some (acc,true)) (fun k=>by simp only [impl_SnapActs.l1];rw [if_neg (by omega)]) (fun _=>rfl)
  |succ m ih=>
    intro j acc hm hj ha
    have hjl:j<d.length:=by omega
    have hmem:=List.getElem_mem hjl
    refine Ev.step (fun k=>by simp only [impl_SnapActs.l1];rw [if_pos (show (j:Int)<(d.length:Int) by omega),if_pos (show (0:Int)≤(j:Int) by omega)]) ?_
    simp only [if_pos (show (j:Int)<(d.length:Int) by omega),ar_ hjl]
    have hs1:Ev (fun _=>impl_isSnap.f d[j].f0 d[j].f1 d[j].f2) true:=by
      obtain⟨i,t,c,b,hi,_,e⟩:=hs _ hmem
      rw [e]
      exact fy_ (by omega) _ _
    refine Ev.bind hs1 ?_
    simp only [if_true,ag_,if_neg (hn _ hmem),if_pos (show acc.length<2513169434916 by omega),w64 (x:=(j:Int)+1) (by omega) (by omega)]
    have:=ih (j+1) (acc ++ [bX_ d[j]]) (by omega) (by omega) (by rw [List.length_append,List.length_singleton];omega)
    rw [List.append_assoc] at this
    rw [List.drop_eq_getElem_cons hjl,List.map_cons]
    exact this
theorem ei_ {d:List Fl} {i:Nat} {t:Int} {c:List Int} {b:ByteArray} (hi:i<18) (hd:d.length≤1000) (hs:∀ f∈d,al_ f) (hn:∀ f∈d,f.f0≠nm i):∀ (m:Nat) (s:ByteArray) (acc:List Ac),s.size≤m→acc.length+m≤90000 →
    Ev (fun k=>impl_SnapActs.l0 k s acc d (i:Int) t c b) (acc ++ aH_ m s ++ dY_ (nm i) ++ d.map bX_,true):=by
  have last:∀ (s:ByteArray) (acc:List Ac),s.size=0→acc.length≤90000→Ev (fun k=>impl_SnapActs.l0 k s acc d (i:Int) t c b) (acc ++ dY_ (nm i) ++ d.map bX_,true):=by
    intro s acc h0 hl
    refine Ev.step (fun k=>by simp only [impl_SnapActs.l0,if_pos (gx_.2 h0),dx_ hi,Option.bind_some];rfl) ?_
    simp only [List.length_cons,List.length_nil,if_pos (show acc.length+(0+1+1)<2513169434916 by omega)]
    exact dQ_ hd hs hn d.length 0 _ (by omega) (by omega) (by simp only [List.length_append,List.length_cons,List.length_nil];omega)
  intro m
  induction m with
  |zero=>
    intro s acc hm hl
    have:=last s acc (by omega) (by omega)
    simp only [aH_,List.append_nil]
    exact this
  |succ m ih=>
    intro s acc hm hl
    unfold aH_
    by_cases h0:s.size=0
    · rw [if_pos h0,List.append_nil]
      exact last s acc h0 (by omega)
    · rw [if_neg h0]
      have hc:1≤ai_ s∧ai_ s≤s.size:=by unfold ai_;omega
      refine Ev.step (fun k=>by simp only [impl_SnapActs.l0,if_neg (fun e=>h0 (gx_.1 e)),hc_];rfl) ?_
      simp only [if_pos (show (0:Int)≤((ai_ s:Nat):Int) by omega),if_pos (show ((ai_ s:Nat):Int)≤(s.size:Int) by omega),if_pos (show acc.length<2513169434916 by omega),Int.toNat_natCast]
      have:=ih (s.extract (ai_ s) s.size) (acc ++ [(⟨1,sp,s.extract 0 (ai_ s),mt⟩:Ac)]) (by rw [ByteArray.size_extract];omega) (by rw [List.length_append,List.length_singleton];omega)
      simp only [List.append_assoc,List.cons_append,List.nil_append] at this ⊢
      exact this
def aO_ (d:List Fl) (i:Nat) (s:ByteArray):List Ac:=aH_ 3000 s ++ dY_ (nm i) ++ d.map bX_
theorem fk_ {d:List Fl} {i:Nat} (hs:∀ f∈d,al_ f) (h9:9≤i) (h:i<18):∀ f∈d,f.f0≠nm i:=by
  intro f hf e
  obtain⟨j,t,c,b,hj,_,rfl⟩:=hs f hf
  have:=gw_ (show j<18 by omega) h e
  omega
theorem bA_ {d:List Fl} (hs:∀ f∈d,al_ f):∀ f∈d,lt sp f.f0=true:=by
  intro f hf
  obtain⟨j,t,c,b,hj,_,rfl⟩:=hs f hf
  exact gj_ (by omega)
theorem eb_ {d:List Fl} (hs:∀ f∈d,al_ f):∀ f∈d,f.f0≠sp:=fun f hf e=>bQ_ (bA_ hs f hf) e.symm
theorem fu_ {d:List Fl} {i:Nat} {t:Int} {c:List Int} {b:ByteArray} (hd:Drawn d) (hl:d.length≤2) (h9:9≤i) (h:i<18) (hg:GoodSnap i t c b) :
    Ev (fun k=>impl_SnapActs.f k d (i:Int) t c b) (aO_ d i (ad_ i t c b),true):=by
  have hz:=an_ hg
  unfold impl_SnapActs.f
  refine Ev.bind (cz_ hg) ?_
  refine Ev.bind (cO_ hd.g) ?_
  simp only [if_true,Option.bind_some]
  refine Ev.bind (dW_ (by omega) (eb_ hd.s)) ?_
  simp only [Bool.false_eq_true,if_false]
  refine Ev.step (fun k=>by simp only [impl_SnapActs.j0];rfl) ?_
  have:=ei_ (t:=t) (c:=c) (b:=b) h (show d.length≤1000 by omega) hd.s (fk_ hd.s h9 h) 3000 (ad_ i t c b) [] (by omega) (by simp)
  rw [List.nil_append] at this
  exact this
theorem cU_ {d:List Fl} {i:Nat} {t:Int} {c:List Int} {b:ByteArray} (hl:d.length≤2) (hg:GoodSnap i t c b):(aO_ d i (ad_ i t c b)).length≤1000000:=by
  have:=dO_ 3000 (ad_ i t c b)
  unfold aO_ dY_
  simp only [List.length_append,List.length_map,List.length_cons,List.length_nil]
  omega
theorem cJ_ {d:List Fl} {p t:ByteArray} {v u:Int} (h:∀ f∈d,lt sp f.f0=true):put ((⟨sp,p,u⟩:Fl) :: d) sp t v=(⟨sp,t,v⟩:Fl) :: d:=by
  unfold put
  rw [List.filter_cons_of_neg (by show ¬ lt sp sp=true;rw [aD_];simp),List.filter_cons_of_neg (by show ¬ lt sp sp=true;rw [aD_];simp)]
  rw [List.filter_eq_self.2 h,List.filter_eq_nil_iff.2 (fun f hf e=>by have:=bH_ (h f hf) e;rw [aD_] at this;cases this)]
  rfl
theorem fI_ {d:List Fl} {t:ByteArray} {v:Int} (h:∀ f∈d,lt sp f.f0=true):put d sp t v=(⟨sp,t,v⟩:Fl) :: d:=by
  unfold put
  rw [List.filter_eq_self.2 h,List.filter_eq_nil_iff.2 (fun f hf e=>by have:=bH_ (h f hf) e;rw [aD_] at this;cases this)]
  rfl
theorem as_ {d:List Fl} {t:ByteArray} {v:Int} (hd:GoodDisk d) (hl:d.length≤29) (h:∀ f∈d,lt sp f.f0=true) (ht:t.size≤20000) (hv:0≤v∧v≤(t.size:Int)):GoodDisk ((⟨sp,t,v⟩:Fl) :: d):=
  ⟨by simp only [List.length_cons];omega,fun f hf=>by
    rcases List.mem_cons.1 hf with rfl|hf
    · exact⟨⟨by show 1≤2;omega,by show 2≤8;omega⟩,ht,hv⟩
    · exact hd.hf f hf,List.pairwise_cons.2 ⟨h,hd.hp⟩⟩
theorem dn_ {P:List Fl→Prop} {d:List Fl} (hP:∀ p:ByteArray,p.size≤20000→P ((⟨sp,p,0⟩:Fl) :: d)) (hd:GoodDisk d) (hl:d.length≤29) (h:∀ f∈d,lt sp f.f0=true):∀ (m:Nat) (s p:ByteArray),s.size≤m→p.size+s.size≤20000→aU_ P ((⟨sp,p,0⟩:Fl) :: d) (aH_ m s) ((⟨sp,p ++ s,0⟩:Fl) :: d):=by
  have e0:∀ (s p:ByteArray),s.size=0→p ++ s=p:=by
    intro s p hs
    have:s=mt:=aL_ (by rw [show bytesOf mt=[] from rfl];exact List.length_eq_zero_iff.1 (by rw [bytesOf_length];exact hs))
    rw [this]
    exact aq_ p
  intro m
  induction m with
  |zero=>
    intro s p hs _
    rw [e0 s p (by omega)]
    exact .nil _ (hP p (by omega))
  |succ m ih=>
    intro s p hs hz
    unfold aH_
    by_cases h0:s.size=0
    · rw [if_pos h0,e0 s p h0]
      exact .nil _ (hP p (by omega))
    · rw [if_neg h0]
      have hc:1≤ai_ s∧ai_ s≤s.size:=by unfold ai_;omega
      have z1:(s.extract 0 (ai_ s)).size=ai_ s:=by rw [ByteArray.size_extract];omega
      have z2:(s.extract (ai_ s) s.size).size=s.size - ai_ s:=by rw [ByteArray.size_extract];omega
      have hg0:GoodDisk ((⟨sp,p,0⟩:Fl) :: d):=as_ hd hl h (by omega) ⟨by omega,by omega⟩
      have ep:=cJ_ (p:=p) (u:=0) (t:=p ++ s.extract 0 (ai_ s)) (v:=0) h
      have hg1:GoodDisk ((⟨sp,p ++ s.extract 0 (ai_ s),0⟩:Fl) :: d):=as_ hd hl h (by rw [ByteArray.size_append];omega) ⟨by omega,by omega⟩
      have ha:=gd_ (n:=sp) (t:=s.extract 0 (ai_ s)) hg0 (f:=(⟨sp,p,0⟩:Fl)) (List.mem_cons_self) rfl (by show GoodDisk (put _ sp (p ++ s.extract 0 (ai_ s)) 0);rw [ep];exact hg1) (by omega)
      have ha':Ev (fun k=>spec_DoAct.f k ((⟨sp,p,0⟩:Fl) :: d) 1 sp (s.extract 0 (ai_ s)) mt) ((⟨sp,p ++ s.extract 0 (ai_ s),0⟩:Fl) :: d,true):=by
        have e1:put ((⟨sp,p,0⟩:Fl) :: d) sp ((⟨sp,p,0⟩:Fl).f1 ++ s.extract 0 (ai_ s)) (⟨sp,p,0⟩:Fl).f2=(⟨sp,p ++ s.extract 0 (ai_ s),0⟩:Fl) :: d:=ep
        rw [e1] at ha
        exact ha
      have hr:=ih (s.extract (ai_ s) s.size) (p ++ s.extract 0 (ai_ s)) (by omega) (by rw [ByteArray.size_append];omega)
      rw [ByteArray.append_assoc,cv_ s (ai_ s) hc.2] at hr
      exact .cons (hP p (by omega)) ha' hr
theorem fm_ {P:List Fl→Prop} {d:List Fl} (hP:∀ p:ByteArray,p.size≤20000→P ((⟨sp,p,0⟩:Fl) :: d)) (h0:P d) (hd:GoodDisk d) (hl:d.length≤29) (h:∀ f∈d,lt sp f.f0=true) (m:Nat) (s:ByteArray) (hs:s.size≤m+1) (h1:0<s.size) (hz:s.size≤20000):aU_ P d (aH_ (m+1) s) ((⟨sp,s,0⟩:Fl) :: d):=by
  have hc:1≤ai_ s∧ai_ s≤s.size:=by unfold ai_;omega
  have z1:(s.extract 0 (ai_ s)).size=ai_ s:=by rw [ByteArray.size_extract];omega
  have z2:(s.extract (ai_ s) s.size).size=s.size - ai_ s:=by rw [ByteArray.size_extract];omega
  have ep:=fI_ (t:=s.extract 0 (ai_ s)) (v:=0) h
  have ha:=fJ_ (n:=sp) (t:=s.extract 0 (ai_ s)) hd ⟨by decide,by decide⟩ (fun f hf e=>bQ_ (h f hf) e.symm) (by rw [ep];exact as_ hd hl h (by omega) ⟨by omega,by omega⟩) (by omega)
  rw [ep] at ha
  have hr:=dn_ hP hd hl h m (s.extract (ai_ s) s.size) (s.extract 0 (ai_ s)) (by omega) (by omega)
  rw [cv_ s (ai_ s) hc.2] at hr
  unfold aH_
  rw [if_neg (by omega)]
  exact .cons h0 ha hr
theorem ec_ {d:List Fl} {p:ByteArray} {u:Int} (h:∀ f∈d,lt sp f.f0=true):bV_ ((⟨sp,p,u⟩:Fl) :: d) sp=d:=by
  unfold bV_
  rw [List.filter_cons_of_neg (by simp),List.filter_eq_self.2 (fun f hf=>by
    have:=bQ_ (h f hf)
    simp only [Bool.not_eq_true',decide_eq_false_iff_not]
    exact fun e=>this e.symm)]
theorem ek_ {P:List Fl→Prop} {d:List Fl} (hd:GoodDisk d) (hl:d.length≤28) (h:∀ f∈d,lt sp f.f0=true) {n t:ByteArray} (hn:1≤n.size∧n.size≤8) (hne:n≠sp) (ht:t.size≤20000) (hP1:P ((⟨sp,t,0⟩:Fl) :: d)) (hP2:P ((⟨sp,t,(t.size:Int)⟩:Fl) :: d)) (hP3:P (put d n t (t.size:Int))):aU_ P ((⟨sp,t,0⟩:Fl) :: d) (dY_ n) (put d n t (t.size:Int)):=by
  have hg0:GoodDisk ((⟨sp,t,0⟩:Fl) :: d):=as_ hd (by omega) h ht ⟨by omega,by omega⟩
  have ep:=cJ_ (p:=t) (u:=0) (t:=t) (v:=(t.size:Int)) h
  have hg1:GoodDisk ((⟨sp,t,(t.size:Int)⟩:Fl) :: d):=as_ hd (by omega) h ht ⟨by omega,by omega⟩
  have ha:=fe_ (n:=sp) hg0 (f:=(⟨sp,t,0⟩:Fl)) (List.mem_cons_self) rfl (by show GoodDisk (put _ sp t (t.size:Int));rw [ep];exact hg1)
  have e1:put ((⟨sp,t,0⟩:Fl) :: d) sp (⟨sp,t,0⟩:Fl).f1 (((⟨sp,t,0⟩:Fl).f1.size:Nat):Int)=(⟨sp,t,(t.size:Int)⟩:Fl) :: d:=ep
  rw [e1] at ha
  have ew:=ec_ (p:=t) (u:=(t.size:Int)) h
  have hg2:GoodDisk (put d n t (t.size:Int)):=bF_ hd ⟨hn,ht,by show (0:Int)≤(t.size:Int);omega,by show (t.size:Int)≤(t.size:Int);omega⟩ (by have:=bS_ d n t (t.size:Int);omega)
  have hm:=eW_ (n:=sp) (u:=n) hg1 (f:=(⟨sp,t,(t.size:Int)⟩:Fl)) (List.mem_cons_self) rfl rfl hn hne (by rw [ew];exact hg2)
  rw [ew] at hm
  exact .cons hP1 ha (.cons hP2 hm (.nil _ hP3))
theorem ft_ {d:List Fl} {n m t:ByteArray} {v:Int} (h:n≠m):bV_ (put d n t v) m=put (bV_ d m) n t v:=by
  unfold bV_ put
  rw [List.filter_append,List.filter_cons_of_pos (by simp [h])]
  simp only [List.filter_filter,Bool.and_comm]
theorem fW_ {d:List Fl} {f:Fl} {n t:ByteArray} {v:Int} (hm:f∈d) (h:lt f.f0 n=true∨lt n f.f0=true):f∈put d n t v:=by
  unfold put
  rcases h with h|h
  · exact List.mem_append.2 (.inl (List.mem_filter.2 ⟨hm,h⟩))
  · exact List.mem_append.2 (.inr (List.mem_cons_of_mem _ (List.mem_filter.2 ⟨hm,h⟩)))
theorem ef_ {P:List Fl→Prop} {n t:ByteArray} {v:Int} (hf:bC_ (⟨n,t,v⟩:Fl)):∀ (d:List Fl),GoodDisk d→d.length≤28→(∀ f∈d,lt f.f0 n=true∨lt n f.f0=true)→(∀ j,P (put (d.drop j) n t v))→aU_ P (put d n t v) (d.map bX_) (put [] n t v):=by
  intro d
  induction d with
  |nil=>intro _ _ _ hP;exact .nil _ (hP 0)
  |cons f d ih=>
    intro hd hl h hP
    have ht:=eD_ hd
    have hp:=(List.pairwise_cons.1 hd.hp).1
    have hne:n≠f.f0:=by
      rcases h f (List.mem_cons_self) with h1|h1
      · exact(bQ_ h1).symm
      · exact bQ_ h1
    have hg:=bF_ hd hf (by have:=bS_ (f :: d) n t v;omega)
    have ha:=dw_ hg (fW_ (t:=t) (v:=v) (List.mem_cons_self) (h f (List.mem_cons_self))) rfl
    have e1:bV_ (f :: d) f.f0=d:=by
      unfold bV_
      rw [List.filter_cons_of_neg (by simp),List.filter_eq_self.2 (fun x hx=>by
        have:=bQ_ (hp x hx)
        simp only [Bool.not_eq_true',decide_eq_false_iff_not]
        exact fun e=>this e.symm)]
    rw [ft_ hne,e1] at ha
    simp only [List.length_cons] at hl
    exact .cons (hP 0) ha (ih ht (by omega) (fun x hx=>h x (List.mem_cons_of_mem _ hx)) (fun j=>hP (j+1)))
theorem gr_ {i j:Nat} (hi:i<18) (hj:j<18) (h:i≠j):lt (nm i) (nm j)=true∨lt (nm j) (nm i)=true:=by
  rw [gy_,gy_]
  have h2:∀ i:Nat,i<18→∀ j:Nat,j<18→i≠j→Op.bytesLess (115 :: dg i) (115 :: dg j)=true∨Op.bytesLess (115 :: dg j) (115 :: dg i)=true:=by decide
  exact h2 i hi j hj h
def ee_ (d:List Fl) (n T:ByteArray) (x:List Fl):Prop:=
  x=d∨(∃ (p:ByteArray) (v:Int),p.size≤20000∧(v=0∨v=(p.size:Int))∧x=(⟨sp,p,v⟩:Fl) :: d)∨∃ j:Nat,x=put (d.drop j) n T (T.size:Int)
theorem eS_ {d:List Fl} {i:Nat} {t:Int} {c:List Int} {b:ByteArray} (hd:Drawn d) (hl:d.length≤2) (h9:9≤i) (h:i<18) (hg:GoodSnap i t c b) :
    aU_ (ee_ d (nm i) (ad_ i t c b)) d (aO_ d i (ad_ i t c b)) [(⟨nm i,ad_ i t c b,((ad_ i t c b).size:Int)⟩:Fl)]:=by
  have hz:=an_ hg
  have hs:=bA_ hd.s
  have hn:=aZ_ i
  have hP:∀ p:ByteArray,p.size≤20000→ee_ d (nm i) (ad_ i t c b) ((⟨sp,p,0⟩:Fl) :: d):=fun p hp=>.inr (.inl ⟨p,0,hp,.inl rfl,rfl⟩)
  have hQ:∀ j:Nat,ee_ d (nm i) (ad_ i t c b) (put (d.drop j) (nm i) (ad_ i t c b) ((ad_ i t c b).size:Int)):=fun j=>.inr (.inr ⟨j,rfl⟩)
  unfold aO_
  refine aU_.app (aU_.app (fm_ hP (.inl rfl) hd.g (by omega) hs 2999 _ (by omega) (by omega) (by omega)) (ek_ hd.g (by omega) hs (n:=nm i) ⟨by omega,by omega⟩ (fun e=>by have:=gj_ h;rw [e,aD_] at this;cases this) (by omega) (hP _ (by omega)) (.inr (.inl ⟨_,_,by omega,.inr rfl,rfl⟩)) (hQ 0))) ?_
  refine ef_ ⟨⟨by show 1≤(nm i).size;omega,by show (nm i).size≤8;omega⟩,by show (ad_ i t c b).size≤20000;omega,by show (0:Int)≤((ad_ i t c b).size:Int);omega,by show ((ad_ i t c b).size:Int)≤((ad_ i t c b).size:Int);omega⟩ d hd.g (by omega) (fun f hf=>?_) hQ
  obtain⟨j,_,_,_,hj,_,rfl⟩:=hd.s f hf
  exact gr_ (by omega) h (by omega)

/-! ### snapview -/
structure Sn where
  i:Nat
  t:Int
  c:List Int
  b:ByteArray
def gX_ (f:Fl):Option Sn→Prop
  |none=>f.f0=sp∧f.f1.size≤20000
  |some s=>s.i<18∧GoodSnap s.i s.t s.c s.b∧f=(⟨nm s.i,ad_ s.i s.t s.c s.b,((ad_ s.i s.t s.c s.b).size:Int)⟩:Fl)
inductive aF_:List Fl→List (Option Sn)→Prop
  |nil:aF_ [] []
  |cons {f:Fl} {v:Option Sn} {d:List Fl} {l:List (Option Sn)} (h:gX_ f v) (h2:aF_ d l):aF_ (f :: d) (v :: l)
def ah_ (b:Option Sn) (v:Option Sn):Option Sn:=
  match v with
  |none=>b
  |some s=>match b with
    |none=>some s
    |some r=>if r.i<s.i then some s else b
def eQ_:Option Sn→Int
  |none=> -1
  |some s=>s.i
def aI_:Option Sn→Int × Int × List Int × ByteArray × Bool
  |none=>(0,0,[],mt,false)
  |some s=>(s.i,s.t,s.c,s.b,true)
theorem ea_ (s:ByteArray) (a:Int):(bK_ s a).1.size≤s.size:=by
  unfold bK_
  split
  · show (s.extract _ _).size≤_
    rw [ByteArray.size_extract]
    omega
  · exact Nat.zero_le _
theorem ez_ (s:ByteArray) (a:Int) (b:Bool):(eO_ s a b).1.size≤s.size:=by
  have:=ea_ s a
  unfold eO_
  split
  · exact Nat.zero_le _
  · split
    · exact this
    · exact Nat.zero_le _
theorem dD_ (s:ByteArray):(unB s).1.size≤s.size:=by
  unfold unB
  split
  · show (s.extract _ _).size≤_
    rw [ByteArray.size_extract]
    omega
  · exact Nat.zero_le _
theorem eZ_ (s:ByteArray) (a:Int) (b:Bool):∃ r,impl_scan_done.f s a b=some r:=by
  cases b with
  |true=>exact⟨_,fh_ s a⟩
  |false=>exact⟨_,ey_ s a⟩
theorem da_ (q:ByteArray) (hq:q.size≤1000000):∃ r,Ev (fun k=>impl_ReadSnap.f k q) r:=by
  have hu:=dD_ q
  have j0:∀ (x:Bool) (i t:Int) (c:List Int) (b:ByteArray),∃ r,Ev (fun k=>impl_ReadSnap.j0 k x i t c b) r:=by
    intro x i t c b
    cases x with
    |true=>exact⟨_,Ev.here (f:=fun _=>some (0,0,[],mt,false)) (fun k=>by simp only [impl_ReadSnap.j0,if_true];rfl) (fun _=>rfl)⟩
    |false=>exact⟨_,Ev.here (f:=fun _=>some (i,t,c,b,true)) (fun k=>by simp only [impl_ReadSnap.j0,Bool.false_eq_true,if_false]) (fun _=>rfl)⟩
  have s1:=gs_ (unB q).1 0 (!(unB q).2)
  have s2:=gs_ (unB q).1 (bd_ (unB q).1 0 (!(unB q).2)).2.2.1 (bd_ (unB q).1 0 (!(unB q).2)).2.2.2
  generalize e1:bd_ (unB q).1 0 (!(unB q).2)=n1 at s1 s2
  generalize e2:bd_ (unB q).1 n1.2.2.1 n1.2.2.2=n2 at s2
  have s3:=gN_ (unB q).1 n2.2.2.1 n2.2.2.2
  have z3:=ez_ (unB q).1 n2.2.2.1 n2.2.2.2
  generalize e3:eO_ (unB q).1 n2.2.2.1 n2.2.2.2=n3 at s3 z3
  have s4:=gN_ (unB q).1 n3.2.2.1 n3.2.2.2
  generalize e4:eO_ (unB q).1 n3.2.2.1 n3.2.2.2=n4 at s4
  obtain⟨r5,e5⟩:=eZ_ n4.2.1 n4.2.2.1 n4.2.2.2
  have fin:∃ r,Ev (fun k=>if r5.1=true then (if (ax_ n3.1).2=true then ((impl_isIndex.f n1.1).bind fun x=>(if x=true then ((impl_isTerm.f n2.1).bind fun y=>(if y=true then (impl_ReadSnap.j0 k (decide ((q.size:Int)>20000)) n1.1 n2.1 (ax_ n3.1).1 n4.1) else (impl_ReadSnap.j0 k true n1.1 n2.1 (ax_ n3.1).1 n4.1))) else (impl_ReadSnap.j0 k true n1.1 n2.1 (ax_ n3.1).1 n4.1))) else (impl_ReadSnap.j0 k true n1.1 n2.1 (ax_ n3.1).1 n4.1)) else (impl_ReadSnap.j0 k true n1.1 n2.1 (ax_ n3.1).1 n4.1)) r:=by
    simp only [aS_,bL_,Option.bind_some]
    repeat (first|exact j0 _ _ _ _ _|split)
  obtain⟨r,hr⟩:=fin
  refine⟨r, ?_⟩
  unfold impl_ReadSnap.f
  refine Ev.bind (aP_ q (by omega)) ?_
  refine Ev.bind (bB_ _ _ _ (by omega)) ?_
  rw [e1,s1]
  refine Ev.bind (bB_ _ _ _ (by omega)) ?_
  rw [e2,s2]
  refine Ev.bind (bG_ _ _ _ (by omega)) ?_
  rw [e3,s3]
  refine Ev.bind (bG_ _ _ _ (by omega)) ?_
  rw [e4]
  refine Ev.bind (bl_ _ (by omega)) ?_
  simp only [e5,Option.bind_some]
  exact hr
theorem eM_:Lib.atoi [43]=none:=by decide
theorem cR_:impl_ReadDecimal.f (sp.extract 1 sp.size)=some (0,false):=by
  have h1:(sp.extract 1 sp.size).data.toList=[43]:=by decide
  have h2:(sp.extract 1 sp.size).size=1:=by decide
  unfold impl_ReadDecimal.f
  rw [h1,eM_]
  show (if (sp.extract 1 sp.size).size≤18 then some ((0:Int),false) else none)=_
  rw [if_pos (by omega)]
theorem dd_:Ev (fun _=>impl_numberOf.f sp (⟨#[115]⟩:ByteArray) 1000000) (-1):=by
  have hz:sp.size=2:=rfl
  unfold impl_numberOf.f
  have e:(sp.extract 0 1).toList=(⟨#[115]⟩:ByteArray).toList:=by rw [show sp.extract 0 1=(⟨#[115]⟩:ByteArray) by decide]
  simp only [if_neg (show ¬ (sp.size:Int)<2 by omega),if_pos (show (0:Int)≤1 by omega),if_pos (show (1:Int)≤(sp.size:Int) by omega),e,if_true,cR_,Option.bind_some,Bool.false_eq_true,if_false]
  exact Ev.now _
def stT (b:Option Sn):Int:=match b with|none=>0|some s=>s.t
def stC (b:Option Sn):List Int:=match b with|none=>[]|some s=>s.c
def stB (b:Option Sn):ByteArray:=match b with|none=>mt|some s=>s.b
theorem db_ {d:List Fl} (hl:d.length≤30):∀ (r:List Fl) (vs:List (Option Sn)),aF_ r vs→∀ (j:Nat) (b:Option Sn),j≤d.length→d.drop j=r →
    Ev (fun k=>impl_NewestSnap.l0 k d (d.length:Int) (j:Int) (eQ_ b) (stT b) (stC b) (stB b)) (aI_ (vs.foldl ah_ b)):=by
  intro r vs h
  induction h with
  |nil=>
    intro j b hj hr
    have:d.length≤j:=by
      have h2:=congrArg List.length hr
      rw [List.length_drop,List.length_nil] at h2
      omega
    cases b with
    |none=>exact Ev.here (f:=fun _=>some (aI_ none)) (fun k=>by simp only [impl_NewestSnap.l0];rw [if_neg (by omega),if_pos (show eQ_ none<0 by decide)];rfl) (fun _=>rfl)
    |some s=>exact Ev.here (f:=fun _=>some (aI_ (some s))) (fun k=>by simp only [impl_NewestSnap.l0];rw [if_neg (by omega),if_neg (show ¬ eQ_ (some s)<0 by show ¬ (s.i:Int)<0;omega)];rfl) (fun _=>rfl)
  |@cons f v r vs h _ ih=>
    intro j b hj hr
    have hjl:j<d.length:=by
      rcases Nat.lt_or_ge j d.length with h1|h1
      · exact h1
      · rw [List.drop_of_length_le h1] at hr;cases hr
    rw [List.drop_eq_getElem_cons hjl] at hr
    injection hr with h1 h2
    refine Ev.step (fun k=>by simp only [impl_NewestSnap.l0];rw [if_pos (show (j:Int)<(d.length:Int) by omega),if_pos (show (0:Int)≤(j:Int) by omega)]) ?_
    simp only [if_pos (show (j:Int)<(d.length:Int) by omega),ar_ hjl,h1]
    have step:∀ (b':Option Sn),Ev (fun k=>impl_NewestSnap.l0 k d (d.length:Int) (wrap64 ((j:Int)+1)) (eQ_ b') (stT b') (stC b') (stB b')) (aI_ (vs.foldl ah_ b')):=by
      intro b'
      rw [w64 (x:=(j:Int)+1) (by omega) (by omega)]
      exact ih (j+1) b' (by omega) h2
    cases v with
    |none=>
      obtain⟨e0,e1⟩:=h
      obtain⟨q,hq⟩:=da_ f.f1 (by omega)
      rw [e0]
      refine Ev.bind dd_ ?_
      refine Ev.bind hq ?_
      simp only [if_neg (show ¬ (-1:Int)≥0 by omega)]
      exact step b
    |some s=>
      obtain⟨hi,hg,rfl⟩:=h
      refine Ev.bind (dG_ hi) ?_
      refine Ev.bind (eo_ hg) ?_
      simp only [if_pos (show (s.i:Int)≥0 by omega),if_true]
      by_cases hc:(s.i:Int)>eQ_ b
      · simp only [if_pos hc]
        have:ah_ b (some s)=some s:=by
          cases b with
          |none=>rfl
          |some r=>exact if_pos (by have:(s.i:Int)>(r.i:Int):=hc;omega)
        simp only [List.foldl_cons,this]
        exact step (some s)
      · simp only [if_neg hc]
        have:ah_ b (some s)=b:=by
          cases b with
          |none=>exact absurd (show (s.i:Int) > -1 by omega) hc
          |some r=>exact if_neg (by have:¬ (s.i:Int)>(r.i:Int):=hc;omega)
        simp only [List.foldl_cons,this]
        exact step b
theorem cC_ {d:List Fl} {vs:List (Option Sn)} (hd:GoodDisk d) (h:aF_ d vs):Ev (fun k=>impl_NewestSnap.f k d) (aI_ (vs.foldl ah_ none)):=by
  unfold impl_NewestSnap.f
  refine Ev.bind (cO_ hd) ?_
  simp only [if_true]
  exact db_ hd.hl d vs h 0 none (by omega) rfl
def bg_ (d:List Fl) (n:ByteArray):List Ac:=(d.filter (fun f=>!(decide (f.f0=n)))).map bX_
theorem gC_ {i:Nat} (h:i<18):sp≠nm i:=bQ_ (gj_ h)
theorem eF_ {d:List Fl} (hl:d.length≤30) (s:Sn) (hs:s.i<18):∀ (r:List Fl) (vs:List (Option Sn)),aF_ r vs→∀ (j:Nat) (acc:List Ac),j≤d.length→d.drop j=r→acc.length≤j →
    Ev (fun k=>impl_ShedActs.l0 k acc d (d.length:Int) (j:Int) (s.i:Int) s.t s.c s.b) (acc ++ bg_ r (nm s.i)):=by
  intro r vs h
  induction h with
  |nil=>
    intro j acc hj hr _
    have:d.length≤j:=by
      have h2:=congrArg List.length hr
      rw [List.length_drop,List.length_nil] at h2
      omega
    have e:acc ++ bg_ [] (nm s.i)=acc:=List.append_nil _
    rw [e]
    exact Ev.here (f:=fun _=>some acc) (fun k=>by simp only [impl_ShedActs.l0];rw [if_neg (by omega)]) (fun _=>rfl)
  |@cons f v r vs h _ ih=>
    intro j acc hj hr ha
    have hjl:j<d.length:=by
      rcases Nat.lt_or_ge j d.length with h1|h1
      · exact h1
      · rw [List.drop_of_length_le h1] at hr;cases hr
    rw [List.drop_eq_getElem_cons hjl] at hr
    injection hr with h1 h2
    refine Ev.step (fun k=>by simp only [impl_ShedActs.l0];rw [if_pos (show (j:Int)<(d.length:Int) by omega),if_pos (show (0:Int)≤(j:Int) by omega)]) ?_
    simp only [if_pos (show (j:Int)<(d.length:Int) by omega),ar_ hjl,h1]
    have w1:wrap64 ((j:Int)+1)=((j+1:Nat):Int):=by rw [w64 (x:=(j:Int)+1) (by omega) (by omega)];omega
    have drop:f.f0≠nm s.i→∀ a b c,a=f.f0→Ev (fun k=>impl_ShedActs.j1 k acc d (d.length:Int) (j:Int) true (s.i:Int) s.t s.c s.b a b c) (acc ++ bg_ (f :: r) (nm s.i)):=by
      intro hne a b c e
      subst e
      refine Ev.step (fun k=>by simp only [impl_ShedActs.j1,if_true,w1];rw [if_pos (show acc.length<2513169434916 by omega)]) ?_
      have:=ih (j+1) (acc ++ [bX_ f]) (by omega) h2 (by rw [List.length_append,List.length_singleton];omega)
      have e:acc ++ bg_ (f :: r) (nm s.i)=acc ++ [bX_ f] ++ bg_ r (nm s.i):=by
        unfold bg_
        rw [List.filter_cons_of_pos (by simp [hne]),List.map_cons,List.append_assoc]
        rfl
      rw [e]
      exact this
    have keep:f.f0=nm s.i→∀ a b c,Ev (fun k=>impl_ShedActs.j1 k acc d (d.length:Int) (j:Int) false (s.i:Int) s.t s.c s.b a b c) (acc ++ bg_ (f :: r) (nm s.i)):=by
      intro he a b c
      refine Ev.step (fun k=>by simp only [impl_ShedActs.j1,Bool.false_eq_true,if_false,w1];rfl) ?_
      have:=ih (j+1) acc (by omega) h2 (by omega)
      have e:acc ++ bg_ (f :: r) (nm s.i)=acc ++ bg_ r (nm s.i):=by
        unfold bg_
        rw [List.filter_cons_of_neg (by simp [he])]
      rw [e]
      exact this
    have hlit:([115,43]:List UInt8)=sp.toList:=by rw [toL];rfl
    rw [hlit]
    simp only [ag_]
    cases v with
    |none=>
      obtain⟨e0,_⟩:=h
      simp only [if_pos e0]
      exact drop (by rw [e0];exact gC_ hs) _ _ _ rfl
    |some x=>
      obtain⟨hi,hg,rfl⟩:=h
      have hns:¬ nm x.i=sp:=fun e=>gC_ hi e.symm
      simp only [if_neg hns]
      refine Ev.bind (fy_ hi _ _) ?_
      simp only [if_true,dx_ hs,Option.bind_some]
      by_cases he:nm x.i=nm s.i
      · have e:((nm x.i).toList != (nm s.i).toList)=false:=by rw [he];exact bne_self_eq_false _
        simp only [e]
        exact keep he _ _ _
      · have e:((nm x.i).toList != (nm s.i).toList)=true:=by rw [bne_iff_ne];exact fun e=>he (ag_.1 e)
        simp only [e]
        exact drop he _ _ _ rfl
theorem fN_:∀ (d:List Fl) (vs:List (Option Sn)),aF_ d vs→∀ (b:Option Sn) (s:Sn),(∀ r,b=some r→r.i<18)→vs.foldl ah_ b=some s→s.i<18:=by
  intro d vs h
  induction h with
  |nil=>intro b s hb e;exact hb s e
  |@cons f v d vs h _ ih=>
    intro b s hb e
    refine ih (ah_ b v) s (fun r hr=>?_) e
    cases v with
    |none=>exact hb r hr
    |some x=>
      cases b with
      |none=>
        have:some x=some r:=hr
        injection this with this
        subst this
        exact h.1
      |some y=>
        have hr':(if y.i<x.i then some x else some y)=some r:=hr
        split at hr'
        · injection hr' with e2;subst e2;exact h.1
        · exact hb r hr'
theorem gi_ {d:List Fl} {vs:List (Option Sn)} (hd:GoodDisk d) (h:aF_ d vs):Ev (fun k=>impl_ShedActs.f k d) (match vs.foldl ah_ none with|none=>[]|some s=>bg_ d (nm s.i)):=by
  unfold impl_ShedActs.f
  simp only [Option.bind_some]
  refine Ev.bind (cC_ hd h) ?_
  cases e:vs.foldl ah_ none with
  |none=>
    simp only [aI_,Bool.false_eq_true,if_false]
    exact Ev.now _
  |some s=>
    simp only [aI_,if_true]
    have:=eF_ hd.hl s (fN_ d vs h none s (fun r hr=>by cases hr) e) d vs h 0 [] (by omega) rfl (by simp)
    rw [List.nil_append] at this
    exact this

/-! ### snapspec -/
theorem aR_ (s:ByteArray) (a:Int) (b:Bool) (hs:s.size≤9000000000000000000):Ev (fun k=>spec_l05Var.f k s a b) (bd_ s a b):=by
  unfold spec_l05Var.f bd_
  refine Ev.bind (cK_ s a hs) ?_
  cases b
  · by_cases h:(af_ s a).2.2=true
    · simp only [Bool.false_eq_true,if_false,if_pos h];exact Ev.now _
    · simp only [Bool.false_eq_true,if_false,if_neg h];exact Ev.now _
  · simp only [if_true];exact Ev.now _
def co_ (s:ByteArray) (a:Int) (b:Bool) (n:Int):ByteArray × ByteArray × Int × Bool:=
  if b=true then (mt,s,a,true) else if n>(s.size:Int) - a then (mt,s,a,true) else (s.extract a.toNat (a+n).toNat,s,a+n,false)
theorem gb_ {s:ByteArray} {a n:Int} {b:Bool} (hs:s.size≤9000000000000000000) (h:b=true∨(0≤a∧a≤(s.size:Int))) (hn:0≤n∧n≤1000000000):spec_l05Take.f s a b n=some (co_ s a b n):=by
  unfold spec_l05Take.f co_
  cases b with
  |true=>rfl
  |false=>
    have h:0≤a∧a≤(s.size:Int):=by
      rcases h with h|h
      · cases h
      · exact h
    simp only [Bool.false_eq_true,if_false]
    rw [w64 (x:=(s.size:Int) - a) (by omega) (by omega)]
    by_cases hc:n>(s.size:Int) - a
    · rw [if_pos hc,if_pos hc];rfl
    · rw [if_neg hc,if_neg hc,w64 (x:=a+n) (by omega) (by omega),show a+n - n=a by omega,w64 (x:=a) (by omega) (by omega),if_pos (by omega),if_pos (by omega),if_pos (by omega)]
def In (s:ByteArray) (a:Int) (b:Bool):Prop:=b=true∨(0≤a∧a≤(s.size:Int))
theorem In.read {s:ByteArray} {a:Int} {b:Bool} (h:In s a b):∃ p,gQ_ s p a b:=by
  rcases h with h|⟨h1,h2⟩
  · exact⟨mt,.inl h⟩
  · cases b with
    |true=>exact⟨mt,.inl rfl⟩
    |false=>exact⟨_,.inr ⟨rfl,h1,h2,rfl⟩⟩
theorem In.of {s p:ByteArray} {a:Int} {b:Bool} (h:gQ_ s p a b):In s a b:=by
  rcases h with h|⟨_,h1,h2,_⟩
  · exact .inl h
  · exact .inr ⟨h1,h2⟩
theorem cg_ {s:ByteArray} {a:Int} {b:Bool} (h:In s a b):(bd_ s a b).2.1=s∧In s (bd_ s a b).2.2.1 (bd_ s a b).2.2.2∧(0≤(bd_ s a b).1∧(bd_ s a b).1≤1000000000):=by
  obtain⟨p,hp⟩:=h.read
  obtain⟨h1,h2,h3⟩:=fr_ hp
  exact⟨h1,.of h2,h3⟩
theorem gg_ {s:ByteArray} {a n:Int} {b:Bool} (h:In s a b) (hn:0≤n):(co_ s a b n).2.1=s∧In s (co_ s a b n).2.2.1 (co_ s a b n).2.2.2∧(co_ s a b n).1.size≤s.size:=by
  unfold co_
  by_cases hb:b=true
  · rw [if_pos hb]
    exact⟨rfl,.inl rfl,Nat.zero_le _⟩
  · have h:0≤a∧a≤(s.size:Int):=by
      rcases h with h|h
      · exact absurd h hb
      · exact h
    rw [if_neg hb]
    by_cases hc:n>(s.size:Int) - a
    · rw [if_pos hc]
      exact⟨rfl,.inl rfl,Nat.zero_le _⟩
    · rw [if_neg hc]
      refine⟨rfl,.inr ⟨by show 0≤a+n;omega,by show a+n≤_;omega⟩, ?_⟩
      show (s.extract _ _).size≤_
      rw [ByteArray.size_extract]
      omega
def sh5 (s:ByteArray) (a:Int) (b:Bool):ByteArray × ByteArray × Int × Bool:=co_ s (bd_ s a b).2.2.1 (bd_ s a b).2.2.2 (bd_ s a b).1
theorem dL_ {s:ByteArray} {a:Int} {b:Bool} (hs:s.size≤9000000000000000000) (h:In s a b):Ev (fun k=>spec_l05ReadShort.f k s a b) (sh5 s a b):=by
  obtain⟨h1,h2,h3⟩:=cg_ h
  unfold spec_l05ReadShort.f sh5
  refine Ev.bind (aR_ s a b hs) ?_
  rw [h1,gb_ hs h2 h3]
  simp only [Option.bind_some]
  exact Ev.now _
theorem er_ {s:ByteArray} {a:Int} {b:Bool} (h:In s a b):(sh5 s a b).2.1=s∧In s (sh5 s a b).2.2.1 (sh5 s a b).2.2.2∧(sh5 s a b).1.size≤s.size:=by
  obtain⟨h1,h2,h3⟩:=cg_ h
  exact gg_ h2 h3.1
theorem eB_ {s t:ByteArray} {p:Nat} {rest:List Int} (ht:t.size≤1000) (hb:(bytesOf s).drop p=bytesOf (aa_ t) ++ rest):sh5 s (p:Int) false=(t,s,((p+(bytesOf (aa_ t)).length:Nat):Int),false)∧(bytesOf s).drop (p+(bytesOf (aa_ t)).length)=rest:=by
  refine⟨?_,by rw [←List.drop_drop,hb,List.drop_left]⟩
  have e:bytesOf (aa_ t)=ak_ 8 (t.size:Int) ++ bytesOf t:=by unfold aa_;rw [aE_,blV]
  rw [e] at hb ⊢
  rw [List.append_assoc] at hb
  have hl0:=congrArg List.length hb
  rw [List.length_drop,List.length_append,List.length_append,bytesOf_length,bytesOf_length] at hl0
  have hp0:=dz_ 8 (t.size:Int)
  have hv:=(dt_ (X:=(t.size:Int)) (by omega) (by omega) hb).1
  have hd2:(bytesOf s).drop (p+(ak_ 8 (t.size:Int)).length)=bytesOf t ++ rest:=by rw [←List.drop_drop,hb,List.drop_left]
  have hx:s.extract (p+(ak_ 8 (t.size:Int)).length) (p+(ak_ 8 (t.size:Int)).length+t.size)=t:=by
    apply aL_
    rw [aW_,hd2,show p+(ak_ 8 (t.size:Int)).length+t.size - (p+(ak_ 8 (t.size:Int)).length)=(bytesOf t).length by rw [bytesOf_length];omega,List.take_left]
  unfold sh5 co_
  rw [hv]
  simp only [Bool.false_eq_true,if_false]
  rw [if_neg (by omega),show ((p+(ak_ 8 (t.size:Int)).length:Nat):Int).toNat=p+(ak_ 8 (t.size:Int)).length by omega,show (((p+(ak_ 8 (t.size:Int)).length:Nat):Int)+(t.size:Int)).toNat=p+(ak_ 8 (t.size:Int)).length+t.size by omega,hx]
  rw [List.length_append,bytesOf_length,show ((p+(ak_ 8 (t.size:Int)).length:Nat):Int)+(t.size:Int)=((p+((ak_ 8 (t.size:Int)).length+t.size):Nat):Int) by omega]
theorem bt_ {i t:Int} {c:List Int} {b:ByteArray} (hi:0≤i∧i≤1000000000) (ht:0≤t∧t≤1000000000) (hc:c.length≤2000000) (hb:b.size≤1000000):∃ r,Ev (fun k=>spec_SnapText.f k i t c b) r:=by
  have h1:=ac_ i
  have h2:=ac_ t
  have h3:=ae_ (az_ c).1
  have h4:=ae_ b
  have h5:=cb_ c
  have bad:Ev (fun k=>spec_SnapText.j0 k (az_ c).1 true i t c b) (mt,false):=Ev.here (f:=fun _=>some (mt,false)) (fun k=>by simp only [spec_SnapText.j0,if_true];rfl) (fun _=>rfl)
  have good:∃ r,Ev (fun k=>spec_SnapText.j0 k (az_ c).1 false i t c b) r:=by
    have hz:(aj_ i ++ aj_ t ++ aa_ (az_ c).1 ++ aa_ b).size≤2000000:=by simp only [ByteArray.size_append];omega
    have fin:∃ r,Ev (fun k=>if (wrap64 (((aj_ i ++ aj_ t ++ aa_ (az_ c).1 ++ aa_ b).size:Int)+4))>20000 then some ((⟨#[]⟩:ByteArray),false) else (spec_Sealed.f k (aj_ i ++ aj_ t ++ aa_ (az_ c).1 ++ aa_ b)).bind fun q=>some (q.1,q.2)) r:=by
      by_cases hg:(wrap64 (((aj_ i ++ aj_ t ++ aa_ (az_ c).1 ++ aa_ b).size:Int)+4))>20000
      · simp only [if_pos hg];exact⟨_,Ev.now _⟩
      · simp only [if_neg hg];exact⟨_,Ev.bind (aV_ _) (Ev.now _)⟩
    obtain⟨r,hr⟩:=fin
    refine⟨r, ?_⟩
    refine Ev.step (fun k=>by simp only [spec_SnapText.j0,Bool.false_eq_true,if_false];rfl) ?_
    refine Ev.bind (am_ i (by omega) (by omega)) ?_
    refine Ev.bind (am_ t (by omega) (by omega)) ?_
    simp only [if_pos (show (aj_ i).size+(aj_ t).size≤9223372036854775807 by omega)]
    refine Ev.bind (aN_ _ (by omega)) ?_
    simp only [if_pos (show (aj_ i ++ aj_ t).size+(aa_ (az_ c).1).size≤9223372036854775807 by rw [ByteArray.size_append];omega)]
    refine Ev.bind (aN_ _ (by omega)) ?_
    simp only [if_pos (show (aj_ i ++ aj_ t ++ aa_ (az_ c).1).size+(aa_ b).size≤9223372036854775807 by simp only [ByteArray.size_append];omega)]
    exact hr
  obtain⟨g,hg⟩:=good
  have all:∃ r,Ev (fun k=>if (az_ c).2=true then ((spec_l01In.f i 0 1000000).bind fun x=>(if x=true then ((spec_l01In.f t 0 100000).bind fun y=>(if y=true then (spec_SnapText.j0 k (az_ c).1 (decide ((b.size:Int)>20000)) i t c b) else (spec_SnapText.j0 k (az_ c).1 true i t c b))) else (spec_SnapText.j0 k (az_ c).1 true i t c b))) else (spec_SnapText.j0 k (az_ c).1 true i t c b)) r:=by
    simp only [bc_,Option.bind_some]
    have dd:∃ r,Ev (fun k=>spec_SnapText.j0 k (az_ c).1 (decide ((b.size:Int)>20000)) i t c b) r:=by
      cases decide ((b.size:Int)>20000) with
      |true=>exact⟨_,bad⟩
      |false=>exact⟨g,hg⟩
    repeat (first|exact dd|exact⟨_,bad⟩|split)
  obtain⟨r,hr⟩:=all
  exact⟨r,by unfold spec_SnapText.f;exact Ev.bind (bh_ c hc) hr⟩
theorem em_ (s:ByteArray) (hs:s.size≤1000000):(ax_ s).1.length≤1000000:=by
  unfold ax_
  split
  · show (bytesOf s).length≤_
    rw [bytesOf_length]
    exact hs
  · exact Nat.zero_le _
theorem cD_ (q:ByteArray) (hq:q.size≤1000000):∃ r,Ev (fun k=>spec_ReadSnap.f k q) r:=by
  have hu:=dD_ q
  have i0:In (unB q).1 0 (!(unB q).2):=.inr ⟨by omega,by omega⟩
  obtain⟨a1,b1,c1⟩:=cg_ i0
  generalize e1:bd_ (unB q).1 0 (!(unB q).2)=n1 at a1 b1 c1
  obtain⟨a2,b2,c2⟩:=cg_ b1
  generalize e2:bd_ (unB q).1 n1.2.2.1 n1.2.2.2=n2 at a2 b2 c2
  obtain⟨a3,b3,c3⟩:=er_ b2
  have v3:=dL_ (by omega) b2
  generalize e3:sh5 (unB q).1 n2.2.2.1 n2.2.2.2=n3 at a3 b3 c3 v3
  obtain⟨a4,b4,c4⟩:=er_ b3
  have v4:=dL_ (by omega) b3
  generalize e4:sh5 (unB q).1 n3.2.2.1 n3.2.2.2=n4 at a4 b4 c4 v4
  have hcl:=em_ n3.1 (by omega)
  obtain⟨z,hz⟩:=bt_ (i:=n1.1) (t:=n2.1) (c:=(ax_ n3.1).1) (b:=n4.1) c1 c2 (by omega) (by omega)
  have j0:∀ (x:Bool) (i t:Int) (c:List Int) (b:ByteArray),∃ r,Ev (fun k=>spec_ReadSnap.j0 k x i t c b) r:=by
    intro x i t c b
    cases x with
    |true=>exact⟨_,Ev.here (f:=fun _=>some (0,0,[],mt,false)) (fun k=>by simp only [spec_ReadSnap.j0,if_true];rfl) (fun _=>rfl)⟩
    |false=>exact⟨_,Ev.here (f:=fun _=>some (i,t,c,b,true)) (fun k=>by simp only [spec_ReadSnap.j0,Bool.false_eq_true,if_false]) (fun _=>rfl)⟩
  have fin:∃ r,Ev (fun k=>if n4.2.2.2=true then (spec_ReadSnap.j0 k true n1.1 n2.1 (ax_ n3.1).1 n4.1) else (if z.2=true then (spec_ReadSnap.j0 k (z.1.toList != q.toList) n1.1 n2.1 (ax_ n3.1).1 n4.1) else (spec_ReadSnap.j0 k true n1.1 n2.1 (ax_ n3.1).1 n4.1))) r:=by
    repeat (first|exact j0 _ _ _ _ _|split)
  obtain⟨r,hr⟩:=fin
  refine⟨r, ?_⟩
  unfold spec_ReadSnap.f
  refine Ev.bind (aQ_ q (by omega)) ?_
  refine Ev.bind (aR_ _ _ _ (by omega)) ?_
  rw [e1,a1]
  refine Ev.bind (aR_ _ _ _ (by omega)) ?_
  rw [e2,a2]
  refine Ev.bind v3 ?_
  refine Ev.bind (be_ n3.1 (by omega)) ?_
  rw [a3]
  refine Ev.bind v4 ?_
  refine Ev.bind hz ?_
  exact hr
theorem ci_ {i t:Int} {c:List Int} {b:ByteArray} (h:GoodSnap i t c b):Ev (fun k=>spec_ReadSnap.f k (ad_ i t c b)) (i,t,c,b,true):=by
  have hz:=aC_ h
  have hy:=an_ h
  have hi:=h.hi
  have ht:=h.ht
  have hc4:=aB_ h.hc
  have hb:(bytesOf (ao_ i t c b)).drop 0=bytesOf (aj_ i) ++ (bytesOf (aj_ t) ++ (bytesOf (aa_ (au_ c)) ++ (bytesOf (aa_ b) ++ []))):=by
    rw [List.drop_zero]
    unfold ao_
    rw [aE_,aE_,aE_,List.append_assoc,List.append_assoc,List.append_nil]
  have i0:In (ao_ i t c b) 0 false:=.inr ⟨by omega,by omega⟩
  have j1:=(cg_ i0).2.1
  obtain⟨e1,hb⟩:=cj_ (p:=0) ⟨by omega,by omega⟩ hb
  obtain⟨e2,hb⟩:=cj_ ⟨by omega,by omega⟩ hb
  rw [show ((0:Nat):Int)=0 from rfl] at e1
  rw [e1] at j1
  have j2:=(cg_ j1).2.1
  simp only at j2
  rw [e2] at j2
  have v3:=dL_ (by omega) j2
  have j3:=(er_ j2).2.1
  obtain⟨e3,hb⟩:=eB_ (by omega) hb
  simp only at v3 j3
  rw [e3] at v3 j3
  have v4:=dL_ (by omega) j3
  obtain⟨e4,_⟩:=eB_ h.hb hb
  simp only at v4
  rw [e4] at v4
  unfold spec_ReadSnap.f
  have hu:Ev (fun k=>spec_Unsealed.f k (ad_ i t c b)) (ao_ i t c b,true):=by
    have:=aQ_ (ad_ i t c b) (by omega)
    unfold ad_ at this
    rw [ds_ _ (by omega)] at this
    exact this
  refine Ev.bind hu ?_
  simp only [Bool.not_true]
  refine Ev.bind (aR_ _ 0 false (by omega)) ?_
  simp only [e1]
  refine Ev.bind (aR_ _ _ false (by omega)) ?_
  simp only [e2]
  refine Ev.bind v3 ?_
  refine Ev.bind (be_ (au_ c) (by omega)) ?_
  have hcr:ax_ (au_ c)=(c,true):=by
    unfold ax_
    rw [cG_ h.hc,if_pos h.hc]
  rw [hcr]
  refine Ev.bind v4 ?_
  refine Ev.bind (bi_ h) ?_
  simp only [Bool.false_eq_true,if_false,if_true,bne_self_eq_false]
  exact Ev.here (f:=fun _=>some (i,t,c,b,true)) (fun k=>by simp only [spec_ReadSnap.j0,Bool.false_eq_true,if_false]) (fun _=>rfl)

/-! ### snapcut -/
theorem dgS {i:Nat} (h:i<10):strOfNums [48+(i:Int)]=(⟨#[UInt8.ofNat (48+i)]⟩:ByteArray):=by
  apply aL_
  rw [cW_ (by intro x hx;rw [List.mem_singleton] at hx;omega)]
  show [48+(i:Int)]=[((UInt8.ofNat (48+i)).toNat:Int)]
  rw [UInt8.toNat_ofNat']
  congr 1
  omega
theorem fK_ (acc:ByteArray):Ev (fun k=>spec_Decimal.l0 k 0 false acc) acc:=Ev.here (f:=fun _=>some acc) (fun k=>by simp only [spec_Decimal.l0,if_true,Bool.false_eq_true,if_false]) (fun _=>rfl)
theorem dE_ {x q d:Nat} {acc r:ByteArray} (hx:x=10 * q+d) (hd:d<10) (h0:0<x) (hx2:x≤1000) (ha:acc.size≤100) (h:Ev (fun k=>spec_Decimal.l0 k (q:Int) false ((⟨#[UInt8.ofNat (48+d)]⟩:ByteArray) ++ acc)) r):Ev (fun k=>spec_Decimal.l0 k (x:Int) false acc) r:=by
  have hm:Int.tmod (x:Int) 10=(d:Int):=by rw [Int.tmod_eq_emod_of_nonneg (by omega)];omega
  have hq:Int.tdiv (x:Int) 10=(q:Int):=by rw [Int.tdiv_eq_ediv_of_nonneg (by omega)];omega
  refine Ev.step (fun k=>by simp only [spec_Decimal.l0];rw [if_neg (show ¬ (x:Int)=0 by omega),hm,if_neg (show ¬ (d:Int)<0 by omega)]) ?_
  refine Ev.step (fun k=>by simp only [spec_Decimal.j1];rfl) ?_
  have hz:(⟨#[UInt8.ofNat (48+d)]⟩:ByteArray).size=1:=rfl
  simp only [fF_ (show (0:Int)≤(d:Int) by omega) (show (d:Int)<10 by omega),Option.bind_some,hq,w64 (x:=(q:Int)) (by omega) (by omega),dgS hd]
  simp only [if_pos (show (⟨#[UInt8.ofNat (48+d)]⟩:ByteArray).size+acc.size≤9223372036854775807 by omega)]
  exact h
theorem du_ {i:Nat} (h:i<100):Ev (fun k=>spec_Decimal.f k (i:Int)) (⟨(dg i).toArray⟩:ByteArray):=by
  by_cases h1:i<10
  · exact ej_ h1
  · unfold spec_Decimal.f
    simp only [if_neg (show ¬ (i:Int)=0 by omega),decide_eq_false (show ¬ (i:Int)<0 by omega)]
    refine dE_ (x:=i) (q:=i / 10) (d:=i % 10) (by omega) (by omega) (by omega) (by omega) (by decide) ?_
    refine dE_ (x:=i / 10) (q:=0) (d:=i / 10) (by omega) (by omega) (by omega) (by omega) (by rw [aq_];show 1≤100;omega) ?_
    have e:(⟨#[UInt8.ofNat (48+i / 10)]⟩:ByteArray) ++ ((⟨#[UInt8.ofNat (48+i % 10)]⟩:ByteArray) ++ (⟨#[]⟩:ByteArray))=(⟨(dg i).toArray⟩:ByteArray):=by
      unfold dg
      rw [if_neg h1,aq_]
      rfl
    rw [e]
    exact fK_ _
theorem eA_ {i:Nat} (h:i<100):Ev (fun k=>spec_SnapName.f k (i:Int)) (nm i):=by
  have:=bo_ i
  unfold spec_SnapName.f
  rw [bc_,ab_.2 ⟨by omega,by omega⟩]
  simp only [Option.bind_some,if_true]
  refine Ev.bind (du_ h) ?_
  simp only [if_pos (show 1+(⟨(dg i).toArray⟩:ByteArray).size≤9223372036854775807 by show 1+(dg i).length≤_;omega)]
  exact Ev.now _
theorem gv_ {s:ByteArray} {x:Nat} (hx:x<100) (hs:s=(⟨(dg x).toArray⟩:ByteArray)):Ev (fun k=>spec_ReadDecimal.l0 k s (x:Int) (s.size:Int)) ((x:Int),true):=by
  refine Ev.step (fun k=>by simp only [spec_ReadDecimal.l0];rw [if_neg (show ¬ (s.size:Int)<(s.size:Int) by omega),if_neg (show ¬ (x:Int)>1000000000 by omega)]) ?_
  refine Ev.bind (du_ hx) ?_
  subst hs
  simp only [if_true]
  exact Ev.now _
theorem dp_ {s:ByteArray} {x d j:Nat} {r:Int × Bool} (hj:j<s.size) (hs:s.size≤100) (hd:d<10) (hx:x≤1000) (hb:bt s (j:Int)=48+(d:Int)) (h:Ev (fun k=>spec_ReadDecimal.l0 k s ((10 * x+d:Nat):Int) ((j+1:Nat):Int)) r):Ev (fun k=>spec_ReadDecimal.l0 k s (x:Int) (j:Int)) r:=by
  refine Ev.step (fun k=>by simp only [spec_ReadDecimal.l0];rw [if_pos (show (j:Int)<(s.size:Int) by omega),if_pos (show (0:Int)≤(j:Int) by omega),hb,if_neg (show ¬ 48+(d:Int)<48 by omega),if_neg (show ¬ 48+(d:Int)>57 by omega)]) ?_
  simp only [w64 (x:=48+(d:Int)) (by omega) (by omega),w64 (x:=10 * (x:Int)) (by omega) (by omega),w64 (x:=10 * (x:Int)+(48+(d:Int))) (by omega) (by omega),w64 (x:=10 * (x:Int)+(48+(d:Int)) - 48) (by omega) (by omega),w64 (x:=(j:Int)+1) (by omega) (by omega)]
  rw [show 10 * (x:Int)+(48+(d:Int)) - 48=((10 * x+d:Nat):Int) by omega]
  exact h
theorem fa_ {i:Nat} (h:i<100):Ev (fun k=>spec_ReadDecimal.f k (⟨(dg i).toArray⟩:ByteArray)) ((i:Int),true):=by
  have hz:=bo_ i
  have hs:(⟨(dg i).toArray⟩:ByteArray).size=(dg i).length:=rfl
  unfold spec_ReadDecimal.f
  simp only [if_neg (show ¬ ((⟨(dg i).toArray⟩:ByteArray).size:Int)>10 by omega)]
  have hend:=gv_ (s:=(⟨(dg i).toArray⟩:ByteArray)) (x:=i) h rfl
  by_cases h1:i<10
  · have e:dg i=[UInt8.ofNat (48+i)]:=by unfold dg;rw [if_pos h1]
    have b0:bt (⟨(dg i).toArray⟩:ByteArray) ((0:Nat):Int)=48+(i:Int):=by
      rw [cl_,e]
      show ((UInt8.ofNat (48+i)).toNat:Int)=_
      rw [UInt8.toNat_ofNat']
      omega
    have hl:(dg i).length=1:=by rw [e];rfl
    refine dp_ (x:=0) (d:=i) (j:=0) (by omega) (by omega) h1 (by omega) b0 ?_
    rw [show 10 * 0+i=i by omega,show (0+1:Nat)=(⟨(dg i).toArray⟩:ByteArray).size by omega]
    exact hend
  · have e:dg i=[UInt8.ofNat (48+i / 10),UInt8.ofNat (48+i % 10)]:=by unfold dg;rw [if_neg h1]
    have b0:bt (⟨(dg i).toArray⟩:ByteArray) ((0:Nat):Int)=48+((i / 10:Nat):Int):=by
      rw [cl_,e]
      show ((UInt8.ofNat (48+i / 10)).toNat:Int)=_
      rw [UInt8.toNat_ofNat']
      omega
    have b1:bt (⟨(dg i).toArray⟩:ByteArray) ((1:Nat):Int)=48+((i % 10:Nat):Int):=by
      rw [cl_,e]
      show ((UInt8.ofNat (48+i % 10)).toNat:Int)=_
      rw [UInt8.toNat_ofNat']
      omega
    have hl:(dg i).length=2:=by rw [e];rfl
    refine dp_ (x:=0) (d:=i / 10) (j:=0) (by omega) (by omega) (by omega) (by omega) b0 ?_
    refine dp_ (x:=10 * 0+i / 10) (d:=i % 10) (j:=0+1) (by omega) (by omega) (by omega) (by omega) b1 ?_
    rw [show 10 * (10 * 0+i / 10)+i % 10=i by omega,show (0+1+1:Nat)=(⟨(dg i).toArray⟩:ByteArray).size by omega]
    exact hend
theorem l08 {i:Nat} (h:i<100):Ev (fun k=>spec_l08Index.f k (nm i)) (i:Int):=by
  have hz:=aZ_ i
  have e2:(nm i).extract 1 (nm i).size=(⟨(dg i).toArray⟩:ByteArray):=by unfold nm;exact fB_ _
  unfold spec_l08Index.f
  simp only [if_neg (show ¬ ((nm i).size:Int)<2 by omega),if_pos (show (1:Int)≤((nm i).size:Int) by omega),e2]
  refine Ev.bind (fa_ h) ?_
  simp only [if_true]
  refine Ev.bind (eA_ h) ?_
  simp only [if_true]
  exact Ev.now _
theorem gn_:Ev (fun k=>spec_l08Index.f k sp) (-1):=by
  have hz:sp.size=2:=rfl
  have h2:(sp.extract 1 sp.size).size=1:=by decide
  have hb:bt (sp.extract 1 sp.size) 0=43:=by rw [cl_,show sp.extract 1 sp.size=(⟨#[43]⟩:ByteArray) by decide];rfl
  unfold spec_l08Index.f
  simp only [if_neg (show ¬ (sp.size:Int)<2 by omega),if_pos (show (1:Int)≤(sp.size:Int) by omega)]
  have hr:Ev (fun k=>spec_ReadDecimal.f k (sp.extract 1 sp.size)) (0,false):=by
    unfold spec_ReadDecimal.f
    simp only [if_neg (show ¬ ((sp.extract 1 sp.size).size:Int)>10 by omega)]
    exact Ev.here (f:=fun _=>some (0,false)) (fun k=>by simp only [spec_ReadDecimal.l0];rw [if_pos (show (0:Int)<((sp.extract 1 sp.size).size:Int) by omega),if_pos (show (0:Int)≤0 by omega),hb,if_pos (show (43:Int)<48 by omega)]) (fun _=>rfl)
  refine Ev.bind hr ?_
  simp only [Bool.false_eq_true,if_false]
  exact Ev.now _
theorem cT_ {d:List Fl} (hd:GoodDisk d):∀ (r:List Fl) (vs:List (Option Sn)),aF_ r vs→∀ (j:Nat) (b:Option Sn),j≤d.length→d.drop j=r →
    Ev (fun k=>spec_NewestSnap.l0 k (j:Int) d (eQ_ b) (stT b) (stC b) (stB b)) (aI_ (vs.foldl ah_ b)):=by
  have hl:=hd.hl
  intro r vs h
  induction h with
  |nil=>
    intro j b hj hr
    have:d.length≤j:=by
      have h2:=congrArg List.length hr
      rw [List.length_drop,List.length_nil] at h2
      omega
    refine Ev.step (fun k=>by simp only [spec_NewestSnap.l0];rw [if_neg (show ¬ (j:Int)<(d.length:Int) by omega)]) ?_
    cases b with
    |none=>exact Ev.here (f:=fun _=>some (aI_ none)) (fun k=>by simp only [spec_NewestSnap.j1,Bool.false_eq_true,if_false];rw [if_pos (show eQ_ none<0 by decide)];rfl) (fun _=>rfl)
    |some s=>exact Ev.here (f:=fun _=>some (aI_ (some s))) (fun k=>by simp only [spec_NewestSnap.j1,Bool.false_eq_true,if_false];rw [if_neg (show ¬ eQ_ (some s)<0 by show ¬ (s.i:Int)<0;omega)];rfl) (fun _=>rfl)
  |@cons f v r vs h _ ih=>
    intro j b hj hr
    have hjl:j<d.length:=by
      rcases Nat.lt_or_ge j d.length with h1|h1
      · exact h1
      · rw [List.drop_of_length_le h1] at hr;cases hr
    rw [List.drop_eq_getElem_cons hjl] at hr
    injection hr with h1 h2
    refine Ev.step (fun k=>by simp only [spec_NewestSnap.l0];rw [if_pos (show (j:Int)<(d.length:Int) by omega)]) ?_
    refine Ev.bind (bj_ hd) ?_
    refine Ev.step (fun k=>by simp only [spec_NewestSnap.j1,if_true];rw [if_pos (show (0:Int)≤(j:Int) by omega),if_pos (show (j:Int)<(d.length:Int) by omega)]) ?_
    simp only [ar_ hjl,h1]
    have step:∀ (b':Option Sn),Ev (fun k=>spec_NewestSnap.l0 k (wrap64 ((j:Int)+1)) d (eQ_ b') (stT b') (stC b') (stB b')) (aI_ (vs.foldl ah_ b')):=by
      intro b'
      rw [w64 (x:=(j:Int)+1) (by omega) (by omega)]
      exact ih (j+1) b' (by omega) h2
    cases v with
    |none=>
      obtain⟨e0,e1⟩:=h
      obtain⟨q,hq⟩:=cD_ f.f1 (by omega)
      rw [e0]
      refine Ev.bind gn_ ?_
      refine Ev.bind hq ?_
      simp only [if_neg (show ¬ (-1:Int)≥0 by omega)]
      exact step b
    |some s=>
      obtain⟨hi,hg,rfl⟩:=h
      refine Ev.bind (l08 (show s.i<100 by omega)) ?_
      refine Ev.bind (ci_ hg) ?_
      simp only [if_pos (show (s.i:Int)≥0 by omega),if_true]
      by_cases hc:(s.i:Int)>eQ_ b
      · simp only [if_pos hc]
        have:ah_ b (some s)=some s:=by
          cases b with
          |none=>rfl
          |some r=>exact if_pos (by have:(s.i:Int)>(r.i:Int):=hc;omega)
        simp only [List.foldl_cons,this]
        exact step (some s)
      · simp only [if_neg hc]
        have:ah_ b (some s)=b:=by
          cases b with
          |none=>exact absurd (show (s.i:Int) > -1 by omega) hc
          |some r=>exact if_neg (by have:¬ (s.i:Int)>(r.i:Int):=hc;omega)
        simp only [List.foldl_cons,this]
        exact step b
theorem bu_ {d:List Fl} {vs:List (Option Sn)} (hd:GoodDisk d) (h:aF_ d vs):Ev (fun k=>spec_NewestSnap.f k d) (aI_ (vs.foldl ah_ none)):=cT_ hd d vs h 0 none (by omega) rfl
def cy_ (f:Fl) (n:Int):Fl:=(fun m:Int=>(⟨f.f0,f.f1.extract 0 m.toNat,m⟩:Fl)) (if (if n>(f.f1.size:Int) then (f.f1.size:Int) else n)<f.f2 then f.f2 else if n>(f.f1.size:Int) then (f.f1.size:Int) else n)
inductive Lost:List Fl→List Fl→Prop
  |nil:Lost [] []
  |cons {f:Fl} {d e:List Fl} (n:Int) (h:Lost d e):Lost (f :: d) (cy_ f n :: e)
theorem ex_ {d:List Fl} (hd:GoodDisk d) (l:List Int) (hl:l.length≤1000000):∀ (m j:Nat) (acc:List Fl),d.length - j=m→j≤d.length→acc.length≤j→∃ e,Lost (d.drop j) e∧Ev (fun k=>spec_LoseDisk.l0 k l (j:Int) d acc) (acc ++ e,true):=by
  have hl30:=hd.hl
  intro m
  induction m with
  |zero=>
    intro j acc hm hj _
    refine⟨[],by rw [List.drop_of_length_le (by omega)];exact .nil, ?_⟩
    rw [List.append_nil]
    exact Ev.here (f:=fun _=>some (acc,true)) (fun k=>by simp only [spec_LoseDisk.l0];rw [if_neg (by omega)]) (fun _=>rfl)
  |succ m ih=>
    intro j acc hm hj ha
    have hjl:j<d.length:=by omega
    obtain⟨g1,g2,g3⟩:=hd.hf d[j] (List.getElem_mem hjl)
    have key:∀ n:Int,∃ e,Lost (d.drop j) e∧Ev (fun k=>spec_LoseDisk.j1 k l (j:Int) n d acc d[j].f0 d[j].f1 d[j].f2) (acc ++ e,true):=by
      intro n
      obtain⟨e,h1,h2⟩:=ih (j+1) (acc ++ [cy_ d[j] n]) (by omega) (by omega) (by rw [List.length_append,List.length_singleton];omega)
      refine⟨cy_ d[j] n :: e,by rw [List.drop_eq_getElem_cons hjl];exact .cons n h1, ?_⟩
      rw [List.append_assoc] at h2
      have two:∀ m:Int,m=(if n>(d[j].f1.size:Int) then (d[j].f1.size:Int) else n)→Ev (fun k=>spec_LoseDisk.j2 k l (j:Int) m d acc d[j].f0 d[j].f1 d[j].f2) (acc ++ cy_ d[j] n :: e,true):=by
        intro m hm2
        have hle:m≤(d[j].f1.size:Int):=by rw [hm2];split <;> omega
        have e3:cy_ d[j] n=(⟨d[j].f0,d[j].f1.extract 0 (if m<d[j].f2 then d[j].f2 else m).toNat,if m<d[j].f2 then d[j].f2 else m⟩:Fl):=by unfold cy_;rw [←hm2]
        rw [e3] at h2 ⊢
        by_cases hc:m<d[j].f2
        · rw [if_pos hc] at h2 ⊢
          refine Ev.step (fun k=>by simp only [spec_LoseDisk.j2];rw [if_pos hc,if_pos (show (0:Int)≤d[j].f2 by omega),if_pos (show d[j].f2≤(d[j].f1.size:Int) by omega),if_pos (show acc.length<3518437208883 by omega),w64 (x:=(j:Int)+1) (by omega) (by omega)]) ?_
          exact h2
        · rw [if_neg hc] at h2 ⊢
          refine Ev.step (fun k=>by simp only [spec_LoseDisk.j2];rw [if_neg hc,if_pos (show (0:Int)≤m by omega),if_pos hle,if_pos (show acc.length<3518437208883 by omega),w64 (x:=(j:Int)+1) (by omega) (by omega)]) ?_
          exact h2
      by_cases hn:n>(d[j].f1.size:Int)
      · refine Ev.step (fun k=>by simp only [spec_LoseDisk.j1];rw [if_pos hn]) ?_
        exact two _ (by rw [if_pos hn])
      · refine Ev.step (fun k=>by simp only [spec_LoseDisk.j1];rw [if_neg hn]) ?_
        exact two _ (by rw [if_neg hn])
    by_cases hx:(j:Int)<(l.length:Int)
    · obtain⟨e,h1,h2⟩:=key (rd l (j:Int))
      refine⟨e,h1,Ev.step (fun k=>by simp only [spec_LoseDisk.l0];rw [if_pos (show (j:Int)<(d.length:Int) by omega),if_pos (show (0:Int)≤(j:Int) by omega),if_pos hx,ar_ hjl]) h2⟩
    · obtain⟨e,h1,h2⟩:=key 0
      refine⟨e,h1,Ev.step (fun k=>by simp only [spec_LoseDisk.l0];rw [if_pos (show (j:Int)<(d.length:Int) by omega),if_pos (show (0:Int)≤(j:Int) by omega),if_neg hx,ar_ hjl]) h2⟩
theorem gc_ {d:List Fl} (hd:GoodDisk d) (l:List Int) (hl:l.length≤1000000):∃ e,Lost d e∧Ev (fun k=>spec_LoseDisk.f k d l) (e,true):=by
  obtain⟨e,h1,h2⟩:=ex_ hd l hl d.length 0 [] (by omega) (by omega) (by simp)
  refine⟨e,h1, ?_⟩
  unfold spec_LoseDisk.f
  refine Ev.bind (bj_ hd) ?_
  simp only [if_true]
  exact h2
theorem dX_ {f:Fl} (h:f.f2=(f.f1.size:Int)) (n:Int):cy_ f n=f:=by
  have e:(if (if n>(f.f1.size:Int) then (f.f1.size:Int) else n)<f.f2 then f.f2 else if n>(f.f1.size:Int) then (f.f1.size:Int) else n)=f.f2:=by
    rw [h]
    split <;> split <;> omega
  unfold cy_
  rw [e,h]
  show (⟨f.f0,f.f1.extract 0 (f.f1.size:Int).toNat,(f.f1.size:Int)⟩:Fl)=f
  rw [Int.toNat_natCast,ByteArray.extract_zero_size,←h]
theorem bT_ {d e:List Fl} (h:Lost d e) (hk:∀ f∈d,f.f2=(f.f1.size:Int)):e=d:=by
  induction h with
  |nil=>rfl
  |cons n _ ih=>rw [dX_ (hk _ List.mem_cons_self),ih (fun f hf=>hk f (List.mem_cons_of_mem _ hf))]
theorem go_ {d m:List Fl} {l:List Ac} {a:Nat} (hd:GoodDisk d) (ha:a≤l.length) (hl:l.length≤1000000) (hr:dg_ d (l.take a) m) (hm:GoodDisk m) (p:List Int) (hp:p.length≤1000000):∃ e,Lost m e∧Ev (fun k=>spec_CutActs.f k d l (a:Int) p) (e,true):=by
  obtain⟨e,h1,h2⟩:=gc_ hm p hp
  refine⟨e,h1, ?_⟩
  have hlen:(l.take a).length=a:=by rw [List.length_take];omega
  unfold spec_CutActs.f
  rw [bc_,ab_.2 ⟨by omega,by omega⟩]
  simp only [Option.bind_some,if_true,if_pos (show (0:Int)≤(a:Int) by omega),if_pos (show (a:Int)≤(l.length:Int) by omega),Int.toNat_natCast]
  refine Ev.bind (eH_ hr hd.hl (by omega)) ?_
  simp only [hlen,if_neg (show ¬ (a:Int)<(a:Int) by omega)]
  refine Ev.bind h2 ?_
  exact Ev.now _
theorem fQ_ {b:List Int} (hb:b.length≤1048576):Tot (fun k=>spec_DrawPlaces.f k b) (fun r=>r.length=12∧∀ x∈r,0≤x∧x<10000):=by
  obtain⟨h,hn⟩:=fC_ b
  unfold spec_DrawPlaces.f
  refine Tot.bind (P:=fun r=>r=(b,0,h)) ⟨_,hn,rfl⟩ fun r hr=>?_
  subst hr
  refine Tot.bind (gR_ h hb (dy_ b)) fun q hq=>?_
  have:∀ (m:Nat) (x i h:Int) (acc:List Int),12 - x=m→0≤x→x≤12→(acc.length:Int)=x→(∀ y∈acc,0≤y∧y<10000)→Cur b i→Tot (fun k=>spec_DrawPlaces.l0 k acc x b i h) (fun r=>r.length=12∧∀ x∈r,0≤x∧x<10000):=by
    intro m
    induction m with
    |zero=>
      intro x i h acc hm h0 h12 hl ha hi
      refine Tot.step (fun k=>by simp only [spec_DrawPlaces.l0];rw [if_neg (show ¬ x<12 by omega)]) ?_
      exact Tot.ret _ ⟨by omega,ha⟩
    |succ m ih=>
      intro x i h acc hm h0 h12 hl ha hi
      refine Tot.step (fun k=>by simp only [spec_DrawPlaces.l0];rw [if_pos (show x<12 by omega)]) ?_
      refine Tot.bind (ay_ h 10000 hb hi) fun u hu=>?_
      have h2:=hu.1.2.1 (by omega)
      simp only [if_pos (show acc.length<17592186044416 by omega),w64 (x:=x+1) (by omega) (by omega)]
      exact ih _ _ _ _ (by omega) (by omega) (by omega) (by rw [List.length_append,List.length_singleton];omega) (fun y hy=>by
        rcases List.mem_append.1 hy with hy|hy
        · exact ha y hy
        · rw [List.mem_singleton] at hy
          subst hy
          exact⟨hu.1.1,h2⟩) hu.2
  exact this 12 0 _ _ [] (by omega) (by omega) (by omega) (by simp) (fun y hy=>by cases hy) hq.2
theorem gH_ {p:List Int} (hp:p.length=12):Tot (fun k=>laws_lefts.f k p) (fun r=>r.length≤6):=by
  unfold laws_lefts.f
  have:∀ (m:Nat) (x:Int) (acc:List Int),6 - x=m→0≤x→x≤6→(acc.length:Int)=x→Tot (fun k=>laws_lefts.l0 k p acc x) (fun r=>r.length≤6):=by
    intro m
    induction m with
    |zero=>
      intro x acc hm h0 h6 hl
      refine Tot.step (fun k=>by simp only [laws_lefts.l0];rw [if_neg (show ¬ x<6 by omega)]) ?_
      exact Tot.ret _ (by omega)
    |succ m ih=>
      intro x acc hm h0 h6 hl
      refine Tot.step (fun k=>by simp only [laws_lefts.l0];rw [if_pos (show x<6 by omega),if_pos (show (0:Int)≤x by omega),if_pos (show x<(p.length:Int) by omega),if_pos (show acc.length<17592186044416 by omega),w64 (x:=x+1) (by omega) (by omega)]) ?_
      exact ih _ _ (by omega) (by omega) (by omega) (by rw [List.length_append,List.length_singleton];omega)
  exact this 6 0 [] (by omega) (by omega) (by omega) (by simp)

/-! ### snapend -/
theorem aF_.app {a b:List Fl} {va vb:List (Option Sn)} (h:aF_ a va) (h2:aF_ b vb):aF_ (a ++ b) (va ++ vb):=by
  induction h with
  |nil=>exact h2
  |cons h _ ih=>exact .cons h ih
theorem ba_:∀ {d:List Fl},(∀ f∈d,al_ f)→∃ vs,aF_ d vs∧∀ v∈vs,∃ s:Sn,v=some s∧s.i≤8:=by
  intro d
  induction d with
  |nil=>intro _;exact⟨[],.nil,fun v hv=>by cases hv⟩
  |cons f d ih=>
    intro h
    obtain⟨vs,h1,h2⟩:=ih (fun x hx=>h x (List.mem_cons_of_mem _ hx))
    obtain⟨i,t,c,b,hi,hg,e⟩:=h f List.mem_cons_self
    refine⟨some ⟨i,t,c,b⟩ :: vs,.cons ⟨by show i<18;omega,hg,e⟩ h1,fun v hv=>?_⟩
    rcases List.mem_cons.1 hv with rfl|hv
    · exact⟨_,rfl,hi⟩
    · exact h2 v hv
theorem eX_ (S:Sn):∀ (vs:List (Option Sn)) (b:Option Sn),(some S∈vs∨b=some S)→(∀ r,(some r∈vs∨b=some r)→r=S∨r.i<S.i)→vs.foldl ah_ b=some S:=by
  intro vs
  induction vs with
  |nil=>
    intro b h _
    rcases h with h|h
    · cases h
    · exact h
  |cons v vs ih=>
    intro b h hr
    have hstep:∀ r,ah_ b v=some r→some r=v∨b=some r:=by
      intro r e
      cases v with
      |none=>exact .inr e
      |some x=>
        cases b with
        |none=>exact .inl e.symm
        |some y=>
          have e2:(if y.i<x.i then some x else some y)=some r:=e
          split at e2
          · exact .inl e2.symm
          · exact .inr e2
    refine ih (ah_ b v) ?_ (fun r h1=>?_)
    · by_cases hv:some S∈vs
      · exact .inl hv
      · right
        rcases h with h|h
        · rcases List.mem_cons.1 h with h|h
          · subst h
            cases b with
            |none=>rfl
            |some y=>
              rcases hr y (.inr rfl) with e|e
              · subst e;show (if y.i<y.i then some y else some y)=some y;split <;> rfl
              · exact if_pos e
          · exact absurd h hv
        · subst h
          cases v with
          |none=>rfl
          |some x=>
            rcases hr x (.inl List.mem_cons_self) with e|e
            · subst e;show (if x.i<x.i then some x else some x)=some x;split <;> rfl
            · exact if_neg (by omega)
    · rcases h1 with h1|h1
      · exact hr r (.inl (List.mem_cons_of_mem _ h1))
      · rcases hstep r h1 with h2|h2
        · exact hr r (.inl (by rw [h2];exact List.mem_cons_self))
        · exact hr r (.inr h2)
theorem dB_:∀ (d:List Fl) (vs:List (Option Sn)),aF_ d vs→∀ (b:Option Sn) (s:Sn),vs.foldl ah_ b=some s→b=some s∨(some s∈vs∧∃ f∈d,gX_ f (some s)):=by
  intro d vs h
  induction h with
  |nil=>intro b s e;exact .inl e
  |@cons f v d vs h _ ih=>
    intro b s e
    rcases ih (ah_ b v) s e with h1|⟨h1,g,hg,h2⟩
    · cases v with
      |none=>exact .inl h1
      |some x=>
        have hx:some x=some s→b=some s∨(some s∈some x :: vs∧∃ g∈f :: d,gX_ g (some s)):=fun e=>by
          injection e with e;subst e
          exact .inr ⟨List.mem_cons_self,f,List.mem_cons_self,h⟩
        cases b with
        |none=>exact hx h1
        |some y=>
          have h1':(if y.i<x.i then some x else some y)=some s:=h1
          split at h1'
          · exact hx h1'
          · exact .inl h1'
    · exact .inr ⟨List.mem_cons_of_mem _ h1,g,List.mem_cons_of_mem _ hg,h2⟩
theorem ct_:∀ {d:List Fl} {f:Fl},d.Pairwise (fun a b=>lt a.f0 b.f0=true)→f∈d→d.filter (fun x=>decide (x.f0=f.f0))=[f]:=by
  intro d
  induction d with
  |nil=>intro f _ h;cases h
  |cons g d ih=>
    intro f hp h
    obtain⟨h1,h2⟩:=List.pairwise_cons.1 hp
    rcases List.mem_cons.1 h with rfl|h
    · rw [List.filter_cons_of_pos (by simp),List.filter_eq_nil_iff.2 (fun x hx e=>bQ_ (h1 x hx) (of_decide_eq_true e).symm)]
    · rw [List.filter_cons_of_neg (by simp [bQ_ (h1 f h)]),ih h2 h]
def fU_ (d:List Fl) (l:List Fl):List Fl:=l.foldl (fun e f=>bV_ e f.f0) d
theorem fs_:∀ (l d:List Fl),fU_ d l=d.filter (fun x=>l.all (fun f=>!(decide (x.f0=f.f0)))):=by
  intro l
  induction l with
  |nil=>intro d;exact(List.filter_eq_self.2 (fun _ _=>rfl)).symm
  |cons f l ih=>
    intro d
    show fU_ (bV_ d f.f0) l=_
    rw [ih]
    unfold bV_
    rw [List.filter_filter]
    refine List.filter_congr fun x _=>?_
    rw [List.all_cons,Bool.and_comm]
theorem dP_:∀ (l d:List Fl),GoodDisk d→l.Pairwise (fun a b=>lt a.f0 b.f0=true)→(∀ f∈l,f∈d)→dg_ d (l.map bX_) (fU_ d l):=by
  intro l
  induction l with
  |nil=>intro d _ _ _;exact .nil d
  |cons f l ih=>
    intro d hd hp hm
    obtain⟨h1,h2⟩:=List.pairwise_cons.1 hp
    refine .cons (dw_ hd (hm f List.mem_cons_self) rfl) (ih _ (bN_ _ hd) h2 fun g hg=>?_)
    refine List.mem_filter.2 ⟨hm g (List.mem_cons_of_mem _ hg), ?_⟩
    have:=bQ_ (h1 g hg)
    simp only [Bool.not_eq_true',decide_eq_false_iff_not]
    exact fun e=>this e.symm
theorem et_ {d:List Fl} (hd:GoodDisk d) (n:ByteArray):dg_ d (bg_ d n) (d.filter (fun x=>decide (x.f0=n))):=by
  have h:=dP_ (d.filter (fun f=>!(decide (f.f0=n)))) d hd (hd.hp.sublist List.filter_sublist) (fun f hf=>(List.mem_filter.1 hf).1)
  rw [fs_] at h
  have e:d.filter (fun x=>(d.filter (fun f=>!(decide (f.f0=n)))).all (fun f=>!(decide (x.f0=f.f0))))=d.filter (fun x=>decide (x.f0=n)):=by
    refine List.filter_congr fun x hx=>?_
    by_cases hn:x.f0=n
    · rw [decide_eq_true hn,List.all_eq_true]
      intro f hf
      have:=(List.mem_filter.1 hf).2
      simp only [Bool.not_eq_true',decide_eq_false_iff_not] at this ⊢
      exact fun e=>this (e.symm.trans hn)
    · rw [decide_eq_false hn]
      refine Bool.eq_false_iff.2 fun h=>?_
      have:=List.all_eq_true.1 h x (List.mem_filter.2 ⟨hx,by simp [hn]⟩)
      simp at this
  rw [e] at h
  exact h
theorem eU_ {d:List Fl} {vs:List (Option Sn)} (hd:GoodDisk d) (h:aF_ d vs):∃ (l:List Ac) (e:List Fl),l.length≤30∧Ev (fun k=>impl_ShedActs.f k d) l∧dg_ d l e∧Ev (fun k=>spec_NewestSnap.f k e) (aI_ (vs.foldl ah_ none)):=by
  have hl:=hd.hl
  have hs:=gi_ hd h
  cases e:vs.foldl ah_ none with
  |none=>
    rw [e] at hs
    refine⟨[],d,by simp,hs,.nil d, ?_⟩
    rw [←e]
    exact bu_ hd h
  |some s=>
    rw [e] at hs
    rcases dB_ d vs h none s e with h1|⟨_,f,hf,hv⟩
    · cases h1
    obtain⟨h1,h2,h3⟩:=hv
    have h4:f.f0=nm s.i:=by rw [h3]
    have hr:=et_ hd (nm s.i)
    rw [←h4,ct_ hd.hp hf] at hr
    refine⟨bg_ d (nm s.i),[f], ?_,hs,by rw [←h4];exact hr, ?_⟩
    · unfold bg_
      rw [List.length_map]
      exact aJ_ hl
    · have g1:GoodDisk [f]:=⟨by simp,fun x hx=>by rw [List.mem_singleton] at hx;subst hx;exact hd.hf _ hf,List.pairwise_singleton _ _⟩
      exact bu_ (vs:=[some s]) g1 (.cons ⟨h1,h2,h3⟩ .nil)
structure Cut (d:List Fl) (v0:Option Sn) (S:Sn) (e:List Fl):Prop where
  g:GoodDisk e
  v:∃ vs,aF_ e vs∧(vs.foldl ah_ none=v0∨vs.foldl ah_ none=some S)
theorem bf_ {d:List Fl} (hs:∀ f∈d,al_ f):∀ f∈d,f.f2=(f.f1.size:Int):=by
  intro f hf
  obtain⟨i,t,c,b,_,_,rfl⟩:=hs f hf
  rfl
theorem cB_ {d:List Fl} (j:Nat) (h:GoodDisk d):GoodDisk (d.drop j):=
  ⟨by have:=h.hl;rw [List.length_drop];omega,fun f hf=>h.hf f (List.mem_of_mem_drop hf),h.hp.sublist (List.drop_sublist j d)⟩
theorem dA_ {d x:List Fl} {n T:ByteArray} (hd:Drawn d) (hl:d.length≤2) (hn:1≤n.size∧n.size≤8) (hT:T.size≤20000) (h:ee_ d n T x):GoodDisk x:=by
  rcases h with rfl|⟨p,v,hp,hv,rfl⟩|⟨j,rfl⟩
  · exact hd.g
  · exact as_ hd.g (by omega) (bA_ hd.s) hp (by rcases hv with rfl|rfl <;> omega)
  · refine bF_ (cB_ j hd.g) ⟨hn,hT,by show (0:Int)≤(T.size:Int);omega,by show (T.size:Int)≤(T.size:Int);omega⟩ ?_
    have:=bS_ (d.drop j) n T (T.size:Int)
    have:=(cB_ j hd.g).hl
    have h2:(d.drop j).length≤2:=by rw [List.length_drop];omega
    omega
theorem gF_ {d x e:List Fl} {i:Nat} {t:Int} {c:List Int} {b:ByteArray} {vs:List (Option Sn)} (hd:Drawn d) (hl:d.length≤2) (h9:9≤i) (h18:i<18) (hg:GoodSnap i t c b) (hv:aF_ d vs)
    (h:ee_ d (nm i) (ad_ i t c b) x) (hL:Lost x e):Cut d (vs.foldl ah_ none) ⟨i,t,c,b⟩ e:=by
  have hz:=an_ hg
  have hn:=aZ_ i
  have hx:=dA_ hd hl ⟨by omega,by omega⟩ (by omega) h
  rcases h with rfl|⟨p,v,hp,hv2,rfl⟩|⟨j,rfl⟩
  · rw [bT_ hL (bf_ hd.s)]
    exact⟨hd.g,vs,hv,.inl rfl⟩
  · cases hL with
    |@cons _ _ e' n hL=>
      rw [bT_ hL (bf_ hd.s)]
      have hk:∀ m:Int,m=(if (if n>(p.size:Int) then (p.size:Int) else n)<v then v else if n>(p.size:Int) then (p.size:Int) else n)→0≤m∧m≤(p.size:Int):=by
        intro m hm
        rw [hm]
        rcases hv2 with rfl|rfl <;> (split <;> split) <;> omega
      have hf:∃ q:ByteArray,∃ m:Int,q.size≤20000∧(0≤m∧m≤(q.size:Int))∧cy_ (⟨sp,p,v⟩:Fl) n=(⟨sp,q,m⟩:Fl):=by
        obtain⟨M,hM⟩:∃ M:Int,M=(if (if n>(p.size:Int) then (p.size:Int) else n)<v then v else if n>(p.size:Int) then (p.size:Int) else n):=⟨_,rfl⟩
        have h1:=hk M hM
        refine⟨p.extract 0 M.toNat,M,by rw [ByteArray.size_extract];omega,⟨h1.1,by rw [ByteArray.size_extract];omega⟩, ?_⟩
        show (⟨sp,p.extract 0 (if (if n>(p.size:Int) then (p.size:Int) else n)<v then v else if n>(p.size:Int) then (p.size:Int) else n).toNat,(if (if n>(p.size:Int) then (p.size:Int) else n)<v then v else if n>(p.size:Int) then (p.size:Int) else n)⟩:Fl)=_
        rw [←hM]
      obtain⟨q,m,hq,hm,e⟩:=hf
      rw [e]
      exact⟨as_ hd.g (by omega) (bA_ hd.s) hq hm,none :: vs,.cons ⟨rfl,hq⟩ hv,.inl rfl⟩
  · have hds:∀ f∈d.drop j,al_ f:=fun f hf=>hd.s f (List.mem_of_mem_drop hf)
    have hk:∀ f∈put (d.drop j) (nm i) (ad_ i t c b) ((ad_ i t c b).size:Int),f.f2=(f.f1.size:Int):=by
      intro f hf
      unfold put at hf
      rcases List.mem_append.1 hf with hf|hf
      · exact bf_ hds f (List.mem_filter.1 hf).1
      · rcases List.mem_cons.1 hf with rfl|hf
        · rfl
        · exact bf_ hds f (List.mem_filter.1 hf).1
    rw [bT_ hL hk]
    obtain⟨va,h1,h2⟩:=ba_ (d:=(d.drop j).filter (fun f=>lt f.f0 (nm i))) (fun f hf=>hds f (List.mem_filter.1 hf).1)
    obtain⟨vb,h3,h4⟩:=ba_ (d:=(d.drop j).filter (fun f=>lt (nm i) f.f0)) (fun f hf=>hds f (List.mem_filter.1 hf).1)
    refine⟨hx,va ++ some ⟨i,t,c,b⟩ :: vb,aF_.app h1 (.cons ⟨h18,hg,rfl⟩ h3),.inr (eX_ _ _ _ (.inl (by simp)) fun r hr=>?_)⟩
    rcases hr with hr|hr
    · rcases List.mem_append.1 hr with hr|hr
      · obtain⟨s,e,hs⟩:=h2 _ hr
        injection e with e;subst e
        exact .inr (by show r.i<i;omega)
      · rcases List.mem_cons.1 hr with hr|hr
        · injection hr with hr;exact .inl hr
        · obtain⟨s,e,hs⟩:=h4 _ hr
          injection e with e;subst e
          exact .inr (by show r.i<i;omega)
    · cases hr
theorem dU_ {d:List Fl} {i:Nat} {s:ByteArray} (h:0<s.size):3≤(aO_ d i s).length:=by
  have h1:1≤(aH_ 3000 s).length:=by
    show 1≤(aH_ (2999+1) s).length
    unfold aH_
    rw [if_neg (by omega),List.length_cons]
    omega
  unfold aO_ dY_
  simp only [List.length_append,List.length_cons,List.length_nil]
  omega
theorem gz_ {e:List Fl} {vs:List (Option Sn)} (hg:GoodDisk e) (hv:aF_ e vs):Ev (fun k=>laws_FnSnapsCut.j2 k (aI_ (vs.foldl ah_ none)).2.2.2.2 false e (aI_ (vs.foldl ah_ none)).1 (aI_ (vs.foldl ah_ none)).2.1 (aI_ (vs.foldl ah_ none)).2.2.1 (aI_ (vs.foldl ah_ none)).2.2.2.1) true:=by
  obtain⟨l,z,hl,h1,h2,h3⟩:=eU_ hg hv
  refine Ev.step (fun k=>by simp only [laws_FnSnapsCut.j2,Bool.false_eq_true,if_false];rfl) ?_
  refine Ev.bind h1 ?_
  refine Ev.bind (eH_ h2 hg.hl (by omega)) ?_
  refine Ev.bind h3 ?_
  refine Ev.bind h1 ?_
  simp only [if_true,beq_self_eq_true]
  exact Ev.now _
theorem gJ_ {d e:List Fl} {v0:Option Sn} {i:Nat} {t:Int} {c:List Int} {b:ByteArray} {vs:List (Option Sn)} (h9:9≤i) (h0:∀ s,v0=some s→s.i≤8) (hg:GoodDisk e) (hv:aF_ e vs) (hb:vs.foldl ah_ none=v0∨vs.foldl ah_ none=some ⟨i,t,c,b⟩) :
    Ev (fun k=>laws_FnSnapsCut.j1 k (aI_ v0).2.2.2.2 (aI_ (vs.foldl ah_ none)).2.2.2.2 false (i:Int) t c b (aI_ v0).1 (aI_ v0).2.1 (aI_ v0).2.2.1 (aI_ v0).2.2.2.1 e (aI_ (vs.foldl ah_ none)).1 (aI_ (vs.foldl ah_ none)).2.1 (aI_ (vs.foldl ah_ none)).2.2.1 (aI_ (vs.foldl ah_ none)).2.2.2.1) true:=by
  have h2:=gz_ hg hv
  refine Ev.step (fun k=>by simp only [laws_FnSnapsCut.j1,Bool.false_eq_true,if_false];rfl) ?_
  rcases hb with hb|hb
  · rw [hb] at h2 ⊢
    cases v0 with
    |none=>simp only [aI_,Bool.false_eq_true,if_false] at h2 ⊢;exact h2
    |some s=>
      have:=h0 s rfl
      simp only [aI_] at h2 ⊢
      simp only [if_true,if_neg (show ¬ (s.i:Int)=(i:Int) by omega),beq_self_eq_true,Bool.not_true]
      exact h2
  · rw [hb] at h2 ⊢
    simp only [aI_] at h2 ⊢
    simp only [if_true]
    exact h2

/-! ### FnSnapsCut -/
theorem FnSnapsCut:StFnSnapsCut.Pure:=by
  intro b
  intros
  refine Ev.ex ?_
  unfold laws_FnSnapsCut.f
  rw [gL_]
  simp only [Option.bind_some]
  by_cases hb:(b.length:Int)>1048576
  · simp only [decide_eq_true hb,if_true]
    exact Ev.now _
  · simp only [decide_eq_false hb,Bool.false_eq_true,if_false]
    obtain⟨⟨d,i,t,c,s⟩,e0,hd,hl,hn⟩:=gO_ (b:=b) (by omega)
    obtain⟨j,hj,h9,h18⟩:=hn.n
    have hg:=hn.g
    simp only at hj hg hd hl
    subst hj
    obtain⟨vs,hv,hv8⟩:=ba_ hd.s
    have h0:∀ s,vs.foldl ah_ none=some s→s.i≤8:=by
      intro s e
      rcases dB_ d vs hv none s e with h1|⟨h1,_⟩
      · cases h1
      · obtain⟨s',e',h8⟩:=hv8 _ h1
        injection e' with e'
        subst e'
        exact h8
    have hz:=an_ hg
    refine Ev.bind e0 ?_
    refine Ev.bind (bu_ hd.g hv) ?_
    obtain⟨p,ep,hp12,hpr⟩:=fQ_ (b:=b) (by omega)
    obtain⟨q,eq,hq⟩:=gH_ hp12
    have hr:=eS_ hd hl h9 h18 hg
    have hlen:=cU_ (i:=j) hl hg
    have h3:=dU_ (d:=d) (i:=j) (s:=ad_ j t c s) (by omega)
    have hsa:=fu_ hd hl h9 h18 hg
    have hway:∀ a:Nat,∃ m,dg_ d ((aO_ d j (ad_ j t c s)).take a) m∧ee_ d (nm j) (ad_ j t c s) m:=fun a=>hr.take a
    clear hr
    generalize aO_ d j (ad_ j t c s)=A at hsa hway hlen h3
    obtain⟨L,hLA⟩:∃ L:Nat,A.length=L:=⟨_,rfl⟩
    rw [hLA] at hlen h3
    have c11:(11:Int)<(p.length:Int):=by omega
    have c1:¬ (L:Int)+1=0:=by omega
    have c3:¬ (L:Int)<3:=by omega
    have w0:wrap64 ((L:Int)+1)=(L:Int)+1:=w64 (by omega) (by omega)
    have hj2:∀ x:Nat,x≤8→((x:Int)≥(j:Int))=False:=fun x hx=>propext ⟨fun h=>by omega,False.elim⟩
    have h11:rd p 11∈p:=fx_ (by omega) (by omega)
    have hr11:=hpr _ h11
    obtain⟨a,ha,hal⟩:∃ a:Nat,Int.tmod (rd p 11) ((L:Int)+1)=(a:Int)∧a≤L:=by
      obtain⟨m0,m1⟩:=bx_ (x:=rd p 11) (n:=(L:Int)+1) hr11.1 (by omega)
      exact⟨(Int.tmod (rd p 11) ((L:Int)+1)).toNat,by omega,by omega⟩
    obtain⟨m,hm1,hm2⟩:=hway a
    have hmg:=dA_ hd hl ⟨by have:=aZ_ j;omega,by have:=aZ_ j;omega⟩ (by omega) hm2
    obtain⟨e,hL,hc⟩:=go_ hd.g (by omega) (by omega) hm1 hmg q (by omega)
    have hcut:=gF_ hd hl h9 h18 hg hv hm2 hL
    obtain⟨ve,hve,hbe⟩:=hcut.v
    have hcg:=hcut.g
    have h1:=gJ_ (d:=d) (i:=j) (t:=t) (c:=c) (b:=s) h9 h0 hcg hve hbe
    have hne:=cC_ hcg hve
    have hhas:(aI_ (vs.foldl ah_ none)).2.2.2.2=true→(aI_ (ve.foldl ah_ none)).2.2.2.2=true:=by
      intro hh
      rcases hbe with e|e
      · rw [e];exact hh
      · rw [e];rfl
    clear hm1 hm2 hmg hL hcut hbe hway hz hg hv8
    have main:Ev (fun k=>laws_FnSnapsCut.j0 k b (aI_ (vs.foldl ah_ none)).2.2.2.2 false d (j:Int) t c s (aI_ (vs.foldl ah_ none)).1 (aI_ (vs.foldl ah_ none)).2.1 (aI_ (vs.foldl ah_ none)).2.2.1 (aI_ (vs.foldl ah_ none)).2.2.2.1) true:=by
      generalize aI_ (vs.foldl ah_ none)=O at h1 hhas ⊢
      generalize aI_ (ve.foldl ah_ none)=X at h1 hhas hne ⊢
      refine Ev.step (fun k=>by simp only [laws_FnSnapsCut.j0,Bool.false_eq_true,if_false];rfl) ?_
      refine Ev.bind hsa ?_
      refine Ev.bind ep ?_
      simp only [hLA,w0,ha]
      simp only [if_pos c11,if_neg c1]
      refine Ev.bind eq ?_
      refine Ev.bind hc ?_
      refine Ev.bind hne ?_
      simp only [if_true]
      simp only [if_neg c3]
      by_cases hh:O.2.2.2.2=true
      · simp only [if_pos hh]
        have hx:=hhas hh
        rw [hx] at h1 ⊢
        exact h1
      · simp only [if_neg hh]
        exact h1
    cases eb:vs.foldl ah_ none with
    |none=>
      rw [eb] at main
      simp only [aI_,Bool.false_eq_true,if_false] at main ⊢
      exact main
    |some s0=>
      have h8:=h0 s0 eb
      rw [eb] at main
      simp only [aI_,if_true] at main ⊢
      simp only [hj2 s0.i h8,decide_false]
      exact main

end Go.Proofs.YtofmbomonkbeaaaGreatDoor.Pure
