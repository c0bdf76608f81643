/- What is read as data of a type holds the cells of a value of that type's kind: whole numbers, bools, strings, slices, structs, one inside the other. No condition. -/
import Derived.Test.YtofmbomonkbeaaaGreatDoorVFnSnapsCutWords
import Derived.Deep.Slices
import Derived.Deep.Fields
import Derived.ChangeSame
import Derived.ChangeArms
import Derived.SizedLaws
namespace Go.Proofs.YtofmbomonkbeaaaGreatDoor.Opens
open Go.ChangeShapes Go.WideShapes Go.Deep Go.RowKit Go.Proofs.YtofmbomonkbeaaaGreatDoorW.PrintWords

def Fit {H:Type} (P:Program) (t:TypeId) (d:DataW H):Prop:=∀ n∈d.weights P t,n≤reachBytes

structure Opens {α:Type} (P:Program) (t:TypeId) (d:Kd α) (wf:α→Prop):Prop where
  size:P.cellsOf t=d.sz
  out:∀ {H:Type} {enc:TypeId × Value→H} {w:World} {base:Nat} {spare:Nat→Bool} {held:Bool} {fuel:Nat} {cs:List Value} {x:DataW H × List MemPlace},
    DataW.trod enc P w base spare held fuel t cs=some x→Fit P t x.1→∃ a:α,d.K w a cs∧wf a

def wfInt (k:IntKind) (n:Int):Prop:=(Lit.int k n).wf=true
def wfList {α:Type} (bytes:Nat) (wf:α→Prop) (xs:List α):Prop:=xs.length≤maxLen∧xs.length * bytes≤140737488351232∧∀ x∈xs,wf x
theorem opens_int {P:Program} {t:TypeId} {k:IntKind} (ht:P.underlying t=some (.int k)) (hs:P.cellsOf t=1):Opens P t (Kd.int k) (wfInt k):=
  ⟨hs,fun h _=>by
    obtain⟨n,rfl,_,hw⟩:=DataW.trod_int ht h
    exact⟨n,rfl,hw⟩⟩
theorem pick {α:Type} {Q:Nat→α→Prop}:∀ (n:Nat),(∀ i,i<n→∃ a,Q i a)→∃ xs:List α,xs.length=n∧∀ i a,xs[i]?=some a→Q i a
  |0,_=>⟨[],rfl,fun i a h=>by simp at h⟩
  |n+1,h=>by
    obtain⟨xs,hl,hx⟩:=pick n (fun i hi=>h i (by omega))
    obtain⟨a,ha⟩:=h n (by omega)
    refine⟨xs ++ [a],by simp [hl],fun i b hb=>?_⟩
    rcases Nat.lt_or_ge i xs.length with hi|hi
    · rw [List.getElem?_append_left hi] at hb
      exact hx i b hb
    · have hi2:i=xs.length:=by
        have:=(List.getElem?_eq_some_iff.1 hb).1
        simp at this
        omega
      subst hi2
      have:a=b:=by simpa using hb
      subst this
      rw [hl]
      exact ha

theorem weights_all_mem {H:Type} {P:Program} {e:TypeId}:∀ {ds:List (DataW H)} {d:DataW H},d∈ds→∀ n∈d.weights P e,n∈DataW.weightsAll P e ds
  |d0 :: ds,d,hd,n,hn=>by
    simp only [DataW.weightsAll,List.mem_append]
    rcases List.mem_cons.1 hd with rfl|hd
    · exact .inl hn
    · exact .inr (weights_all_mem hd n hn)

theorem opens_slice {α:Type} {P:Program} {t e:TypeId} (e':Nat) {d:Kd α} {wf:α→Prop} (ht:P.underlying t=some (.slice e)) (hs:P.cellsOf t=1) (ho:Opens P e d wf) {B:Nat} (hB:P.bytesOf e=B) :
    Opens P t (Kd.slice e' d) (wfList B wf):=
  ⟨hs,fun {H enc w base spare held fuel cs x} h hf=>by
    rcases open_slice ht h with ⟨rfl,_⟩|⟨a,len,cap,m,n,D,Pl,rfl,hb,hl,hm,hmm,hx,hi⟩
    · exact⟨[],⟨none,0,rfl,Nat.le_refl _,rfl,by simp,fun hp=>absurd hp (by simp)⟩,by simp,by simp,fun x hx=>by simp at hx⟩
    · have hlm:len≤m:=by rw [hmm];split <;> omega
      have hw:∀ n∈DataW.weights P t x.1,n≤reachBytes:=hf
      rw [hx] at hw
      simp only [DataW.weights,ht] at hw
      have hlen:len * B≤140737488351232:=by
        have:=hw _ List.mem_cons_self
        rw [hB] at this
        simp only [List.length_map,List.length_range] at this
        have h2:len * B≤(len+(m - len)) * B:=Nat.mul_le_mul_right _ (by omega)
        have h3:reachBytes=140737488351232:=rfl
        omega
      have key:∀ i,i<len→∃ b:α,(∃ c:List Value,c.length=d.sz∧d.K w b c∧∀ j u,c[j]?=some u→w.cell? (a.add (i * d.sz+j))=some u)∧wf b:=by
        intro i hlt
        obtain⟨cs',hc,htr⟩:=hi i (by omega)
        obtain⟨_,hcl,hat⟩:=World.cells?_some hc
        obtain⟨b,hK,hwf⟩:=ho.out htr (fun n hn=>hw n (by
          refine List.mem_cons_of_mem _ (List.mem_append_left _ ?_)
          exact weights_all_mem (List.mem_map.2 ⟨i,List.mem_range.2 hlt,rfl⟩) n hn))
        rw [ho.size] at hat hcl
        refine⟨b,⟨cs',hcl,hK,fun j u hu=>?_⟩,hwf⟩
        have hj:j<d.sz:=by
          have:=(List.getElem?_eq_some_iff.1 hu).1
          omega
        rw [←Go.Deep.add_add,hat j hj,hu]
      obtain⟨xs,hxl,hxs⟩:=pick len key
      refine⟨xs,⟨some a,cap,by rw [hxl],by omega,rfl, ?_,fun _=>⟨a,rfl,fun j p hj=>(hxs j p hj).1⟩⟩, ?_, ?_, ?_⟩
      · simp only [maxLen] at hm;omega
      · omega
      · rw [hxl];exact hlen
      · intro y hy
        obtain⟨j,hj,rfl⟩:=List.mem_iff_getElem.1 hy
        exact(hxs j _ (List.getElem?_eq_getElem hj)).2⟩

structure OpensF {α:Type} (P:Program) (fs:List Field) (o:Nat) (d:Kd α) (wf:α→Prop):Prop where
  out:∀ {H:Type} {enc:TypeId × Value→H} {w:World} {base:Nat} {spare:Nat→Bool} {held:Bool} {n:Nat} {cs:List Value} {ys:List (DataW H × List MemPlace)},
    cs.length=o+d.sz→ys.length=fs.length →
    (∀ (i:Nat) (f:Field),fs[i]?=some f→DataW.trod enc P w base spare held n f.type ((cs.drop f.offset).take (P.cellsOf f.type))=ys[i]?) →
    (∀ n∈DataW.weightsEach P (fs.map (·.type)) (ys.map (·.1)),n≤reachBytes)→∃ a:α,d.K w a (cs.drop o)∧wf a

theorem opens_arg {α:Type} {P:Program} {t:TypeId} {d:Kd α} {wf:α→Prop} (h:Opens P t d wf) {H:Type} {enc:TypeId × Value→H} {w:World} {base:Nat} {spare:Nat→Bool} {held:Bool} {v:Value} {dd:DataW H} {ps:List MemPlace}
    (hd:DataW.Trod enc P w base spare held t v dd ps) {ts:List TypeId} {ds:List (DataW H)} {j:Nat} (hsz:(DataW.weightsEach P ts ds).all (·≤reachBytes)=true) (ht:ts[j]?=some t) (hj:ds[j]?=some dd):∃ a:α,d.K w a v.cells.toList∧wf a:=by
  obtain⟨fuel,hf⟩:=hd
  refine h.out hf (fun n hn=>?_)
  have:=List.all_eq_true.1 hsz _ (DataW.weights_mem_each ht hj n hn)
  simpa using this
end Go.Proofs.YtofmbomonkbeaaaGreatDoor.Opens
