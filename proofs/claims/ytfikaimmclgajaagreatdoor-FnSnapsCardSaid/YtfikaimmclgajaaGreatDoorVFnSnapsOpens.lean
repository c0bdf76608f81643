/- What is read as data of a type holds the cells of a value of that type's kind: whole numbers, bools, strings, slices, structs, one inside the other. No condition. -/
import Derived.Test.YtfikaimmclgajaaGreatDoorVFnSnapsWords
import Derived.Deep.Slices
import Derived.Deep.Fields
import Derived.ChangeSame
import Derived.ChangeArms
import Derived.SizedLaws
namespace Go.Proofs.YtfikaimmclgajaaGreatDoor.Opens
open Go.ChangeShapes Go.WideShapes Go.Deep Go.RowKit Go.Proofs.YtfikaimmclgajaaGreatDoorW.PrintWords

def Fit {H : Type} (P : Program) (t : TypeId) (d : DataW H) : Prop := ∀ n ∈ d.weights P t, n ≤ reachBytes

structure Opens {α : Type} (P : Program) (t : TypeId) (d : Kd α) (wf : α → Prop) : Prop where
  size : P.cellsOf t = d.sz
  out : ∀ {H : Type} {enc : TypeId × Value → H} {w : World} {base : Nat} {spare : Nat → Bool} {held : Bool} {fuel : Nat} {cs : List Value} {x : DataW H × List MemPlace},
    DataW.trod enc P w base spare held fuel t cs = some x → Fit P t x.1 → ∃ a : α, d.K w a cs ∧ wf a

def wfInt (k : IntKind) (n : Int) : Prop := (Lit.int k n).wf = true
def wfStr (s : ByteArray) : Prop := s.size ≤ 140737488351232
def wfBool (_ : Bool) : Prop := True
def wfList {α : Type} (bytes : Nat) (wf : α → Prop) (xs : List α) : Prop := xs.length ≤ maxLen ∧ xs.length * bytes ≤ 140737488351232 ∧ ∀ x ∈ xs, wf x
def wfPair {α β : Type} (wa : α → Prop) (wb : β → Prop) (x : α × β) : Prop := wa x.1 ∧ wb x.2

theorem opens_int {P : Program} {t : TypeId} {k : IntKind} (ht : P.underlying t = some (.int k)) (hs : P.cellsOf t = 1) : Opens P t (Kd.int k) (wfInt k) :=
  ⟨hs, fun h _ => by
    obtain ⟨n, rfl, _, hw⟩ := DataW.trod_int ht h
    exact ⟨n, rfl, hw⟩⟩
theorem opens_bool {P : Program} {t : TypeId} (ht : P.underlying t = some .bool) (hs : P.cellsOf t = 1) : Opens P t Kd.bool wfBool :=
  ⟨hs, fun h _ => by
    obtain ⟨n, rfl, _⟩ := DataW.trod_bool ht h
    exact ⟨n, rfl, trivial⟩⟩
theorem opens_string {P : Program} {t : TypeId} (ht : P.underlying t = some .string) (hs : P.cellsOf t = 1) : Opens P t Kd.string wfStr :=
  ⟨hs, fun {H enc w base spare held fuel cs x} h hf => by
    obtain ⟨s, rfl, hx, _⟩ := DataW.trod_string ht h
    refine ⟨s, rfl, ?_⟩
    have := hf s.data.toList.length (by rw [hx]; simp [DataW.weights])
    simpa [wfStr, reachBytes] using this⟩

theorem pick {α : Type} {Q : Nat → α → Prop} : ∀ (n : Nat), (∀ i, i < n → ∃ a, Q i a) → ∃ xs : List α, xs.length = n ∧ ∀ i a, xs[i]? = some a → Q i a
  | 0, _ => ⟨[], rfl, fun i a h => by simp at h⟩
  | n + 1, h => by
    obtain ⟨xs, hl, hx⟩ := pick n (fun i hi => h i (by omega))
    obtain ⟨a, ha⟩ := h n (by omega)
    refine ⟨xs ++ [a], by simp [hl], fun i b hb => ?_⟩
    rcases Nat.lt_or_ge i xs.length with hi | hi
    · rw [List.getElem?_append_left hi] at hb
      exact hx i b hb
    · have hi2 : i = xs.length := by
        have := (List.getElem?_eq_some_iff.1 hb).1
        simp at this
        omega
      subst hi2
      have : a = b := by simpa using hb
      subst this
      rw [hl]
      exact ha

theorem weights_all_mem {H : Type} {P : Program} {e : TypeId} : ∀ {ds : List (DataW H)} {d : DataW H}, d ∈ ds → ∀ n ∈ d.weights P e, n ∈ DataW.weightsAll P e ds
  | d0 :: ds, d, hd, n, hn => by
    simp only [DataW.weightsAll, List.mem_append]
    rcases List.mem_cons.1 hd with rfl | hd
    · exact .inl hn
    · exact .inr (weights_all_mem hd n hn)

theorem opens_slice {α : Type} {P : Program} {t e : TypeId} (e' : Nat) {d : Kd α} {wf : α → Prop} (ht : P.underlying t = some (.slice e)) (hs : P.cellsOf t = 1) (ho : Opens P e d wf) {B : Nat} (hB : P.bytesOf e = B) :
    Opens P t (Kd.slice e' d) (wfList B wf) :=
  ⟨hs, fun {H enc w base spare held fuel cs x} h hf => by
    rcases open_slice ht h with ⟨rfl, _⟩ | ⟨a, len, cap, m, n, D, Pl, rfl, hb, hl, hm, hmm, hx, hi⟩
    · exact ⟨[], ⟨none, 0, rfl, Nat.le_refl _, rfl, by simp, fun hp => absurd hp (by simp)⟩, by simp, by simp, fun x hx => by simp at hx⟩
    · have hlm : len ≤ m := by rw [hmm]; split <;> omega
      have hw : ∀ n ∈ DataW.weights P t x.1, n ≤ reachBytes := hf
      rw [hx] at hw
      simp only [DataW.weights, ht] at hw
      have hlen : len * B ≤ 140737488351232 := by
        have := hw _ List.mem_cons_self
        rw [hB] at this
        simp only [List.length_map, List.length_range] at this
        have h2 : len * B ≤ (len + (m - len)) * B := Nat.mul_le_mul_right _ (by omega)
        have h3 : reachBytes = 140737488351232 := rfl
        omega
      have key : ∀ i, i < len → ∃ b : α, (∃ c : List Value, c.length = d.sz ∧ d.K w b c ∧ ∀ j u, c[j]? = some u → w.cell? (a.add (i * d.sz + j)) = some u) ∧ wf b := by
        intro i hlt
        obtain ⟨cs', hc, htr⟩ := hi i (by omega)
        obtain ⟨_, hcl, hat⟩ := World.cells?_some hc
        obtain ⟨b, hK, hwf⟩ := ho.out htr (fun n hn => hw n (by
          refine List.mem_cons_of_mem _ (List.mem_append_left _ ?_)
          exact weights_all_mem (List.mem_map.2 ⟨i, List.mem_range.2 hlt, rfl⟩) n hn))
        rw [ho.size] at hat hcl
        refine ⟨b, ⟨cs', hcl, hK, fun j u hu => ?_⟩, hwf⟩
        have hj : j < d.sz := by
          have := (List.getElem?_eq_some_iff.1 hu).1
          omega
        rw [← Go.Deep.add_add, hat j hj, hu]
      obtain ⟨xs, hxl, hxs⟩ := pick len key
      refine ⟨xs, ⟨some a, cap, by rw [hxl], by omega, rfl, ?_, fun _ => ⟨a, rfl, fun j p hj => (hxs j p hj).1⟩⟩, ?_, ?_, ?_⟩
      · simp only [maxLen] at hm; omega
      · omega
      · rw [hxl]; exact hlen
      · intro y hy
        obtain ⟨j, hj, rfl⟩ := List.mem_iff_getElem.1 hy
        exact (hxs j _ (List.getElem?_eq_getElem hj)).2⟩

/-- Fields from a place on. -/
structure OpensF {α : Type} (P : Program) (fs : List Field) (o : Nat) (d : Kd α) (wf : α → Prop) : Prop where
  out : ∀ {H : Type} {enc : TypeId × Value → H} {w : World} {base : Nat} {spare : Nat → Bool} {held : Bool} {n : Nat} {cs : List Value} {ys : List (DataW H × List MemPlace)},
    cs.length = o + d.sz → ys.length = fs.length →
    (∀ (i : Nat) (f : Field), fs[i]? = some f → DataW.trod enc P w base spare held n f.type ((cs.drop f.offset).take (P.cellsOf f.type)) = ys[i]?) →
    (∀ n ∈ DataW.weightsEach P (fs.map (·.type)) (ys.map (·.1)), n ≤ reachBytes) → ∃ a : α, d.K w a (cs.drop o) ∧ wf a

theorem opensF_one {α : Type} {P : Program} {f : Field} {o : Nat} {d : Kd α} {wf : α → Prop} (hof : f.offset = o) (h : Opens P f.type d wf) : OpensF P [f] o d wf :=
  ⟨fun {H enc w base spare held n cs ys} hl hy ht hw => by
    match ys, hy with
    | [y], _ =>
      have h0 := ht 0 f rfl
      rw [hof, h.size] at h0
      have h1 : (cs.drop o).take d.sz = cs.drop o := List.take_of_length_le (by rw [List.length_drop]; omega)
      rw [h1] at h0
      exact h.out h0 (fun n hn => hw n (by simp only [List.map_cons, List.map_nil, DataW.weightsEach, List.mem_append]; exact .inl hn))⟩

theorem opensF_cons {α β : Type} {P : Program} {f : Field} {fs : List Field} {o : Nat} {d : Kd α} {d2 : Kd β} {wf : α → Prop} {wf2 : β → Prop} (hof : f.offset = o) (h : Opens P f.type d wf) {o2 : Nat} (ho2 : o2 = o + d.sz) (hr : OpensF P fs o2 d2 wf2) :
    OpensF P (f :: fs) o (Kd.pair d d2) (wfPair wf wf2) :=
  ⟨fun {H enc w base spare held n cs ys} hl hy ht hw => by
    subst ho2
    match ys, hy with
    | y :: ys, hy =>
      have hl2 : cs.length = o + (d.sz + d2.sz) := hl
      have h0 := ht 0 f rfl
      rw [hof, h.size] at h0
      simp only [List.map_cons, DataW.weightsEach, List.mem_append] at hw
      obtain ⟨a, hK, hwf⟩ := h.out h0 (fun n hn => hw n (.inl hn))
      obtain ⟨b, hK2, hwf2⟩ := hr.out (cs := cs) (ys := ys) (by omega) (by simpa using hy) (fun i g hg => ht (i + 1) g (by simpa using hg)) (fun n hn => hw n (.inr hn))
      refine ⟨(a, b), ⟨_, _, ?_, hK, hK2⟩, hwf, hwf2⟩
      rw [← List.drop_drop]
      exact (List.take_append_drop _ _).symm⟩

theorem opens_struct {α : Type} {P : Program} {t : TypeId} {fs : Array Field} {d : Kd α} {wf : α → Prop} (ht : P.underlying t = some (.struct fs)) (hs : P.cellsOf t = d.sz) (h : OpensF P fs.toList 0 d wf) : Opens P t d wf :=
  ⟨hs, fun {H enc w base spare held fuel cs x} hx hf => by
    obtain ⟨ys, n, _, hxe, hcl, hyl, hg⟩ := DataW.trod_struct ht hx
    have hw : ∀ n ∈ DataW.weights P t x.1, n ≤ reachBytes := hf
    rw [hxe] at hw
    simp only [DataW.weights, ht] at hw
    have := h.out (cs := cs) (ys := ys) (by omega) (by simpa using hyl) (fun i f hi => hg i f (by simpa using hi)) hw
    simpa using this⟩

theorem opens_iso {α β : Type} {P : Program} {t : TypeId} {d : Kd α} {wf : α → Prop} (f : β → α) (g : α → β) (hfg : ∀ a, f (g a) = a) (h : Opens P t d wf) : Opens P t (Kd.iso d f) (fun b => wf (f b)) :=
  ⟨h.size, fun hx hf => by
    obtain ⟨a, hK, hwf⟩ := h.out hx hf
    exact ⟨g a, by show d.K _ (f (g a)) _; rw [hfg]; exact hK, by rw [hfg]; exact hwf⟩⟩

/-- A parameter, by its number. -/
theorem opens_arg {α : Type} {P : Program} {t : TypeId} {d : Kd α} {wf : α → Prop} (h : Opens P t d wf) {H : Type} {enc : TypeId × Value → H} {w : World} {base : Nat} {spare : Nat → Bool} {held : Bool} {v : Value} {dd : DataW H} {ps : List MemPlace}
    (hd : DataW.Trod enc P w base spare held t v dd ps) {ts : List TypeId} {ds : List (DataW H)} {j : Nat} (hsz : (DataW.weightsEach P ts ds).all (· ≤ reachBytes) = true) (ht : ts[j]? = some t) (hj : ds[j]? = some dd) : ∃ a : α, d.K w a v.cells.toList ∧ wf a := by
  obtain ⟨fuel, hf⟩ := hd
  refine h.out hf (fun n hn => ?_)
  have := List.all_eq_true.1 hsz _ (DataW.weights_mem_each ht hj n hn)
  simpa using this
end Go.Proofs.YtfikaimmclgajaaGreatDoor.Opens
