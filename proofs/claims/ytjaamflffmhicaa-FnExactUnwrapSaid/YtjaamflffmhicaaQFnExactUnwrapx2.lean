/- Functions that a law reaches, as functions of Lean, and the walks that show that the calls come to their answers. No condition. -/
import Derived.Test.YtjaamflffmhicaaQFnExactUnwrapx0
import Derived.Test.YtjaamflffmhicaaVFnExactUnwraphort3
import Derived.Test.YtjaamflffmhicaaVFnExactUnwraphort2
import Derived.Test.YtjaamflffmhicaaVFnExactUnwraphort
import Derived.Test.YtjaamflffmhicaaVFnExactUnwraphort8
namespace Go.Proofs.Ytjaamflffmhicaa.QFnExactUnwrap
open Go.RowKit Go.Proofs.YtjaamflffmhicaaW.PrintWords Go.Proofs.YtjaamflffmhicaaW.PrintLast Go.Proofs.YtjaamflffmhicaaW.PrintMore Go.Proofs.Ytjaamflffmhicaa.Short
set_option linter.unusedVariables false
set_option linter.unusedSimpArgs false
set_option maxHeartbeats 8000000
set_option maxRecDepth 100000
variable {p : Prop}
section
attribute [local go_sem] max2_int min2_int max_two min_two max_three min_three max_four min_four
theorem B7x9_ (h : p := by first | rfl | (simp [errW_none, errW_some] <;> rfl) | (simp [*, errW_none, errW_some] <;> rfl)) : p := h
theorem B7x10_ (h : p := by have := aA.out; have := bh.out; have := bi.out; omega) : p := h
theorem B7x12_ (h : p := by have := aA.out; first | omega | exact Nat.le_refl _) : p := h
theorem B7x13_ (h : p := by exact (below_size (Ae1 HB au))) : p := h
def spec_l11CopyBits.l0 : Nat → List (S52) → List (S52) → Int → Option ((List (S52)))
 | 0, _, _, _ => none
 | k + 1, x0, x3, z => if z < (x0.length : Int) then (if 0 ≤ z then ((some (([] : List ByteArray) : List ByteArray)).bind fun bz => (if bz.length + ((rd_T52 x0 z).f2).length < 8796093022208 then ((some (([] : List Int) : List Int)).bind fun bB => (if bB.length + ((rd_T52 x0 z).f3).length < 17592186044416 then (if x3.length < 1759218604441 then (spec_l11CopyBits.l0 k x0 (x3 ++ [(⟨(rd_T52 x0 z).f0, (rd_T52 x0 z).f1, (bz ++ ((rd_T52 x0 z).f2)), (bB ++ ((rd_T52 x0 z).f3)), (rd_T52 x0 z).f4, (rd_T52 x0 z).f5⟩ : S52)]) (wrap64 (z + 1))) else (none)) else (none))) else (none))) else (none)) else (some x3)
def spec_l11CopyBits.f (k : Nat) (l0 : List (S52)) : Option ((List (S52))) := spec_l11CopyBits.l0 k l0 (([] : List (S52))) 0
theorem spec_l11CopyBits.calls (k : Nat) (A0 : Option Addr) (c0 : Nat) (l0 : List (S52)) (r : List (S52)) (w : World) (cj : Kd.C k52 w A0 l0.length l0) (cg : l0.length ≤ c0) (h : spec_l11CopyBits.f k l0 = some r) :
  Calls Try.prog 15 #[.slice A0 l0.length c0] w fun e w' => ∃ cn : Value, e = .returned (cn) ∧ Kd.S k52 52 w' w.heap.size (fun _ => True) cn r ∧ Below w.heap.size w w' := by
 have cM := Try.underlying52
 have cq := am cj
 have cU := am cg
 clear cj cg
 have HB := am (Below.refl w.heap.size w)
 have ad := h
 clear h
 unfold spec_l11CopyBits.f at ad
 obtain ⟨cS, bo⟩ : ∃ y_ : List (S52), y_ = (([] : List (S52))) := ⟨_, rfl⟩
 (first | with_reducible replace ad := hq bo ad | rw [← bo] at ad | simp only [← bo] at ad)
 have cc := am bo
 clear bo
 replace ad := am ad
 go_enter Try.func15, Try.ntmps15
 go_wp2_with (first | ((with_reducible refine gate_dst (N := 6) rfl ?_); refine Kd.S_lit k52 _ 52 ?hg (N := 6) ?hd (xs := ([] : List (S52))) (inner := []) (ok := fun _ => True) (okp := fun _ => True) ?hr ?hp (fun _ hk => hk) trivial (Below.refl _ _) (Nat.le_refl _) (by simp) ?_; (case hd => rfl); (case hg => rfl); (case hr => exact gs_); (case hp => exact (Reps.none _ _)); intro df w2 bn hb hg_ hnew_; clear hg_ hnew_; (first | rw [← cc.out] at bn | (simp only [Int.reduceToNat] at bn; rw [← cc.out] at bn)); have co := am (Kd.S_lower bn (below_size (Ae0 HB))); replace HB := hA HB hb; clear hb bn))
 go_loopg [3, 4] k (fun kq v3 v4 w' => ∃ (aV : List (S52)) (j : Int), v4 = .int .i64 j ∧ Aside0 (spec_l11CopyBits.l0 kq l0 aV j = some r) ∧ Aside0 (kq ≤ k) ∧ Aside0 (Kd.S k52 52 w' w.heap.size (fun _ => True) v3 aV) ∧ Aside0 (Below w.heap.size w w'))
 case atStart => exact ⟨(cS), 0, be_, ad, ⟨Nat.le_refl _⟩, Cs co, Ce0 HB⟩
 case round =>
  clear ad; obtain ⟨aV, j, rfl, J, aA, B, HB⟩ := hrel
  cases gk with
  | zero => exact absurd J.out (by simp [spec_l11CopyBits.l0])
  | succ k1 => ?_
  replace J := J.out; simp only [spec_l11CopyBits.l0] at J
  obtain ⟨aU, af⟩ | ⟨aU, af⟩ := sd J
  ·obtain ⟨dd, ae⟩ := yd af; obtain ⟨bz, bp⟩ : ∃ y_ : List ByteArray, y_ = (([] : List ByteArray)) := ⟨_, rfl⟩
   (first | with_reducible replace ae := hq bp ae | rw [← bp] at ae | simp only [← bp] at ae)
   have cd := am bp; clear bp; obtain ⟨cv, M⟩ := ya ae; obtain ⟨ak, bq⟩ : ∃ y_ : List ByteArray, y_ = (bz ++ ((rd_T52 l0 j).f2)) := ⟨_, rfl⟩
   (first | with_reducible replace M := hq bq M | rw [← bq] at M | simp only [← bq] at M)
   have cy := am bq; clear bq; obtain ⟨bB, br⟩ : ∃ y_ : List Int, y_ = (([] : List Int)) := ⟨_, rfl⟩
   (first | with_reducible replace M := hq br M | rw [← br] at M | simp only [← br] at M)
   have ce := am br; clear br; obtain ⟨cw, Z⟩ := ya M; obtain ⟨ar, bu⟩ : ∃ y_ : List Int, y_ = (bB ++ ((rd_T52 l0 j).f3)) := ⟨_, rfl⟩
   (first | with_reducible replace Z := hq bu Z | rw [← bu] at Z | simp only [← bu] at Z)
   have cz := am bu; clear bu; obtain ⟨cx, aa⟩ := ya Z; obtain ⟨cT, bv⟩ : ∃ y_ : List (S52), y_ = (aV ++ [(⟨(rd_T52 l0 j).f0, (rd_T52 l0 j).f1, ak, ar, (rd_T52 l0 j).f4, (rd_T52 l0 j).f5⟩ : S52)]) := ⟨_, rfl⟩
   (first | with_reducible replace aa := hq bv aa | rw [← bv] at aa | simp only [← bv] at aa)
   have cA := am bv; clear bv; replace aa := am aa; clear J af ae M Z
   have b5 : 0 ≤ (j : Int) := dga
   have b7 : j < (l0.length : Int) := dga
   obtain ⟨cZ, bS, bX, bO, bR, cI, bY, bZ, b0, b1, b2, b3, hl151_2, hi151_2, hl151_3, hi151_3⟩ := at_T52 cq.out j b5 b7; cases cI; replace bY := (hbc HB bY).trans bY; replace bZ := (hbc HB bZ).trans bZ; replace b0 := (hbc HB b0).trans b0; replace b1 := (hbc HB b1).trans b1; replace b2 := (hbc HB b2).trans b2; replace b3 := (hbc HB b3).trans b3; have ct := am hi151_2; have cX := am hl151_2; clear hi151_2 hl151_2; have cu := am hi151_3; have cY := am hl151_3; clear hi151_3 hl151_3; replace b5 := eq_true b5; replace b7 := eq_true b7
   go_wp2_with (first | ((with_reducible refine gate_dst (N := 5) rfl ?_); refine bx (N := 5) (cs := #[.int .i64 0, .int .i64 0, .slice none 0 0, .slice none 0 0, .int .i64 0, .int .i64 0]) (t := 52) ?_; intro l hg w9 hbox hb; replace B := am (Kd.S_below (Kd.S_elderB (As B) l (Nat.le_of_eq hg.symm)) hb); have q := am hbox; have au := gA hg HB; replace HB := hA HB hb; clear hb hbox hg; obtain ⟨bC, bD, bE, bF, bG, bH, bI, bJ, bK, bL, bM, bN⟩ := cf6 q) | ((with_reducible refine gate_store (t := 52) (p := 5) rfl ?_); refine store_event (t := 52) (p := 5) (v := ?vo_w11) (w1 := ((((((w9.setCell ⟨l, 0, none⟩ (.int .i64 ((rd_T52 l0 j).f0))).setCell ⟨l, 1, none⟩ (.int .i64 ((rd_T52 l0 j).f1))).setCell ⟨l, 2, none⟩ (.slice bS ((rd_T52 l0 j).f2).length bX)).setCell ⟨l, 3, none⟩ (.slice bO ((rd_T52 l0 j).f3).length bR)).setCell ⟨l, 4, none⟩ (.int .i64 ((rd_T52 l0 j).f4))).setCell ⟨l, 5, none⟩ (.int .i64 ((rd_T52 l0 j).f5)))) ?hg ?ho ?hn ?hr ?_; (case ho => rfl); (case hg => rfl); (case hn => rfl); (case hr => exact gs_); intro b9 hw; replace B : Aside0 (Kd.S k52 52 b9 w.heap.size (fun k_ => k_ ≠ l) u3 aV) := ⟨(by rw [hw]; exact (by (with_reducible repeat (first | apply Kd.S_alloc | apply Kd.S_drewN | apply Kd.S_drew)); exact Kd.S_mono (Kd.S_far (p := ⟨l, 5, none⟩) (Kd.S_far (p := ⟨l, 4, none⟩) (Kd.S_far (p := ⟨l, 3, none⟩) (Kd.S_far (p := ⟨l, 2, none⟩) (Kd.S_far (p := ⟨l, 1, none⟩) (Kd.S_far (p := ⟨l, 0, none⟩) (Kd.S_mono B.out (fun k_ hk => (⟨hk, hk.2⟩ : _ ∧ k_ ≠ l))) (fun _ hk => hk.2) (.int .i64 ((rd_T52 l0 j).f0))) (fun _ hk => hk.2) (.int .i64 ((rd_T52 l0 j).f1))) (fun _ hk => hk.2) (.slice bS ((rd_T52 l0 j).f2).length bX)) (fun _ hk => hk.2) (.slice bO ((rd_T52 l0 j).f3).length bR)) (fun _ hk => hk.2) (.int .i64 ((rd_T52 l0 j).f4))) (fun _ hk => hk.2) (.int .i64 ((rd_T52 l0 j).f5))) (fun _ hk => hk.1.2)))⟩; replace q : Hc b9 l #[.int .i64 ((rd_T52 l0 j).f0), .int .i64 ((rd_T52 l0 j).f1), .slice bS ((rd_T52 l0 j).f2).length bX, .slice bO ((rd_T52 l0 j).f3).length bR, .int .i64 ((rd_T52 l0 j).f4), .int .i64 ((rd_T52 l0 j).f5)] 52 := ⟨wAp0 q⟩; replace HB : Hb w b9 := ⟨wAe1 HB au⟩; clear hw) | ((with_reducible refine gate_dst (N := 17) rfl ?_); refine lL Kd.string 9 17 ([] : List ByteArray) [] (Reps.none _ _) ?_; intro cN dk ba hb; (first | rw [← cd.out] at ba | (simp only [Int.reduceToNat] at ba; rw [← cd.out] at ba)); replace B := am (Kd.S_elder' (As B) (Kd.R_base ba) hb); have bT := am (Kd.R_lower ba (below_size (Ae1 HB au))); replace q := bA q hb; replace HB := De1 HB au hb; clear hb ba; obtain ⟨bC, bD, bE, bF, bG, bH, bI, bJ, bK, bL, bM, bN⟩ := cf6 q) | ((with_reducible refine gate_builtin (b := .append) (xs := #[.tmp 17, .tmp 19]) rfl ?_); at_builtin; refine Kd.R_append_rows Kd.string (w0 := w) w.heap.size rfl (.tmp 17) (.tmp 19) 35 9 (.string ⟨#[]⟩) 16 rfl Try.underlying35 info9 rfl (by decide) (by omega) cN bz ((rd_T52 l0 j).f2) _ _ _ (fun _ => True) (fun _ => False) rfl rfl ?aO ?aR (fun _ _ h => h) (fun _ h => h.elim) ?aF ?aB ?aS ?aL ?_; (case aR => repeat (first | exact (Kd.C_below ct.out HB.out) | (with_reducible refine Kd.C_alloc ?_ _) | (with_reducible refine Kd.C_drewN ?_ _) | (with_reducible refine Kd.C_drew ?_))); (case aB => exact (Ae1 HB au)); (case aF => exact (fun _ _ => trivial)); (case aO => (with_reducible repeat (first | apply Kd.R_alloc | apply Kd.R_drewN | apply Kd.R_drew)); exact bT.out); (case aS => exact B7x13_); (case aL => have := cv.out; omega); intro dh dl ho hb hg hat; rw [← cy.out] at ho; replace B := am (Kd.S_after (ok := (fun k_ => k_ ≠ l)) (As B) hg hat); replace q := bg q hg (Kd.R_ne bT.out q.out (by decide)); replace HB := am hb; have ay := am ho; clear bT; clear ho hb hg hat; obtain ⟨az, aC, cK⟩ := Kd.R_slice ay.out; subst cK; obtain ⟨bC, bD, bE, bF, bG, bH, bI, bJ, bK, bL, bM, bN⟩ := cf6 q) | ((with_reducible refine gate_dst (N := 22) rfl ?_); refine lL (Kd.int .i64) 3 22 ([] : List Int) [] (Reps.none _ _) ?_; intro cO dm bd hb; (first | rw [← ce.out] at bd | (simp only [Int.reduceToNat] at bd; rw [← ce.out] at bd)); replace B := am (Kd.S_elder' (by (with_reducible repeat (first | apply Kd.S_alloc | apply Kd.S_drewN | apply Kd.S_drew)); exact (Kd.S_mono (Kd.S_far (p := ⟨l, 2, none⟩) (Kd.S_mono B.out (fun k_ hk => (⟨hk, hk.1⟩ : _ ∧ k_ ≠ l))) (fun _ hk => hk.2) (.slice az ak.length aC)) (fun _ h_ => h_.1))) (Kd.R_base bd) hb); replace ay := am (Kd.R_below (tfg ay.out q.out (by decide)) hb); have bP := am (Kd.R_lower bd (below_size (Ae1 HB au))); replace q := am (blk_below (g := l) (o := .cells #[.int .i64 ((rd_T52 l0 j).f0), .int .i64 ((rd_T52 l0 j).f1), .slice az ak.length aC, .slice bO ((rd_T52 l0 j).f3).length bR, .int .i64 ((rd_T52 l0 j).f4), .int .i64 ((rd_T52 l0 j).f5)] 52 (0, 0)) (Ap0 q) hb); replace HB := De1 HB au hb; clear hb bd; obtain ⟨bC, bD, bE, bF, bG, bH, bI, bJ, bK, bL, bM, bN⟩ := cf6 q) | ((with_reducible refine gate_builtin (b := .append) (xs := #[.tmp 22, .tmp 24]) rfl ?_); at_builtin; refine Kd.R_append_rows (Kd.int .i64) (w0 := w) w.heap.size rfl (.tmp 22) (.tmp 24) 36 3 (.int .i64 0) 8 rfl Try.underlying36 info3 rfl (by decide) (by omega) cO bB ((rd_T52 l0 j).f3) _ _ _ (fun _ => True) (fun _ => False) rfl rfl ?aO ?aR (fun _ _ h => h) (fun _ h => h.elim) ?aF ?aB ?aS ?aL ?_; (case aR => repeat (first | exact (Kd.C_below cu.out HB.out) | (with_reducible refine Kd.C_alloc ?_ _) | (with_reducible refine Kd.C_drewN ?_ _) | (with_reducible refine Kd.C_drew ?_))); (case aB => exact (Ae1 HB au)); (case aF => exact (fun _ _ => trivial)); (case aO => exact (Ar bP)); (case aS => exact B7x13_); (case aL => have := cw.out; omega); intro di cQ ho hb hg hat; rw [← cz.out] at ho; replace B := am (Kd.S_after (ok := (fun k_ => some k_ ≠ (.slice az ak.length aC : Value).ownBlock ∧ k_ ≠ l)) (by (with_reducible repeat (first | apply Kd.S_alloc | apply Kd.S_drewN | apply Kd.S_drew)); exact Kd.S_mono B.out (fun _ hk => ⟨⟨hk.1.2, hk.1.1⟩, hk.2⟩)) hg hat); replace q := bg q hg (Kd.R_ne bP.out q.out (by decide)); replace ay := am (Kd.R_over' (Ar ay) (Kd.R_typed (Ar bP)) (by decide) hg); replace HB := am hb; have a8 := am ho; clear bP; clear ho hb hg hat; obtain ⟨aJ, aN, cL⟩ := Kd.R_slice a8.out; subst cL; obtain ⟨bC, bD, bE, bF, bG, bH, bI, bJ, bK, bL, bM, bN⟩ := cf6 q) | ((with_reducible refine gate_store (t := 36) (p := 26) rfl ?_); refine store_event (t := 36) (p := 26) (v := ?vo_w24) (w1 := (cQ.setCell ⟨l, 3, none⟩ (.slice aJ ar.length aN))) ?hg ?ho ?hn ?hr ?_; (case ho => rfl); (case hg => rfl); (case hn => rfl); (case hr => exact gs_); intro bw hw; replace B : Aside0 (Kd.S k52 52 bw w.heap.size (fun k_ => some k_ ≠ (.slice az ak.length aC : Value).ownBlock ∧ some k_ ≠ (.slice aJ ar.length aN : Value).ownBlock ∧ k_ ≠ l) u3 aV) := ⟨(by rw [hw]; exact (by (with_reducible repeat (first | apply Kd.S_alloc | apply Kd.S_drewN | apply Kd.S_drew)); exact Kd.S_mono (Kd.S_far (p := ⟨l, 3, none⟩) (Kd.S_mono B.out (fun k_ hk => (⟨hk, hk.1.2⟩ : _ ∧ k_ ≠ l))) (fun _ hk => hk.2) (.slice aJ ar.length aN)) (fun _ hk => ⟨hk.1.1.1, ⟨hk.1.2, hk.1.1.2⟩⟩)))⟩; replace ay : Aside0 (Kd.R Kd.string 9 bw w.heap.size (fun _ => True) (.slice az ak.length aC) ak) := ⟨wtfg ay.out q.out (by decide)⟩; replace a8 : Aside0 (Kd.R (Kd.int .i64) 3 bw w.heap.size (fun _ => True) (.slice aJ ar.length aN) ar) := ⟨wtfg a8.out q.out (by decide)⟩; replace q : Hc bw l #[.int .i64 ((rd_T52 l0 j).f0), .int .i64 ((rd_T52 l0 j).f1), .slice az ak.length aC, .slice aJ ar.length aN, .int .i64 ((rd_T52 l0 j).f4), .int .i64 ((rd_T52 l0 j).f5)] 52 := ⟨wAp0 q⟩; replace HB : Hb w bw := ⟨wAe1 HB au⟩; clear hw; obtain ⟨bC, bD, bE, bF, bG, bH, bI, bJ, bK, bL, bM, bN⟩ := cf6 q) | ((with_reducible refine gate_builtin (b := .append) (xs := #[.tmp 27, .tmp 29]) rfl ?_); at_builtin; refine Kd.S_append k52 (w0 := w) w.heap.size rfl (.tmp 27) (.tmp 29) 24 52 (.agg #[(.int .i64 0), (.int .i64 0), (.slice none 0 0), (.slice none 0 0), (.int .i64 0), (.int .i64 0)]) 80 rfl Try.underlying24 info52 rfl (by decide) (by omega) u3 aV (⟨(rd_T52 l0 j).f0, (rd_T52 l0 j).f1, ak, ar, (rd_T52 l0 j).f4, (rd_T52 l0 j).f5⟩ : S52) [.int .i64 ((rd_T52 l0 j).f0), .int .i64 ((rd_T52 l0 j).f1), .slice az ak.length aC, .slice aJ ar.length aN, .int .i64 ((rd_T52 l0 j).f4), .int .i64 ((rd_T52 l0 j).f5)] (fun k_ => k_ ≠ l) (fun k_ => some k_ = (.slice az ak.length aC : Value).ownBlock ∨ some k_ = (.slice aJ ar.length aN : Value).ownBlock) rfl rfl ?aP (fun k_ hk_ => hk_.elim (fun h_ => ((Kd.R_mono (ok' := fun k_ => ((fun k_ => k_ ≠ l)) k_ ∧ some k_ ≠ (u3 : Value).ownBlock) (Kd.R_types (Kd.R_apart' (ay.out) (Kd.S_typed B.out) (by decide)) q.out (by decide)) (fun k_ hk => ⟨hk.2, hk.1.2⟩))).1 k_ h_.symm) (fun h_ => ((Kd.R_mono (ok' := fun k_ => ((fun k_ => k_ ≠ l)) k_ ∧ some k_ ≠ (u3 : Value).ownBlock) (Kd.R_types (Kd.R_apart' (a8.out) (Kd.S_typed B.out) (by decide)) q.out (by decide)) (fun k_ hk => ⟨hk.2, hk.1.2⟩))).1 k_ h_.symm)) ?aF ?aO ?aB ?aS ?aL ?_; (case aP => exact k52_mkM _ _ _ (⟨(rd_T52 l0 j).f0, (rd_T52 l0 j).f1, ak, ar, (rd_T52 l0 j).f4, (rd_T52 l0 j).f5⟩ : S52) (Kd.R_mono (Kd.R_tight rfl (Kd.R_mono (ok' := fun k_ => ((fun k_ => k_ ≠ l)) k_ ∧ some k_ ≠ (u3 : Value).ownBlock) (Kd.R_types (Kd.R_apart' (ay.out) (Kd.S_typed B.out) (by decide)) q.out (by decide)) (fun k_ hk => ⟨hk.2, hk.1.2⟩))) (fun _ h_ => Or.inl h_)) (Kd.R_mono (Kd.R_tight rfl (Kd.R_mono (ok' := fun k_ => ((fun k_ => k_ ≠ l)) k_ ∧ some k_ ≠ (u3 : Value).ownBlock) (Kd.R_types (Kd.R_apart' (a8.out) (Kd.S_typed B.out) (by decide)) q.out (by decide)) (fun k_ hk => ⟨hk.2, hk.1.2⟩))) (fun _ h_ => Or.inr (h_)))); (case aB => exact (Ae1 HB au)); (case aF => exact (fun k_ hk => Kd.freshB (g := l) (o := .cells #[.int .i64 ((rd_T52 l0 j).f0), .int .i64 ((rd_T52 l0 j).f1), .slice az ak.length aC, .slice aJ ar.length aN, .int .i64 ((rd_T52 l0 j).f4), .int .i64 ((rd_T52 l0 j).f5)] 52 (0, 0)) (Ab q) k_ hk)); (case aO => (with_reducible repeat (first | apply Kd.S_alloc | apply Kd.S_drewN | apply Kd.S_drew)); exact Kd.S_mono B.out (fun k_ hk => ⟨hk.2.2, fun e_ => e_.elim (fun h_ => hk.1 h_) (fun h_ => hk.2.1 h_)⟩)); (case aS => exact B7x13_); (case aL => have := cx.out; omega); intro dj dn ho hb hg hat; rw [← cA.out] at ho; replace q := bg q hg (Kd.S_away B.out (fun _ hk => hk.2.2)); replace HB := am hb; have cp := am ho; clear B; clear ay; clear a8; clear ho hb hg hat))
   go_roundg k1
   case measure => have := aA.out; omega
   case rel => exact ⟨(cT), (wrap64 (j + 1)), be_, aa, ⟨(by have := aA.out; omega)⟩, ⟨(by (with_reducible repeat (first | apply Kd.S_alloc | apply Kd.S_drewN | apply Kd.S_drew)); exact Kd.S_mono cp.out (fun _ hk => trivial))⟩, Ce1 HB au⟩
  ·obtain rfl := Option.some.inj af; clear af J
   go_wp2
   go_ret; exact ⟨_, B7x9_, (As B), (Ae0 HB)⟩

mutual
def spec_l11Whole.l0 : Nat → ByteArray → Int → Int → Int → List ByteArray → List Int → Int → Int → Option (ByteArray × Bool)
 | 0, _, _, _, _, _, _, _, _ => none
 | k + 1, z, x5, aD, aE, ao, aj, ap, aG => if x5 ≤ (aj.length : Int) then (spec_l11Whole.j1 k z x5 (decide ((z.size : Int) < ap)) aD aE ao aj ap aG) else (spec_l11Whole.j1 k z x5 false aD aE ao aj ap aG)
def spec_l11Whole.j1 : Nat → ByteArray → Int → Bool → Int → Int → List ByteArray → List Int → Int → Int → Option (ByteArray × Bool)
 | 0, _, _, _, _, _, _, _, _, _ => none
 | k + 1, z, x5, cR, aD, aE, ao, aj, ap, aG => if cR = true then (spec_l11Whole.l1 k z x5 0 aD aE ao aj ap aG) else (if ap > 0 then (some (z, ((z.size : Int) == ap))) else (some (z, false)))
def spec_l11Whole.l1 : Nat → ByteArray → Int → Int → Int → Int → List ByteArray → List Int → Int → Int → Option (ByteArray × Bool)
 | 0, _, _, _, _, _, _, _, _, _ => none
 | k + 1, z, x5, x6, aD, aE, ao, aj, ap, aG => if x6 < (aj.length : Int) then (if 0 ≤ x6 then (if (rd aj x6) = (z.size : Int) then (if x6 < (ao.length : Int) then (if z.size + (rdOf ByteArray.empty ao x6).size ≤ 9223372036854775807 then (spec_l11Whole.l1 k (z ++ (rdOf ByteArray.empty ao x6)) x5 (wrap64 ((aj.length : Int) + 1)) aD aE ao aj ap aG) else (none)) else (spec_l11Whole.l1 k z x5 (wrap64 (x6 + 1)) aD aE ao aj ap aG)) else (spec_l11Whole.l1 k z x5 (wrap64 (x6 + 1)) aD aE ao aj ap aG)) else (none)) else (spec_l11Whole.l0 k z (wrap64 (x5 + 1)) aD aE ao aj ap aG)
end
def spec_l11Whole.f (k : Nat) (ag : Int) (ah : Int) (U : List ByteArray) (K : List Int) (ac : Int) (ai : Int) : Option (ByteArray × Bool) := spec_l11Whole.l0 k (⟨#[]⟩ : ByteArray) 0 ag ah U K ac ai
theorem spec_l11Whole.calls (k : Nat) (ag : Int) (ah : Int) (aH : Option Addr) (aK : Nat) (U : List ByteArray) (aI : Option Addr) (aM : Nat) (K : List Int) (ac : Int) (ai : Int) (r1 : ByteArray) (r2 : Bool) (w : World) (ck : Kd.C Kd.string w aH U.length U) (ch : U.length ≤ aK) (cl : Kd.C (Kd.int .i64) w aI K.length K) (ci : K.length ≤ aM) (h : spec_l11Whole.f k ag ah U K ac ai = some (r1, r2)) :
  Calls Try.prog 36 #[.agg #[.int .i64 ag, .int .i64 ah, .slice aH U.length aK, .slice aI K.length aM, .int .i64 ac, .int .i64 ai]] w fun e w' => e = .returned (.tuple #[.string r1, .bool r2]) ∧ Below w.heap.size w w' := by
 have cM := Try.underlying52
 have cr := am ck
 have cV := am ch
 clear ck ch
 have bU := am cl
 have cW := am ci
 clear cl ci
 have HB := am (Below.refl w.heap.size w)
 have ad := h
 clear h
 unfold spec_l11Whole.f at ad
 replace ad := am ad
 go_enter Try.func36, Try.ntmps36
 go_wp2_with (first | ((with_reducible refine gate_dst (N := 1) rfl ?_); (try (refine gate_guard (by rfl) ?_; dsimp only)); refine bx (N := 1) (cs := #[.int .i64 ag, .int .i64 ah, .slice aH U.length aK, .slice aI K.length aM, .int .i64 ac, .int .i64 ai]) (t := 52) ?_; intro bm hg w2 hbox hb; have D := am hbox; have al := gA hg HB; replace HB := hA HB hb; clear hb hbox hg))
 repeat (go_quiet (first | ((with_reducible refine gate_dst (N := 1) rfl ?_); (try (refine gate_guard (by rfl) ?_; dsimp only)); refine bx (N := 1) (cs := #[.int .i64 ag, .int .i64 ah, .slice aH U.length aK, .slice aI K.length aM, .int .i64 ac, .int .i64 ai]) (t := 52) ?_; intro bm hg w2 hbox hb; have D := am hbox; have al := gA hg HB; replace HB := hA HB hb; clear hb hbox hg)); try go_wp2_with (first | ((with_reducible refine gate_dst (N := 1) rfl ?_); (try (refine gate_guard (by rfl) ?_; dsimp only)); refine bx (N := 1) (cs := #[.int .i64 ag, .int .i64 ah, .slice aH U.length aK, .slice aI K.length aM, .int .i64 ac, .int .i64 ai]) (t := 52) ?_; intro bm hg w2 hbox hb; have D := am hbox; have al := gA hg HB; replace HB := hA HB hb; clear hb hbox hg)))
 go_loopg [4, 5] k (fun kq v4 v5 w' => ∃ (j : ByteArray) (be : Int), v4 = .string j ∧ v5 = .int .i64 be ∧ Aside0 (spec_l11Whole.l0 kq j be ag ah U K ac ai = some (r1, r2)) ∧ Aside0 (kq ≤ k) ∧ Aside0 (w'.heap[bm]? = some (.cells #[.int .i64 ag, .int .i64 ah, (.slice aH U.length aK), (.slice aI K.length aM), .int .i64 ac, .int .i64 ai] 52 (0, 0))) ∧ Aside0 (Below w.heap.size w w'))
 case atStart => exact ⟨((⟨#[]⟩ : ByteArray)), 0, be_, be_, ad, ⟨Nat.le_refl _⟩, Cb D, Ce1 HB al⟩
 case round =>
  clear ad; obtain ⟨j, be, rfl, rfl, J, aA, D, HB⟩ := hrel
  cases gk with
  | zero => exact absurd J.out (by simp [spec_l11Whole.l0])
  | succ k1 => ?_
  replace J := J.out; simp only [spec_l11Whole.l0] at J; replace J := am J
  go_upto_region 3 with (fail)
  repeat (go_quiet (fail); go_upto_region 3 with (fail))
  go_cut [18] (fun cP wc => ∃ (kq : Nat) (ca : Bool), cP = .bool ca ∧ Aside0 (spec_l11Whole.j1 kq j be ca ag ah U K ac ai = some (r1, r2)) ∧ Aside0 (kq ≤ k1) ∧ Hc wc bm #[.int .i64 ag, .int .i64 ah, (.slice aH U.length aK), (.slice aI K.length aM), .int .i64 ac, .int .i64 ai] 52 ∧ Hb w wc)
  case first =>
   replace J := J.out
   obtain ⟨aU, af⟩ | ⟨aU, af⟩ := sd J
   ·(first | rw [aU] | (simp only [i64_w, i32_w]; rw [aU]) | skip)
    replace af := am af; clear J; obtain ⟨aW, aX, aY, aZ, a0, a1, a2, a3, a4, a5, a6, a7⟩ := cf6 D
    go_wp2
    repeat (go_quiet (fail); try go_wp2)
    go_meet
    case rel => exact ⟨_, (decide ((j.size : Int) < ac)), be_, af, ⟨B7x12_⟩, Cb D, Ce1 HB al⟩
   (first | rw [aU] | (simp only [i64_w, i32_w]; rw [aU]) | skip)
   replace af := am af; clear J; obtain ⟨aW, aX, aY, aZ, a0, a1, a2, a3, a4, a5, a6, a7⟩ := cf6 D
   go_wp2
   repeat (go_quiet (fail); try go_wp2)
   go_meet
   case rel => exact ⟨_, false, be_, af, ⟨B7x12_⟩, Cb D, Ce1 HB al⟩
  clear J; obtain ⟨kq, ca, rfl, ae, bh, D, HB⟩ := hcut
  cases kq with
  | zero => exact absurd ae.out (by simp [spec_l11Whole.j1])
  | succ cm => ?_
  replace ae := ae.out; simp only [spec_l11Whole.j1] at ae
  obtain ⟨rfl, M⟩ | ⟨rfl, M⟩ := sb ae
  ·replace M := am M; clear ae
   go_wp2
   repeat (go_quiet (fail); try go_wp2)
   go_loopg [4, 6] cm (fun kq v4 v6 w' => ∃ (aQ : ByteArray) (Y : Int), v4 = .string aQ ∧ v6 = .int .i64 Y ∧ Aside0 (spec_l11Whole.l1 kq aQ be Y ag ah U K ac ai = some (r1, r2)) ∧ Aside0 (kq ≤ cm) ∧ Aside0 (w'.heap[bm]? = some (.cells #[.int .i64 ag, .int .i64 ah, (.slice aH U.length aK), (.slice aI K.length aM), .int .i64 ac, .int .i64 ai] 52 (0, 0))) ∧ Aside0 (Below w.heap.size w w'))
   case atStart => exact ⟨(j), 0, be_, be_, M, ⟨Nat.le_refl _⟩, Cb D, Ce1 HB al⟩
   case round =>
    clear M
    try clear c7
    obtain ⟨aQ, Y, rfl, rfl, Z, bi, D, HB⟩ := hrel
    cases gk with
    | zero => exact absurd Z.out (by simp [spec_l11Whole.l1])
    | succ k3 => ?_
    replace Z := Z.out; simp only [spec_l11Whole.l1] at Z
    obtain ⟨cH, aa⟩ | ⟨cH, aa⟩ := sd Z
    ·obtain ⟨de, bQ⟩ := yd aa
     obtain ⟨c10, aT⟩ | ⟨c10, aT⟩ := sp bQ
     ·obtain ⟨cB, cC⟩ := yE c10; clear c10
      obtain ⟨cD, a9⟩ | ⟨cD, a9⟩ := sd aT
      ·obtain ⟨bW, bV⟩ := yn a9; have db := eq_true bW; have dc := decide_eq_true bW
       try have cE : (9223372036854775807 < aQ.size + (rdOf ByteArray.empty U Y).size) = False := eq_false (Nat.not_lt.2 bW)
       try (have cF := cE; simp only [ByteArray.size_append] at cF)
       replace bV := am bV; clear Z aa bQ aT a9; obtain ⟨aW, aX, aY, aZ, a0, a1, a2, a3, a4, a5, a6, a7⟩ := cf6 D
       have aw : 0 ≤ (Y : Int) := dga
       have ax : Y < (K.length : Int) := dga
       obtain ⟨cf, bl, av⟩ := Kd.at_int bU.out Y aw ax; cases bl; replace av := (hbc HB av).trans av; replace aw := eq_true aw; replace ax := eq_true ax
       have b6 : 0 ≤ (Y : Int) := dga
       have b8 : Y < (U.length : Int) := dga
       obtain ⟨da, cJ, b4⟩ := Kd.at_string cr.out Y b6 b8; cases cJ; replace b4 := (hbc HB b4).trans b4; replace b6 := eq_true b6; replace b8 := eq_true b8
       go_wp2
       repeat (go_quiet (fail); try go_wp2)
       go_roundg k3
       case measure => have := aA.out; have := bh.out; have := bi.out; omega
       case rel => exact ⟨(aQ ++ (rdOf ByteArray.empty U Y)), (wrap64 ((K.length : Int) + 1)), be_, be_, bV, ⟨B7x10_⟩, Cb D, Ce1 HB al⟩
      replace a9 := am a9; clear Z aa bQ aT; obtain ⟨aW, aX, aY, aZ, a0, a1, a2, a3, a4, a5, a6, a7⟩ := cf6 D
      have aw : 0 ≤ (Y : Int) := dga
      have ax : Y < (K.length : Int) := dga
      obtain ⟨cf, bl, av⟩ := Kd.at_int bU.out Y aw ax; cases bl; replace av := (hbc HB av).trans av; replace aw := eq_true aw; replace ax := eq_true ax
      go_wp2
      repeat (go_quiet (fail); try go_wp2)
      go_roundg k3
      case measure => have := aA.out; have := bh.out; have := bi.out; omega
      case rel => exact ⟨(aQ), (wrap64 (Y + 1)), be_, be_, a9, ⟨B7x10_⟩, Cb D, Ce1 HB al⟩
     obtain ⟨cB, cC⟩ := nE c10; replace aT := am aT; clear Z aa bQ; obtain ⟨aW, aX, aY, aZ, a0, a1, a2, a3, a4, a5, a6, a7⟩ := cf6 D
     have aw : 0 ≤ (Y : Int) := dga
     have ax : Y < (K.length : Int) := dga
     obtain ⟨cf, bl, av⟩ := Kd.at_int bU.out Y aw ax; cases bl; replace av := (hbc HB av).trans av; replace aw := eq_true aw; replace ax := eq_true ax
     go_wp2
     repeat (go_quiet (fail); try go_wp2)
     go_roundg k3
     case measure => have := aA.out; have := bh.out; have := bi.out; omega
     case rel => exact ⟨(aQ), (wrap64 (Y + 1)), be_, be_, aT, ⟨B7x10_⟩, Cb D, Ce1 HB al⟩
    replace aa := am aa; clear Z; obtain ⟨aW, aX, aY, aZ, a0, a1, a2, a3, a4, a5, a6, a7⟩ := cf6 D
    go_wp2
    repeat (go_quiet (fail); try go_wp2)
    go_roundg k3
    case measure => have := aA.out; have := bh.out; have := bi.out; omega
    case rel => exact ⟨(aQ), (wrap64 (be + 1)), be_, be_, aa, ⟨B7x10_⟩, Cb D, Ce1 HB al⟩
  obtain ⟨bk, bj⟩ | ⟨bk, bj⟩ := sp M
  ·have cG : decide (0 < ac) = true := decide_eq_true bk
   clear bk; obtain ⟨rfl, rfl⟩ := s2 bj; clear bj ae M; obtain ⟨aW, aX, aY, aZ, a0, a1, a2, a3, a4, a5, a6, a7⟩ := cf6 D
   go_wp2
   repeat (go_quiet (fail); try go_wp2)
   go_ret2
   exact ⟨B7x9_, (Ae1 HB al)⟩
  have cG : decide (0 < ac) = false := decide_eq_false bk
  clear bk; obtain ⟨rfl, rfl⟩ := s2 bj; clear bj ae M; obtain ⟨aW, aX, aY, aZ, a0, a1, a2, a3, a4, a5, a6, a7⟩ := cf6 D
  go_wp2
  repeat (go_quiet (fail); try go_wp2)
  go_ret2
  exact ⟨B7x9_, (Ae1 HB al)⟩
end
end Go.Proofs.Ytjaamflffmhicaa.QFnExactUnwrap
