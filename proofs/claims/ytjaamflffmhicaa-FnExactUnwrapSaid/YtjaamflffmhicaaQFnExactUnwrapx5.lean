/- Functions that a law reaches, as functions of Lean, and the walks that show that the calls come to their answers. No condition. -/
import Derived.Test.YtjaamflffmhicaaQFnExactUnwrapx0
import Derived.Test.YtjaamflffmhicaaQFnExactUnwrapx4
import Derived.Test.YtjaamflffmhicaaVFnExactUnwraphort3
import Derived.Test.YtjaamflffmhicaaVFnExactUnwraphort2
import Derived.Test.YtjaamflffmhicaaVFnExactUnwraphort
import Derived.Test.YtjaamflffmhicaaVFnExactUnwraphort8
namespace Go.Proofs.Ytjaamflffmhicaa.QFnExactUnwrap
open Go.RowKit Go.Proofs.YtjaamflffmhicaaW.PrintWords Go.Proofs.YtjaamflffmhicaaW.PrintLast Go.Proofs.YtjaamflffmhicaaW.PrintMore Go.Proofs.Ytjaamflffmhicaa.Short
set_option linter.unusedVariables false
set_option linter.unusedSimpArgs false
set_option maxHeartbeats 8000000
set_option maxRecDepth 100000
variable {p : Prop}
theorem D5x0_ (h : p := by exact ⟨B12x3_, B12x2_, (Ae1 HB (IsS69.gf ap)), (Ak0 HK)⟩) : p := h
theorem D5x1_ (h : p := by exact ⟨bc Y 0, bc Y 1, bc Y 2, bc Y 3, bc Y 4, bc Y 5⟩) : p := h
section
attribute [local go_sem] max2_int min2_int max_two min_two max_three min_three max_four min_four
theorem B12x2_ (h : p := by repeat (first | (with_reducible first | exact ap.out | apply IsS69.alloc | apply IsS69.drewN | apply IsS69.drew | apply IsS69.set_0 | apply IsS69.set_1 | apply IsS69.set_2) | exact ap.out)) : p := h
theorem B12x3_ (h : p := by first | rfl | (simp [errW_none, errW_some] <;> rfl) | (simp [*, errW_none, errW_some] <;> rfl)) : p := h
theorem B12x7_ (h : p := by first | rfl | (simp [errW_none, errW_some] <;> rfl) | (simp only [← bT]; first | rfl | (simp [errW_none, errW_some] <;> rfl)) | (simp [*, errW_none, errW_some] <;> rfl)) : p := h
theorem B12x9_ (h : p := by (try simp only [List.map_toArray, List.map_cons, List.map_nil]); first | done | (simp only [bT]; rfl) | rfl | (simp only [List.length_drop, List.length_take]; rfl)) : p := h
theorem B12x11_ (h : p := by have := aY.out; have := cR.out; omega) : p := h
def laws_toBitsS.l0 : Nat → List (S38) → List (S52) → Int → Option ((List (S52)))
 | 0, _, _, _ => none
 | k + 1, x0, x3, x4 => if x4 < (x0.length : Int) then (if 0 ≤ x4 then ((laws_toBits.f k ((rd_T38 x0 x4).f0) ((rd_T38 x0 x4).f1) ((rd_T38 x0 x4).f2) ((rd_T38 x0 x4).f3) ((rd_T38 x0 x4).f4) ((rd_T38 x0 x4).f5)).bind fun bO => (if x4 < (x3.length : Int) then (laws_toBitsS.l0 k x0 (x3.set (x4 : Int).toNat (⟨bO.1, bO.2.1, bO.2.2.1, bO.2.2.2.1, bO.2.2.2.2.1, bO.2.2.2.2.2⟩ : S52)) (wrap64 (x4 + 1))) else (none))) else (none)) else (some x3)
def laws_toBitsS.f (k : Nat) (l0 : List (S38)) : Option ((List (S52))) := if 0 ≤ (l0.length : Int) then (if ((l0.length : Int) : Int).toNat ≤ 3518437208883 then (laws_toBitsS.l0 k l0 (List.replicate ((l0.length : Int) : Int).toNat z52) 0) else (none)) else (none)
theorem laws_toBitsS.calls (k : Nat) (A0 : Option Addr) (c0 : Nat) (l0 : List (S38)) (r : List (S52)) (w : World) (bw : Kd.C k38 w A0 l0.length l0) (bv : l0.length ≤ c0) (h : laws_toBitsS.f k l0 = some r) :
  Calls Try.prog 6 #[.slice A0 l0.length c0] w fun e w' => ∃ bz : Value, e = .returned (bz) ∧ Kd.S k52 52 w' w.heap.size (fun _ => True) bz r ∧ Below w.heap.size w w' := by
 have gY := Try.underlying38
 have fx := Try.underlying52
 have cl := am bw
 have d1 := am bv
 clear bw bv
 have HB := am (Below.refl w.heap.size w)
 have z := h
 clear h
 unfold laws_toBitsS.f at z
 obtain ⟨bP, dl, l⟩ := ye z
 obtain ⟨bR, dm, J⟩ := ye l
 obtain ⟨fR, cD⟩ : ∃ y_ : List (S52), y_ = (List.replicate ((l0.length : Int) : Int).toNat z52) := ⟨_, rfl⟩
 (first | with_reducible replace J := hq cD J | rw [← cD] at J | simp only [← cD] at J)
 have d4 := am cD
 clear cD
 replace J := am J
 clear z l
 go_enter Try.func6, Try.ntmps6
 go_wp2_with (first | ((with_reducible refine gate_dst (N := 7) rfl ?_); refine Kd.S_make k52 _ 52 rfl (N := 7) rfl 24 _ _ rfl (l0.length : Int) rfl rfl Try.underlying24 (.agg #[(.int .i64 0), (.int .i64 0), (.slice none 0 0), (.slice none 0 0), (.int .i64 0), (.int .i64 0)]) 80 info52 rfl (by decide) (by omega) z52 (ok := fun _ => True) (okp := fun _ => True) (k52_mkM _ _ _ z52 (Kd.R_nil _ _ _ _ _) (Kd.R_nil _ _ _ _ _)) (fun _ hk => hk) trivial (dga) (Nat.le_trans (Nat.mul_le_mul_right _ (dga : (l0.length : Int).toNat ≤ 3518437208883)) (by omega)) (Below.refl _ _) (Nat.le_refl _) ?_; intro fM w4 cB hb hg_ hnew_; clear hg_ hnew_; (first | rw [← d4.out] at cB | (simp only [Int.reduceToNat] at cB; rw [← d4.out] at cB)); have eP := am (Kd.S_lower cB (below_size (Ae0 HB))); replace HB := hA HB hb; clear hb cB))
 go_loopg [4] k (fun kq v4 w' => ∃ (av : List (S52)) (ac : Int), v4 = .int .i64 ac ∧ Aside0 (laws_toBitsS.l0 kq l0 av ac = some r) ∧ Aside0 (kq ≤ k) ∧ Aside0 (Kd.S k52 52 w' w.heap.size (fun _ => True) fM av) ∧ Aside0 (Below w.heap.size w w'))
 case atStart => exact ⟨(fR), 0, be_, J, ⟨Nat.le_refl _⟩, Cs eP, Ce0 HB⟩
 case round =>
  clear J
  try clear c2
  try clear bP
  try clear dl
  try clear c3
  try clear bR
  try clear dm
  obtain ⟨av, ac, rfl, aa, aY, ad, HB⟩ := hrel
  cases gk with
  | zero => exact absurd aa.out (by simp [laws_toBitsS.l0])
  | succ k1 => ?_
  replace aa := aa.out; simp only [laws_toBitsS.l0] at aa
  obtain ⟨cX, Z⟩ | ⟨cX, Z⟩ := sd aa
  ·obtain ⟨cu, af⟩ := yd Z; obtain ⟨⟨bV, bW, db, dc, bX, bY⟩, A8, ae⟩ := bsi af; (try dsimp only at ae); obtain ⟨ec, au⟩ := yd ae; obtain ⟨er, cE⟩ : ∃ y_ : List (S52), y_ = (av.set (ac : Int).toNat (⟨bV, bW, db, dc, bX, bY⟩ : S52)) := ⟨_, rfl⟩
   (first | with_reducible replace au := hq cE au | rw [← cE] at au | simp only [← cE] at au)
   have e2 := am cE; clear cE; replace au := am au; clear aa Z af ae
   have dG : 0 ≤ (ac : Int) := dga
   have dI : ac < (l0.length : Int) := dga
   obtain ⟨gb, eJ, e8, eK, e9, fe, dt, du, dv, dw, dx, dy, hl298_2, hi298_2, hl298_3, hi298_3⟩ := at_T38 cl.out ac dG dI; cases fe; replace dt := (hbc HB dt).trans dt; replace du := (hbc HB du).trans du; replace dv := (hbc HB dv).trans dv; replace dw := (hbc HB dw).trans dw; replace dx := (hbc HB dx).trans dx; replace dy := (hbc HB dy).trans dy; have eU := am hi298_2; have eM := am hl298_2; clear hi298_2 hl298_2; have eV := am hi298_3; have eN := am hl298_3; clear hi298_3 hl298_3; replace dG := eq_true dG; replace dI := eq_true dI
   go_wp2_with (first | ((with_reducible refine gate_callee (f := 18) rfl ?_); refine gL (some 20) Try.func18 #[.agg #[.int .i64 ((rd_T38 l0 ac).f0), .int .i64 ((rd_T38 l0 ac).f1), .slice eJ ((rd_T38 l0 ac).f2).length e8, .slice eK ((rd_T38 l0 ac).f3).length e9, .int .i64 ((rd_T38 l0 ac).f4), .int .i64 ((rd_T38 l0 ac).f5)]] ?_; (with_reducible refine (laws_toBits.calls k1 ((rd_T38 l0 ac).f0) ((rd_T38 l0 ac).f1) _ _ ((rd_T38 l0 ac).f2) _ _ ((rd_T38 l0 ac).f3) ((rd_T38 l0 ac).f4) ((rd_T38 l0 ac).f5) bV bW db dc bX bY _ ?z1 ?z2 ?z3 ?z4 A8.out).mono ?_); (case z1 => repeat (first | exact (Kd.C_below eU.out HB.out) | (with_reducible refine Kd.C_alloc ?_ _) | (with_reducible refine Kd.C_drewN ?_ _) | (with_reducible refine Kd.C_drew ?_))); (case z2 => exact eM.out); (case z3 => repeat (first | exact (Kd.C_below eV.out HB.out) | (with_reducible refine Kd.C_alloc ?_ _) | (with_reducible refine Kd.C_drewN ?_ _) | (with_reducible refine Kd.C_drew ?_))); (case z4 => exact eN.out); rintro e aG ⟨de, df, rfl, cy, eh, hb⟩; refine ⟨_, rfl, ?_⟩; replace ad := am (Kd.S_mono (Kd.S_told (Kd.S_told (Kd.S_old (As ad) hb) (Kd.R_base cy)) (Kd.R_base eh)) (fun _ h_ => h_.1)); have cS := am (Kd.R_lower cy (below_size (Ae0 HB))); have cT := am (Kd.R_lower eh (below_size (Ae0 HB))); replace HB := hA HB hb; have bI : 0 ≤ (ac : Int) := dga; have bJ : (ac : Int) < ((av.length : Int) : Int) := dga; obtain ⟨al, cY, cv, cw, ds, cl10, cg⟩ := Kd.S_form ad.out (by omega); (first | cases cv | (injection cv with ea_ en_ ec_; (first | subst ea_ | (injection ea_ with ea_; subst ea_)); subst ec_; clear en_)); have bo := am cw; have eL := am cg; clear cw ds cg; obtain ⟨_, gi, fi, ef, bE, bG, _, _⟩ := Kd.S_elem ad.out z52 (ac : Int) bI bJ; obtain ⟨ve10_2, ve10_3, rfl, ge10_2, ge10_3⟩ := k52_openM ef; have fy : aG.cell? ⟨al, (ac : Int).toNat * 6, none⟩ = some (.int .i64 ((rd_T52 av ac).f0)) := bE 0 _ rfl; have g0 : aG.cell? ⟨al, (ac : Int).toNat * 6 + 1, none⟩ = some (.int .i64 ((rd_T52 av ac).f1)) := bE 1 _ rfl; have g1 : aG.cell? ⟨al, (ac : Int).toNat * 6 + 2, none⟩ = some (ve10_2) := bE 2 _ rfl; have g2 : aG.cell? ⟨al, (ac : Int).toNat * 6 + 3, none⟩ = some (ve10_3) := bE 3 _ rfl; have g3 : aG.cell? ⟨al, (ac : Int).toNat * 6 + 4, none⟩ = some (.int .i64 ((rd_T52 av ac).f4)) := bE 4 _ rfl; have g4 : aG.cell? ⟨al, (ac : Int).toNat * 6 + 5, none⟩ = some (.int .i64 ((rd_T52 av ac).f5)) := bE 5 _ rfl; have fk : aG.frozen? ⟨al, (ac : Int).toNat * 6, none⟩ = false := bG 0; have gm : aG.frozen? ⟨al, (ac : Int).toNat * 6 + 1, none⟩ = false := bG 1; have gn : aG.frozen? ⟨al, (ac : Int).toNat * 6 + 2, none⟩ = false := bG 2; have gp : aG.frozen? ⟨al, (ac : Int).toNat * 6 + 3, none⟩ = false := bG 3; have gq : aG.frozen? ⟨al, (ac : Int).toNat * 6 + 4, none⟩ = false := bG 4; have gr : aG.frozen? ⟨al, (ac : Int).toNat * 6 + 5, none⟩ = false := bG 5; clear fi bE bG ef; replace bI := eq_true bI; replace bJ := eq_true bJ; have n_ := am (Kd.S_mono (ok' := (fun k_ => some k_ ≠ (de : Value).ownBlock ∧ some k_ ≠ (df : Value).ownBlock)) ad.out (fun k_ hk => ⟨hk.1.2, hk.2⟩)); clear ad; have ad := n_; clear n_; have eY := am (show Kd.S k52 52 aG w.heap.size (fun k_ => ((fun _ => True)) k_ ∧ ¬ ((fun k_ => some k_ = (de : Value).ownBlock ∨ some k_ = (df : Value).ownBlock)) k_) (.slice (some ⟨al, 0, none⟩) av.length cY) av from (by (with_reducible repeat (first | apply Kd.S_alloc | apply Kd.S_drewN | apply Kd.S_drew)); exact Kd.S_mono ad.out (fun k_ hk => ⟨trivial, fun e_ => e_.elim (fun h_ => hk.1 h_) (fun h_ => hk.2 h_)⟩))); obtain ⟨oki12, gj, fj, eg, bF, bH, hoki12, hH12⟩ := Kd.S_elem eY.out z52 (ac : Int) (dga) (by have h_ : (ac : Int) < ((av.length : Int) : Int) := dga; first | exact h_ | (have e_ := (Kd.S_reads' ad.out).1; omega) | simpa using h_); obtain ⟨ve12_2, ve12_3, rfl, ge12_2, ge12_3⟩ := k52_openM eg; have dj := Kd.S_seg hH12 (dga) (by have h_ : (ac : Int) < ((av.length : Int) : Int) := dga; first | exact h_ | (have e_ := (Kd.S_reads' ad.out).1; omega) | simpa using h_) (seg := [.int .i64 bV, .int .i64 bW, de, df, .int .i64 bX, .int .i64 bY]) (j := 0) (show 6 ≤ 6 from (by decide)) (x' := (⟨bV, bW, db, dc, bX, bY⟩ : S52)) (k52_mkM _ _ _ (⟨bV, bW, db, dc, bX, bY⟩ : S52) (Kd.R_mono (Kd.R_tight rfl (Kd.R_mono (ok' := fun k_ => ((fun _ => True)) k_ ∧ k_ ≠ al) (Kd.R_apart' (cS.out) (Kd.S_typed ad.out) (by decide)) (fun k_ hk => ⟨trivial, fun e_ => (hk.2) (by rw [e_]; rfl)⟩))) (fun _ h_ => Or.inr (Or.inl h_))) (Kd.R_mono (Kd.R_tight rfl (Kd.R_mono (ok' := fun k_ => ((fun _ => True)) k_ ∧ k_ ≠ al) (Kd.R_apart' (cT.out) (Kd.S_typed ad.out) (by decide)) (fun k_ hk => ⟨trivial, fun e_ => (hk.2) (by rw [e_]; rfl)⟩))) (fun _ h_ => Or.inr (Or.inr (h_))))) (fun _ hk => hk) (fun k_ hk_ => hk_.elim (fun h_ => ((Kd.R_mono (ok' := fun k_ => ((fun _ => True)) k_ ∧ k_ ≠ al) (Kd.R_apart' (cS.out) (Kd.S_typed ad.out) (by decide)) (fun k_ hk => ⟨trivial, fun e_ => (hk.2) (by rw [e_]; rfl)⟩))).1 k_ h_.symm) (fun h_ => ((Kd.R_mono (ok' := fun k_ => ((fun _ => True)) k_ ∧ k_ ≠ al) (Kd.R_apart' (cT.out) (Kd.S_typed ad.out) (by decide)) (fun k_ hk => ⟨trivial, fun e_ => (hk.2) (by rw [e_]; rfl)⟩))).1 k_ h_.symm)); have fz := bF 0 _ rfl; (try simp only [show (k52).sz = 6 from rfl, Nat.mul_one, Nat.add_zero] at fz); have fl := bH 0; (try simp only [show (k52).sz = 6 from rfl, Nat.mul_one, Nat.add_zero] at fl); have fA := bF 1 _ rfl; (try simp only [show (k52).sz = 6 from rfl, Nat.mul_one, Nat.add_zero] at fA); have fm := bH 1; (try simp only [show (k52).sz = 6 from rfl, Nat.mul_one, Nat.add_zero] at fm); have fB := bF 2 _ rfl; (try simp only [show (k52).sz = 6 from rfl, Nat.mul_one, Nat.add_zero] at fB); have fn := bH 2; (try simp only [show (k52).sz = 6 from rfl, Nat.mul_one, Nat.add_zero] at fn); have fC := bF 3 _ rfl; (try simp only [show (k52).sz = 6 from rfl, Nat.mul_one, Nat.add_zero] at fC); have fo := bH 3; (try simp only [show (k52).sz = 6 from rfl, Nat.mul_one, Nat.add_zero] at fo); have fD := bF 4 _ rfl; (try simp only [show (k52).sz = 6 from rfl, Nat.mul_one, Nat.add_zero] at fD); have fp := bH 4; (try simp only [show (k52).sz = 6 from rfl, Nat.mul_one, Nat.add_zero] at fp); have fE := bF 5 _ rfl; (try simp only [show (k52).sz = 6 from rfl, Nat.mul_one, Nat.add_zero] at fE); have fq := bH 5; (try simp only [show (k52).sz = 6 from rfl, Nat.mul_one, Nat.add_zero] at fq); clear fj bF bH eg hoki12 hH12) | ((with_reducible refine gate_store (t := 52) (p := 21) rfl ?_); refine store_event (t := 52) (p := 21) (v := ?vo_w13) (w1 := ((((((aG.setCell ⟨al, (ac : Int).toNat * 6, none⟩ (.int .i64 bV)).setCell ⟨al, (ac : Int).toNat * 6 + 1, none⟩ (.int .i64 bW)).setCell ⟨al, (ac : Int).toNat * 6 + 2, none⟩ (de)).setCell ⟨al, (ac : Int).toNat * 6 + 3, none⟩ (df)).setCell ⟨al, (ac : Int).toNat * 6 + 4, none⟩ (.int .i64 bX)).setCell ⟨al, (ac : Int).toNat * 6 + 5, none⟩ (.int .i64 bY))) ?hg ?ho ?hn ?hr ?_; (case ho => rfl); (case hg => rfl); (case hn => rfl); (case hr => (obtain ⟨_, _, ff⟩ := Kd.R_slice cS.out; subst ff; obtain ⟨_, _, fg⟩ := Kd.R_slice cT.out; subst fg; (first | (go_simp; done) | (go_simp; rfl)))); intro cc hw; have hg : aG.grownBy cc (some al) := (by rw [hw]; exact dj.2); have hp_ : Kd.S k52 52 cc w.heap.size (fun _ => True) (.slice (some ⟨al, 0, none⟩) av.length cY) er := (by rw [hw, e2.out]; exact dj.1); clear dj; replace ad := am hp_; replace HB := am ((by rw [hw]; exact below_set (below_set (below_set (below_set (below_set (below_set (HB.out) bo.out) bo.out) bo.out) bo.out) bo.out) bo.out : Below w.heap.size w cc)); clear cS; clear cT; clear hg hw hp_))
   go_roundg k1
   case measure => have := aY.out; omega
   case rel => exact ⟨(er), (wrap64 (ac + 1)), be_, au, ⟨(by have := aY.out; omega)⟩, Cs ad, Ce0 HB⟩
  ·obtain rfl := Option.some.inj Z; clear Z aa
   go_wp2
   go_ret; exact ⟨_, B12x3_, (As ad), (Ae0 HB)⟩

def impl_highFirst.l0 : Nat → Int → List Int → Int → Option (ByteArray)
 | 0, _, _, _ => none
 | k + 1, x0, x5, x6 => if x6 ≥ 0 then (if 0 ≤ x6 then (if x6 < (x5.length : Int) then (impl_highFirst.l0 k (x0 / 256) (x5.set (x6 : Int).toNat ((Go.bits .and .i64 x0 255) % 256)) (wrap64 (x6 - 1))) else (none)) else (none)) else (some (strOfNums x5))
def impl_highFirst.f (k : Nat) (B : Int) (a1 : Int) : Option (ByteArray) := if 0 ≤ a1 then (if (a1 : Int).toNat ≤ 281474976710656 then (impl_highFirst.l0 k B (List.replicate (a1 : Int).toNat 0) (wrap64 (a1 - 1))) else (none)) else (none)
theorem impl_highFirst.calls (k : Nat) (B : Int) (a1 : Int) (r : ByteArray) (w : World) (h : impl_highFirst.f k B a1 = some r) :
  Calls Try.prog 73 #[.int .i64 B, .int .i64 a1] w fun e w' => e = .returned (.string r) ∧ Below w.heap.size w w' := by
 have HB := am (Below.refl w.heap.size w)
 have z := h
 clear h
 unfold impl_highFirst.f at z
 obtain ⟨bR, dm, l⟩ := ye z
 obtain ⟨ba, dn, J⟩ := ye l
 obtain ⟨fS, cF⟩ : ∃ y_ : List Int, y_ = (List.replicate (a1 : Int).toNat 0) := ⟨_, rfl⟩
 (first | with_reducible replace J := hq cF J | rw [← cF] at J | simp only [← cF] at J)
 have d5 := am cF
 clear cF
 replace J := am J
 clear z l
 go_enter Try.func73, Try.ntmps73
 go_wp2_with (first | ((with_reducible refine gate_dst (N := 8) rfl ?_); refine Kd.R_make (Kd.int .u8) _ 5 rfl (N := 8) rfl 90 _ _ rfl a1 rfl rfl Try.underlying90 (.int .u8 0) 1 info5 rfl (by decide) (by omega) 0 (ok := fun _ => True) (okp := fun _ => True) rfl (fun _ hk => hk) trivial (dga) (Nat.le_trans (Nat.mul_le_mul_right _ (dga : a1.toNat ≤ 281474976710656)) (by omega)) (Below.refl _ _) (Nat.le_refl _) ?_; intro fN w5 cC hb hg_ hnew_; clear hg_ hnew_; (first | rw [← d5.out] at cC | (simp only [Int.reduceToNat] at cC; rw [← d5.out] at cC)); have eQ := am (Kd.R_lower cC (below_size (Ae0 HB))); replace HB := hA HB hb; clear hb cC))
 go_loopg [0, 6] k (fun kq v0 v6 w' => ∃ (a5 : Int) (aU : List Int) (a6 : Int), v0 = .int .i64 a5 ∧ v6 = .int .i64 a6 ∧ Aside0 (impl_highFirst.l0 kq a5 aU a6 = some r) ∧ Aside0 (kq ≤ k) ∧ Aside0 (Kd.R (Kd.int .u8) 5 w' w.heap.size (fun _ => True) fN aU) ∧ Aside0 (Below w.heap.size w w'))
 case atStart => exact ⟨(B), fS, (wrap64 (a1 - 1)), be_, be_, J, ⟨Nat.le_refl _⟩, Cr eQ, Ce0 HB⟩
 case round =>
  clear J
  try clear c3
  try clear bR
  try clear dm
  try clear c4
  try clear ba
  try clear dn
  obtain ⟨a5, aU, a6, rfl, rfl, aa, aY, bM, HB⟩ := hrel
  cases gk with
  | zero => exact absurd aa.out (by simp [impl_highFirst.l0])
  | succ k1 => ?_
  replace aa := aa.out; simp only [impl_highFirst.l0] at aa
  obtain ⟨c7, Z⟩ | ⟨c7, Z⟩ := sp aa
  ·have cu : decide (0 ≤ a6) = true := decide_eq_true c7
   clear c7; obtain ⟨dq, af⟩ := yd Z; obtain ⟨ec, ae⟩ := yd af; obtain ⟨et, cG⟩ : ∃ y_ : List Int, y_ = (aU.set (a6 : Int).toNat ((Go.bits .and .i64 a5 255) % 256)) := ⟨_, rfl⟩
   (first | with_reducible replace ae := hq cG ae | rw [← cG] at ae | simp only [← cG] at ae)
   have e3 := am cG; clear cG; replace ae := am ae; clear aa Z af
   have bI : 0 ≤ (a6 : Int) := dga
   have bJ : (a6 : Int) < ((aU.length : Int) : Int) := dga
   obtain ⟨al, cY, cv, cw, ds, cl10, cg⟩ := Kd.R_form bM.out (by omega)
   (first | cases cv | (injection cv with ea_ en_ ec_; (first | subst ea_ | (injection ea_ with ea_; subst ea_)); subst ec_; clear en_))
   have bo := am cw; have eL := am cg; clear cw ds cg; obtain ⟨fy, fk⟩ := Kd.R_celln 0 bM.out (a6 : Int) bI bJ; replace bI := eq_true bI; replace bJ := eq_true bJ; have di := Kd.R_putg bM.out (a6 : Int) ((Go.bits .and .i64 a5 255) % 256)
   go_wp2_with (first | ((with_reducible refine gate_store (t := 5) (p := 20) rfl ?_); refine store_event (t := 5) (p := 20) (v := ?vo_w12) (w1 := (wr.setCell ⟨al, (a6 : Int).toNat, none⟩ (.int .u8 ((Go.bits .and .i64 a5 255) % 256)))) ?hg ?ho ?hn ?hr ?_; (case ho => rfl); (case hg => rfl); (case hn => rfl); (case hr => first | (go_simp; done) | (go_simp; rfl)); intro bd hw; have hg : wr.grownBy bd (some al) := (by rw [hw]; exact di.2); have hp_ : Kd.R (Kd.int .u8) 5 bd w.heap.size (fun _ => True) (.slice (some ⟨al, 0, none⟩) aU.length cY) et := (by rw [hw, e3.out]; exact di.1); clear di; replace bM := am hp_; replace HB := am (by rw [hw]; exact below_set (HB.out) bo.out : Below w.heap.size w bd); clear hg hw hp_))
   go_roundg k1
   case measure => have := aY.out; omega
   case rel => exact ⟨(a5 / 256), et, (wrap64 (a6 - 1)), be_, be_, ae, ⟨(by have := aY.out; omega)⟩, Cr bM, Ce0 HB⟩
  ·have cu : decide (0 ≤ a6) = false := decide_eq_false c7
   clear c7; obtain rfl := Option.some.inj Z; clear Z aa; have gl := own_string (P := Try.prog) Try.underlying90 Try.underlying5 Try.underlying9 (Kd.own_of_R bM.out)
   go_wp2
   go_ret; exact ⟨B12x3_, (Ae0 HB)⟩

mutual
def impl_SumMore.l0 : Nat → Int → ByteArray → Int → Option (Int)
 | 0, _, _, _ => none
 | k + 1, x0, x1, x5 => if x5 < (x1.size : Int) then (if 0 ≤ x5 then (impl_SumMore.l1 k (Go.bits .xor .u32 x0 ((bt x1 x5) % 4294967296)) x1 x5 0) else (none)) else (some x0)
def impl_SumMore.l1 : Nat → Int → ByteArray → Int → Int → Option (Int)
 | 0, _, _, _, _ => none
 | k + 1, x0, x1, x5, dS => if dS < 8 then (if (Int.tmod x0 2) = 1 then (impl_SumMore.l1 k (Go.bits .xor .u32 ((Int.tdiv x0 2) % 4294967296) 3558460437) x1 x5 (wrap64 (dS + 1))) else (impl_SumMore.l1 k ((Int.tdiv x0 2) % 4294967296) x1 x5 (wrap64 (dS + 1)))) else (impl_SumMore.l0 k x0 x1 (wrap64 (x5 + 1)))
end
def impl_SumMore.f (k : Nat) (B : Int) (a1 : ByteArray) : Option (Int) := impl_SumMore.l0 k B a1 0
theorem impl_SumMore.calls (k : Nat) (B : Int) (a1 : ByteArray) (r : Int) (w : World) (h : impl_SumMore.f k B a1 = some r) :
  Calls Try.prog 75 #[.int .u32 B, .string a1] w fun e w' => e = .returned (.int .u32 r) ∧ Drawn0 w w' := by
 have z := h
 clear h
 unfold impl_SumMore.f at z
 replace z := am z
 go_enter Try.func75, Try.ntmps75
 go_wp2
 go_loopg [0, 5] k (fun kq v0 v5 w' => ∃ (a5 : Int) (aU : Int), v0 = .int .u32 a5 ∧ v5 = .int .i64 aU ∧ Aside0 (impl_SumMore.l0 kq a5 a1 aU = some r) ∧ Aside0 (kq ≤ k) ∧ Drawn0 w w')
 case atStart => exact ⟨(B), 0, be_, be_, z, ⟨Nat.le_refl _⟩, gd_⟩
 case round =>
  clear z; obtain ⟨a5, aU, rfl, rfl, l, aY, ⟨m1, rfl⟩⟩ := hrel
  cases gk with
  | zero => exact absurd l.out (by simp [impl_SumMore.l0])
  | succ k1 => ?_
  replace l := l.out; simp only [impl_SumMore.l0] at l
  obtain ⟨bR, J⟩ | ⟨bR, J⟩ := sd l
  ·obtain ⟨ba, aa⟩ := yd J; replace aa := am aa; clear l J
   have p5 : 0 ≤ (aU : Int) := dga
   have q5 : aU < (a1.size : Int) := dga
   have fF := bt_at a1 aU; replace p5 := eq_true p5; replace q5 := eq_true q5
   go_wp2
   go_loopg [0, 19] k1 (fun kq v0 fL w' => ∃ (ce : Int) (cO : Int), v0 = .int .u32 ce ∧ fL = .int .i64 cO ∧ Aside0 (impl_SumMore.l1 kq ce a1 aU cO = some r) ∧ Aside0 (kq ≤ k1) ∧ Drawn0 w w')
   case atStart => exact ⟨(Go.bits .xor .u32 a5 ((bt a1 aU) % 4294967296)), 0, be_, be_, aa, ⟨Nat.le_refl _⟩, gd_⟩
   case round =>
    clear aa
    try clear c3
    try clear bR
    try clear c4
    try clear ba
    try clear p5
    try clear q5
    try clear fF
    try clear p5
    try clear q5
    obtain ⟨ce, cO, rfl, rfl, Z, cR, ⟨m2, rfl⟩⟩ := hrel
    cases gk with
    | zero => exact absurd Z.out (by simp [impl_SumMore.l1])
    | succ k2 => ?_
    replace Z := Z.out; simp only [impl_SumMore.l1] at Z
    obtain ⟨cX, af⟩ | ⟨cX, af⟩ := sd Z
    ·obtain ⟨c7, ae⟩ | ⟨c7, ae⟩ := sp af
     ·obtain ⟨cu, fc⟩ := yE c7; clear c7; replace ae := am ae; clear Z af
      go_wp2
      go_roundg k2
      case measure => have := aY.out; have := cR.out; omega
      case rel => exact ⟨(Go.bits .xor .u32 ((Int.tdiv ce 2) % 4294967296) 3558460437), (wrap64 (cO + 1)), be_, be_, ae, ⟨B12x11_⟩, gd_⟩
     ·obtain ⟨cu, fc⟩ := nE c7; replace ae := am ae; clear Z af
      go_wp2
      go_roundg k2
      case measure => have := aY.out; have := cR.out; omega
      case rel => exact ⟨((Int.tdiv ce 2) % 4294967296), (wrap64 (cO + 1)), be_, be_, ae, ⟨B12x11_⟩, gd_⟩
    ·replace af := am af; clear Z
     go_wp2
     go_roundg k2
     case measure => have := aY.out; have := cR.out; omega
     case rel => exact ⟨(ce), (wrap64 (aU + 1)), be_, be_, af, ⟨B12x11_⟩, gd_⟩
  ·obtain rfl := Option.some.inj J; clear J l
   go_wp2
   go_ret; exact ⟨gr_, gd_⟩

def impl_SumOf.f (k : Nat) (B : ByteArray) : Option (Int) := (impl_SumMore.f k 4294967295 B).bind fun dK => (some dK)
theorem impl_SumOf.calls (k : Nat) (B : ByteArray) (r : Int) (w : World) (h : impl_SumOf.f k B = some r) :
  Calls Try.prog 74 #[.string B] w fun e w' => e = .returned (.int .u32 r) ∧ Drawn0 w w' := by
 have z := h
 clear h
 unfold impl_SumOf.f at z
 obtain ⟨dK, A2, l⟩ := bsi z
 (try dsimp only at l)
 obtain rfl := Option.some.inj l
 clear l z
 go_enter Try.func74, Try.ntmps74
 go_wp2_with (first | ((with_reducible refine gate_callee (f := 75) rfl ?_); refine gM (some 4) Try.func75 (impl_SumMore.calls k 4294967295 B dK _ A2.out) ?_; rintro w' ⟨nd, rfl⟩))
 go_ret
 exact ⟨gr_, gd_⟩

def impl_Sealed.f (k : Nat) (B : ByteArray) : Option (ByteArray × Bool) := if (B.size : Int) > 20000 then (some ((⟨#[]⟩ : ByteArray), false)) else ((impl_SumOf.f k B).bind fun dd => ((impl_highFirst.f k (wrap64 (dd)) 4).bind fun cN => (if B.size + cN.size ≤ 9223372036854775807 then (some (B ++ cN, true)) else (none))))
theorem impl_Sealed.calls (k : Nat) (B : ByteArray) (r1 : ByteArray) (r2 : Bool) (w : World) (h : impl_Sealed.f k B = some (r1, r2)) :
  Calls Try.prog 64 #[.string B] w fun e w' => e = .returned (.tuple #[.string r1, .bool r2]) ∧ Below w.heap.size w w' := by
 have HB := am (Below.refl w.heap.size w)
 have z := h
 clear h
 unfold impl_Sealed.f at z
 obtain ⟨c2, l⟩ | ⟨c2, l⟩ := sp z
 ·have bP : decide (20000 < (B.size : Int)) = true := decide_eq_true c2
  have dl : decide (20000 < B.size) = true := decide_eq_true (by omega)
  clear c2; obtain ⟨rfl, rfl⟩ := s2 l; clear l z; go_enter Try.func64, Try.ntmps64
  go_wp2
  go_ret2
  exact ⟨B12x3_, (Ae0 HB)⟩
 ·have bP : decide (20000 < (B.size : Int)) = false := decide_eq_false c2
  have dl : decide (20000 < B.size) = false := decide_eq_false (by omega)
  clear c2; obtain ⟨dd, A3, J⟩ := bsi l; (try dsimp only at J); obtain ⟨cN, A4, aa⟩ := bsi J; (try dsimp only at aa); obtain ⟨c5, Z⟩ := yn aa; have dp := eq_true c5; have eb := decide_eq_true c5
  try have fa : (9223372036854775807 < B.size + cN.size) = False := eq_false (Nat.not_lt.2 c5)
  try (have fb := fa; simp only [ByteArray.size_append] at fb)
  obtain ⟨rfl, rfl⟩ := s2 Z; clear Z z l J aa; go_enter Try.func64, Try.ntmps64
  go_wp2_with (first | ((with_reducible refine gate_callee (f := 74) rfl ?_); refine gM (some 9) Try.func74 (impl_SumOf.calls k B dd _ A3.out) ?_; rintro w' ⟨nd, rfl⟩) | ((with_reducible refine gate_callee (f := 73) rfl ?_); refine gM (some 11) Try.func73 (impl_highFirst.calls k (wrap64 (dd)) 4 cN _ A4.out) ?_; rintro w6 hb; replace HB := hA HB hb))
  go_ret2
  exact ⟨B12x3_, (Ae0 HB)⟩

def impl_Unsealed.f (k : Nat) (B : ByteArray) : Option (ByteArray × Bool) := if (wrap64 ((B.size : Int) - 4)) < 0 then (some ((⟨#[]⟩ : ByteArray), false)) else (if 0 ≤ (wrap64 ((B.size : Int) - 4)) then (if (wrap64 ((B.size : Int) - 4)) ≤ (B.size : Int) then ((impl_Sealed.f k (B.extract 0 ((wrap64 ((B.size : Int) - 4)) : Int).toNat)).bind fun d9 => (if d9.2 = true then (if d9.1.toList = B.toList then (some (B.extract 0 ((wrap64 ((B.size : Int) - 4)) : Int).toNat, true)) else (some ((⟨#[]⟩ : ByteArray), false))) else (some ((⟨#[]⟩ : ByteArray), false)))) else (none)) else (none))
theorem impl_Unsealed.calls (k : Nat) (B : ByteArray) (r1 : ByteArray) (r2 : Bool) (w : World) (h : impl_Unsealed.f k B = some (r1, r2)) :
  Calls Try.prog 40 #[.string B] w fun e w' => e = .returned (.tuple #[.string r1, .bool r2]) ∧ Below w.heap.size w w' := by
 have HB := am (Below.refl w.heap.size w)
 have z := h
 clear h
 unfold impl_Unsealed.f at z
 obtain ⟨bP, l⟩ | ⟨bP, l⟩ := sd z
 ·obtain ⟨rfl, rfl⟩ := s2 l; clear l z; go_enter Try.func40, Try.ntmps40
  go_wp2
  go_ret2
  exact ⟨B12x3_, (Ae0 HB)⟩
 ·obtain ⟨bi, bT⟩ : ∃ j_ : Int, (wrap64 ((B.size : Int) - 4)) = j_ := ⟨_, rfl⟩
  (first | rw [bT] at l | simp only [bT] at l)
  (try rw [bT] at bP)
  have gv : (IntKind.i64.wrap ((B.size : Int) - 4)) = bi := (i64_w _).trans bT
  obtain ⟨ba, dn, J⟩ := ye l; obtain ⟨dp, eb, aa⟩ := ye J; obtain ⟨⟨dL, g6⟩, A6, Z⟩ := bsi aa; (try dsimp only at Z)
  obtain ⟨rfl, af⟩ | ⟨rfl, af⟩ := sb Z
  ·obtain ⟨c8, ae⟩ | ⟨c8, ae⟩ := sp af
   ·obtain ⟨dq, fd⟩ := yE c8; clear c8; have ec := eq_true (dga : 0 ≤ (bi)); have gh := eq_true (dga : (bi) ≤ (B.size : Int)); obtain ⟨rfl, rfl⟩ := s2 ae; clear ae z l J aa Z af; go_enter Try.func40, Try.ntmps40
    go_wp2_with (first | ((with_reducible refine gate_callee (f := 64) rfl ?_); refine goesL_ (some 16) rfl rfl Try.func64 gk_ rfl #[.string (B.extract 0 ((bi) : Int).toNat)] rfl B12x9_ ?_; refine (impl_Sealed.calls k (B.extract 0 ((bi) : Int).toNat) dL true _ A6.out).mono ?_; rintro e aG ⟨rfl, hb⟩; refine ⟨_, rfl, ?_⟩; replace HB := hA HB hb))
    go_ret2
    exact ⟨B12x7_, (Ae0 HB)⟩
   ·obtain ⟨dq, fd⟩ := nE c8; obtain ⟨rfl, rfl⟩ := s2 ae; clear ae z l J aa Z af; go_enter Try.func40, Try.ntmps40
    go_wp2_with (first | ((with_reducible refine gate_callee (f := 64) rfl ?_); refine goesL_ (some 16) rfl rfl Try.func64 gk_ rfl #[.string (B.extract 0 ((bi) : Int).toNat)] rfl B12x9_ ?_; refine (impl_Sealed.calls k (B.extract 0 ((bi) : Int).toNat) dL true _ A6.out).mono ?_; rintro e bd ⟨rfl, hb⟩; refine ⟨_, rfl, ?_⟩; replace HB := hA HB hb))
    go_ret2
    exact ⟨B12x7_, (Ae0 HB)⟩
  ·obtain ⟨rfl, rfl⟩ := s2 af; clear af z l J aa Z; go_enter Try.func40, Try.ntmps40
   go_wp2_with (first | ((with_reducible refine gate_callee (f := 64) rfl ?_); refine goesL_ (some 16) rfl rfl Try.func64 gk_ rfl #[.string (B.extract 0 ((bi) : Int).toNat)] rfl B12x9_ ?_; refine (impl_Sealed.calls k (B.extract 0 ((bi) : Int).toNat) dL false _ A6.out).mono ?_; rintro e cc ⟨rfl, hb⟩; refine ⟨_, rfl, ?_⟩; replace HB := hA HB hb))
   go_ret2
   exact ⟨B12x7_, (Ae0 HB)⟩

/-- A state of type 69 at block g of W; what its slices lead to came in by w0. -/
def IsS69 (w0 W : World) (g : Nat) (f0 : ByteArray) (f1 : Int) (f2 : Bool) : Prop := W.heap[g]? = some (.cells #[.string f0, .int .i64 f1, .bool f2] 69 (0, 0)) ∧ w0.heap.size ≤ g
theorem IsS69.grown {w0 W : World} {g : Nat} {f0 : ByteArray} {f1 : Int} {f2 : Bool} {W1 : World} {row : Option Nat} (h : IsS69 w0 W g f0 f1 f2) (hw : W.grownBy W1 row) (hne : some g ≠ row) : IsS69 w0 W1 g f0 f1 f2 := by
 obtain ⟨hb, hg⟩ := h
 exact ⟨blk_grown hb hw hne, hg⟩
theorem IsS69.own_neN {w0 W : World} {g : Nat} {f0 : ByteArray} {f1 : Int} {f2 : Bool} {α : Type} {d : Kd α} {e : Nat} {base : Nat} {ok : Nat → Prop} {v : Value} {xs : List α} (h : IsS69 w0 W g f0 f1 f2) (ho : Kd.N d e W base ok v xs) (ht : e ≠ 69) : some g ≠ v.ownBlock := by
 obtain ⟨hb, hg⟩ := h
 exact Kd.N_ne ho hb ht
theorem IsS69.fresh {w0 W : World} {g : Nat} {f0 : ByteArray} {f1 : Int} {f2 : Bool} (h : IsS69 w0 W g f0 f1 f2) : ∀ k, W.heap.size ≤ k → k ≠ g := by
 obtain ⟨hb, hg⟩ := h
 exact Kd.freshB hb
theorem IsS69.kept {w0 W : World} {g : Nat} {f0 : ByteArray} {f1 : Int} {f2 : Bool} {W1 : World} {S : Nat → Prop} (h : IsS69 w0 W g f0 f1 f2) (hk : Kept W W1 S) (hne : ¬ S g) : IsS69 w0 W1 g f0 f1 f2 := by
 obtain ⟨hb, hg⟩ := h
 exact ⟨blk_kept hb hk hne, hg⟩
theorem IsS69.below {w0 W : World} {g : Nat} {f0 : ByteArray} {f1 : Int} {f2 : Bool} {W1 : World} (h : IsS69 w0 W g f0 f1 f2) (hw : Below W.heap.size W W1) : IsS69 w0 W1 g f0 f1 f2 := h.grown (grown_of_below hw none) (by simp)
theorem IsS69.alloc {w0 W : World} {g : Nat} {f0 : ByteArray} {f1 : Int} {f2 : Bool} (h : IsS69 w0 W g f0 f1 f2) (o : Obj) : IsS69 w0 (W.alloc o) g f0 f1 f2 := h.below (below_alloc (Below.refl _ _) o)
theorem IsS69.drewN {w0 W : World} {g : Nat} {f0 : ByteArray} {f1 : Int} {f2 : Bool} (h : IsS69 w0 W g f0 f1 f2) (m : Nat) : IsS69 w0 (W.drewN m) g f0 f1 f2 := h
theorem IsS69.drew {w0 W : World} {g : Nat} {f0 : ByteArray} {f1 : Int} {f2 : Bool} (h : IsS69 w0 W g f0 f1 f2) : IsS69 w0 W.drew g f0 f1 f2 := h
theorem IsS69.at_ {w0 W : World} {g : Nat} {f0 : ByteArray} {f1 : Int} {f2 : Bool} {w' : World} {m : Nat} (hq : W.drewN m = w') (h : IsS69 w0 W g f0 f1 f2) : IsS69 w0 w' g f0 f1 f2 := by subst hq; exact IsS69.drewN h m
theorem IsS69.apart {w0 W : World} {g : Nat} {f0 : ByteArray} {f1 : Int} {f2 : Bool} {α : Type} {d : Kd α} {e : Nat} {base : Nat} {ok : Nat → Prop} {v : Value} {xs : List α} (h : IsS69 w0 W g f0 f1 f2) (ho : d.R e W base ok v xs) (ht : ∀ q, q ∈ e :: d.E → q ≠ 69) : d.R e W base (fun k => ok k ∧ k ≠ g) v xs := by
 obtain ⟨hb, hg⟩ := h
 exact Kd.R_types ho hb ht
theorem IsS69.own_ne {w0 W : World} {g : Nat} {f0 : ByteArray} {f1 : Int} {f2 : Bool} {α : Type} {d : Kd α} {e : Nat} {base : Nat} {ok : Nat → Prop} {v : Value} {xs : List α} (h : IsS69 w0 W g f0 f1 f2) (ho : d.R e W base ok v xs) (ht : e ≠ 69) : some g ≠ v.ownBlock := by
 obtain ⟨hb, hg⟩ := h
 exact Kd.R_ne ho hb ht
theorem IsS69.apartQ {w0 W : World} {g : Nat} {f0 : ByteArray} {f1 : Int} {f2 : Bool} {α : Type} {d : Kd α} {e : Nat} {base : Nat} {ok : Nat → Prop} {v : Value} {xs : List α} (h : IsS69 w0 W g f0 f1 f2) (ho : d.Q e W base ok v xs) (ht : ∀ q, q ∈ e :: d.E → q ≠ 69) : d.Q e W base (fun k => ok k ∧ k ≠ g) v xs := by
 obtain ⟨hb, hg⟩ := h
 exact Kd.Q_types ho hb ht
theorem IsS69.own_neQ {w0 W : World} {g : Nat} {f0 : ByteArray} {f1 : Int} {f2 : Bool} {α : Type} {d : Kd α} {e : Nat} {base : Nat} {ok : Nat → Prop} {v : Value} {xs : List α} (h : IsS69 w0 W g f0 f1 f2) (ho : d.Q e W base ok v xs) (ht : e ≠ 69) : some g ≠ v.ownBlock := by
 obtain ⟨hb, hg⟩ := h
 exact Kd.Q_ne ho hb ht
theorem IsS69.apartS {w0 W : World} {g : Nat} {f0 : ByteArray} {f1 : Int} {f2 : Bool} {α : Type} {d : Kd α} {e : Nat} {base : Nat} {ok : Nat → Prop} {v : Value} {xs : List α} (h : IsS69 w0 W g f0 f1 f2) (ho : d.S e W base ok v xs) (ht : ∀ q, q ∈ e :: d.E → q ≠ 69) : d.S e W base (fun k => ok k ∧ k ≠ g) v xs := by
 obtain ⟨hb, hg⟩ := h
 exact Kd.S_types ho hb ht
theorem IsS69.own_neS {w0 W : World} {g : Nat} {f0 : ByteArray} {f1 : Int} {f2 : Bool} {α : Type} {d : Kd α} {e : Nat} {base : Nat} {ok : Nat → Prop} {v : Value} {xs : List α} (h : IsS69 w0 W g f0 f1 f2) (ho : d.S e W base ok v xs) (ht : e ≠ 69) : some g ≠ v.ownBlock := by
 obtain ⟨hb, hg⟩ := h
 exact Kd.S_ne ho hb ht
theorem IsS69.lt {w0 W : World} {g : Nat} {f0 : ByteArray} {f1 : Int} {f2 : Bool} (h : IsS69 w0 W g f0 f1 f2) : g < W.heap.size := by
 obtain ⟨hb, hg⟩ := h
 exact blk_lt hb
theorem IsS69.ge {w0 W : World} {g : Nat} {f0 : ByteArray} {f1 : Int} {f2 : Bool} (h : IsS69 w0 W g f0 f1 f2) : w0.heap.size ≤ g := by
 obtain ⟨hb, hg⟩ := h
 exact hg
theorem IsS69.gf {w0 W : World} {g : Nat} {f0 : ByteArray} {f1 : Int} {f2 : Bool} (h : Aside0 (IsS69 w0 W g f0 f1 f2)) : Aside0 (w0.heap.size ≤ g) := ⟨h.out.ge⟩
theorem IsS69.ne_blk {w0 W : World} {g : Nat} {f0 : ByteArray} {f1 : Int} {f2 : Bool} {a : Nat} {cs : Array Value} {t : TypeId} {fr : Nat × Nat} (h : IsS69 w0 W g f0 f1 f2) (hb2 : W.heap[a]? = some (.cells cs t fr)) (ht : t ≠ 69) : g ≠ a := by
 obtain ⟨hb, hg⟩ := h
 rintro rfl
 rw [hb] at hb2
 injection hb2 with hb2
 injection hb2 with _ ht2
 exact ht ht2.symm
theorem IsS69.far {w0 W : World} {g : Nat} {f0 : ByteArray} {f1 : Int} {f2 : Bool} {p : Addr} (h : IsS69 w0 W g f0 f1 f2) (hne : g ≠ p.block) (u : Value) : IsS69 w0 (W.setCell p u) g f0 f1 f2 := by
 obtain ⟨hb, hg⟩ := h
 exact ⟨blk_far hb hne u, hg⟩
theorem cellS69_0 {W : World} {g : Nat} {f0 : ByteArray} {f1 : Int} {f2 : Bool} (h : W.heap[g]? = some (.cells #[.string f0, .int .i64 f1, .bool f2] 69 (0, 0))) : W.cell? ⟨g, 0, none⟩ = some (.string f0) := (blk_cell h 0).trans rfl
theorem IsS69.set_0 {w0 W : World} {g : Nat} {f0 : ByteArray} {f1 : Int} {f2 : Bool} (h : IsS69 w0 W g f0 f1 f2) (x : ByteArray) : IsS69 w0 (W.setCell ⟨g, 0, none⟩ (.string x)) g x f1 f2 := by
 obtain ⟨hb, hg⟩ := h
 exact ⟨(by simpa using blk_set hb 0 (.string x)), hg⟩
theorem cellS69_1 {W : World} {g : Nat} {f0 : ByteArray} {f1 : Int} {f2 : Bool} (h : W.heap[g]? = some (.cells #[.string f0, .int .i64 f1, .bool f2] 69 (0, 0))) : W.cell? ⟨g, 1, none⟩ = some (.int .i64 f1) := (blk_cell h 1).trans rfl
theorem IsS69.set_1 {w0 W : World} {g : Nat} {f0 : ByteArray} {f1 : Int} {f2 : Bool} (h : IsS69 w0 W g f0 f1 f2) (x : Int) : IsS69 w0 (W.setCell ⟨g, 1, none⟩ (.int .i64 x)) g f0 x f2 := by
 obtain ⟨hb, hg⟩ := h
 exact ⟨(by simpa using blk_set hb 1 (.int .i64 x)), hg⟩
theorem cellS69_2 {W : World} {g : Nat} {f0 : ByteArray} {f1 : Int} {f2 : Bool} (h : W.heap[g]? = some (.cells #[.string f0, .int .i64 f1, .bool f2] 69 (0, 0))) : W.cell? ⟨g, 2, none⟩ = some (.bool f2) := (blk_cell h 2).trans rfl
theorem IsS69.set_2 {w0 W : World} {g : Nat} {f0 : ByteArray} {f1 : Int} {f2 : Bool} (h : IsS69 w0 W g f0 f1 f2) (x : Bool) : IsS69 w0 (W.setCell ⟨g, 2, none⟩ (.bool x)) g f0 f1 x := by
 obtain ⟨hb, hg⟩ := h
 exact ⟨(by simpa using blk_set hb 2 (.bool x)), hg⟩
theorem IsS69.new (w0 W : World) (f0 : ByteArray) (f1 : Int) (f2 : Bool) (hB : Below w0.heap.size w0 W) : IsS69 w0 (W.alloc (.cells #[.string f0, .int .i64 f1, .bool f2] 69)) W.heap.size f0 f1 f2 := ⟨(by simpa using heap_alloc_new W _), hB.size⟩

def impl_scan_one.f (ah : ByteArray) (aj : Int) (ao : Bool) : Option (Int × ByteArray × Int × Bool) := if ao = true then (some (0, ah, aj, true)) else (if aj ≥ (ah.size : Int) then (some (0, ah, aj, true)) else (if 0 ≤ (wrap64 ((wrap64 (aj + 1)) - 1)) then (if (wrap64 ((wrap64 (aj + 1)) - 1)) < (ah.size : Int) then (some (wrap64 (bt ah (wrap64 ((wrap64 (aj + 1)) - 1))), ah, wrap64 (aj + 1), ao)) else (none)) else (none)))
theorem impl_scan_one.calls (g : Nat) (ah : ByteArray) (aj : Int) (ao : Bool) (r1 : Int) (r2 : ByteArray) (r3 : Int) (r4 : Bool) (w0 w : World) (hI : IsS69 w0 w g ah aj ao) (hB : Below w0.heap.size w0 w) (h : impl_scan_one.f ah aj ao = some (r1, r2, r3, r4)) :
  Calls Try.prog 41 #[.pointer (some ⟨g, 0, none⟩)] w fun e w' => e = .returned (.int .i64 r1) ∧ IsS69 w0 w' g r2 r3 r4 ∧ Below w0.heap.size w0 w' ∧ KeepBut w w' g none := by
 have ap := am hI
 have HK := am (KeepBut.refl w g none)
 have HL := am hB.size
 clear hI
 have dk := am hB.size
 have HB := am hB
 clear hB
 have z := h
 clear h
 unfold impl_scan_one.f at z
 obtain ⟨rfl, l⟩ | ⟨rfl, l⟩ := sb z
 ·obtain ⟨rfl, rfl, rfl, rfl⟩ := s4 l; clear l z; obtain ⟨aC, cx⟩ := ap.out; have ey := cellS69_0 aC; have ez := cellS69_1 aC; have eB := cellS69_2 aC; obtain ⟨eG, eH, eI⟩ := fr3 aC; clear aC cx; go_enter Try.func41, Try.ntmps41
  go_wp2
  repeat (go_quiet (fail); try go_wp2)
  go_ret; exact D5x0_
 ·obtain ⟨c4, J⟩ | ⟨c4, J⟩ := sp l
  ·have ba : decide ((ah.size : Int) ≤ aj) = true := decide_eq_true c4
   clear c4; obtain ⟨rfl, rfl, rfl, rfl⟩ := s4 J; clear J z l; obtain ⟨cj, fu⟩ := ap.out; have h0 := cellS69_0 cj; have h1 := cellS69_1 cj; have h2 := cellS69_2 cj; obtain ⟨ic, ie, ig⟩ := fr3 cj; clear cj fu; go_enter Try.func41, Try.ntmps41
   go_wp2
   repeat (go_quiet (fail); try go_wp2)
   go_ret; exact D5x0_
  ·have ba : decide ((ah.size : Int) ≤ aj) = false := decide_eq_false c4
   clear c4; obtain ⟨da, cZ⟩ : ∃ j_ : Int, (wrap64 ((wrap64 (aj + 1)) - 1)) = j_ := ⟨_, rfl⟩
   (first | rw [cZ] at J | simp only [cZ] at J)
   have gw : (IntKind.i64.wrap ((wrap64 (aj + 1)) - 1)) = da := (i64_w _).trans cZ
   obtain ⟨cu, aa⟩ := yd J; obtain ⟨dq, Z⟩ := yd aa; obtain ⟨rfl, rfl, rfl, rfl⟩ := s4 Z; clear Z z l J aa; obtain ⟨ch, fs⟩ := ap.out; have hU := cellS69_0 ch; have hV := cellS69_1 ch; have hW := cellS69_2 ch; obtain ⟨h6, h7, h8⟩ := fr3 ch; clear ch fs
   have p9 : 0 ≤ ((da) : Int) := dga
   have q9 : (da) < (ah.size : Int) := dga
   have g5 := bt_at ah (da); replace p9 := eq_true p9; replace q9 := eq_true q9; go_enter Try.func41, Try.ntmps41
   go_wp2
   repeat (go_quiet (fail); try go_wp2)
   go_ret
   exact ⟨(by first | rfl | (simp [errW_none, errW_some] <;> rfl) | (simp only [← cZ]; first | rfl | (simp [errW_none, errW_some] <;> rfl)) | (simp [*, errW_none, errW_some] <;> rfl)), B12x2_, (Ae1 HB (IsS69.gf ap)), (Ak0 HK)⟩

def impl_scan_rest.f (ah : ByteArray) (aj : Int) (ao : Bool) : Option (ByteArray × ByteArray × Int × Bool) := if ao = true then (some ((⟨#[]⟩ : ByteArray), ah, aj, ao)) else (if 0 ≤ aj then (if aj ≤ (ah.size : Int) then (some (ah.extract (aj : Int).toNat ah.size, ah, (ah.size : Int), ao)) else (none)) else (none))
theorem impl_scan_rest.calls (g : Nat) (ah : ByteArray) (aj : Int) (ao : Bool) (r1 : ByteArray) (r2 : ByteArray) (r3 : Int) (r4 : Bool) (w0 w : World) (hI : IsS69 w0 w g ah aj ao) (hB : Below w0.heap.size w0 w) (h : impl_scan_rest.f ah aj ao = some (r1, r2, r3, r4)) :
  Calls Try.prog 42 #[.pointer (some ⟨g, 0, none⟩)] w fun e w' => e = .returned (.string r1) ∧ IsS69 w0 w' g r2 r3 r4 ∧ Below w0.heap.size w0 w' ∧ KeepBut w w' g none := by
 have ap := am hI
 have HK := am (KeepBut.refl w g none)
 have HL := am hB.size
 clear hI
 have dk := am hB.size
 have HB := am hB
 clear hB
 have z := h
 clear h
 unfold impl_scan_rest.f at z
 obtain ⟨rfl, l⟩ | ⟨rfl, l⟩ := sb z
 ·obtain ⟨rfl, rfl, rfl, rfl⟩ := s4 l; clear l z; obtain ⟨aC, cx⟩ := ap.out; have ey := cellS69_0 aC; have ez := cellS69_1 aC; have eB := cellS69_2 aC; obtain ⟨eG, eH, eI⟩ := fr3 aC; clear aC cx; go_enter Try.func42, Try.ntmps42
  go_wp2
  repeat (go_quiet (fail); try go_wp2)
  go_ret; exact D5x0_
 obtain ⟨ba, dn, J⟩ := ye l
 obtain ⟨dp, eb, aa⟩ := ye J
 obtain ⟨rfl, rfl, rfl, rfl⟩ := s4 aa
 clear aa z l J
 obtain ⟨ck, fv⟩ := ap.out
 have h3 := cellS69_0 ck
 have h4 := cellS69_1 ck
 have h5 := cellS69_2 ck
 obtain ⟨ih, ii, ij⟩ := fr3 ck
 clear ck fv
 go_enter Try.func42, Try.ntmps42
 go_wp2
 repeat (go_quiet (fail); try go_wp2)
 go_ret
 exact D5x0_
theorem B13x4_ (h : p := by repeat (first | (with_reducible first | exact ai.out | apply IsS69.alloc | apply IsS69.drewN | apply IsS69.drew | apply IsS69.set_0 | apply IsS69.set_1 | apply IsS69.set_2 | refine IsS69.far ?_ bN.out _ | refine IsS69.far ?_ bD.out _) | exact ai.out)) : p := h
theorem B13x12_ (h : p := by exact ⟨(Ap1 aV bD), bh.out⟩) : p := h
def impl_scan_done.f (ah : ByteArray) (aj : Int) (ao : Bool) : Option (Bool × ByteArray × Int × Bool) := if ao = true then (some (false, ah, aj, ao)) else (some ((aj == (ah.size : Int)), ah, aj, ao))
theorem impl_scan_done.calls (g : Nat) (ah : ByteArray) (aj : Int) (ao : Bool) (r1 : Bool) (r2 : ByteArray) (r3 : Int) (r4 : Bool) (w0 w : World) (hI : IsS69 w0 w g ah aj ao) (hB : Below w0.heap.size w0 w) (h : impl_scan_done.f ah aj ao = some (r1, r2, r3, r4)) :
  Calls Try.prog 43 #[.pointer (some ⟨g, 0, none⟩)] w fun e w' => e = .returned (.bool r1) ∧ IsS69 w0 w' g r2 r3 r4 ∧ Below w0.heap.size w0 w' ∧ KeepBut w w' g none := by
 have ap := am hI
 have HK := am (KeepBut.refl w g none)
 have HL := am hB.size
 clear hI
 have dk := am hB.size
 have HB := am hB
 clear hB
 have z := h
 clear h
 unfold impl_scan_done.f at z
 obtain ⟨rfl, l⟩ | ⟨rfl, l⟩ := sb z
 ·obtain ⟨rfl, rfl, rfl, rfl⟩ := s4 l; clear l z; obtain ⟨aC, cx⟩ := ap.out; have ey := cellS69_0 aC; have ez := cellS69_1 aC; have eB := cellS69_2 aC; obtain ⟨eG, eH, eI⟩ := fr3 aC; clear aC cx; go_enter Try.func43, Try.ntmps43
  go_wp2
  repeat (go_quiet (fail); try go_wp2)
  go_ret; exact D5x0_
 ·obtain ⟨rfl, rfl, rfl, rfl⟩ := s4 l; clear l z; obtain ⟨ci, ft⟩ := ap.out; have hX := cellS69_0 ci; have hY := cellS69_1 ci; have hZ := cellS69_2 ci; obtain ⟨h9, ia, ib⟩ := fr3 ci; clear ci ft; go_enter Try.func43, Try.ntmps43
  go_wp2
  repeat (go_quiet (fail); try go_wp2)
  go_ret; exact D5x0_

def impl_within.f (B : Int) (a1 : Int) (a2 : Int) : Option (Bool) := if B ≥ a1 then (some (decide (B ≤ a2))) else (some false)
theorem impl_within.calls (B : Int) (a1 : Int) (a2 : Int) (r : Bool) (w : World) (h : impl_within.f B a1 a2 = some r) :
  Calls Try.prog 49 #[.int .i64 B, .int .i64 a1, .int .i64 a2] w fun e w' => e = .returned (.bool r) ∧ Drawn0 w w' := by
 have z := h
 clear h
 unfold impl_within.f at z
 obtain ⟨c4, l⟩ | ⟨c4, l⟩ := sp z
 ·have ba : decide (a1 ≤ B) = true := decide_eq_true c4
  clear c4; obtain rfl := Option.some.inj l; clear l z; go_enter Try.func49, Try.ntmps49
  go_wp2
  go_ret; exact ⟨gr_, gd_⟩
 ·have ba : decide (a1 ≤ B) = false := decide_eq_false c4
  clear c4; obtain rfl := Option.some.inj l; clear l z; go_enter Try.func49, Try.ntmps49
  go_wp2
  go_ret; exact ⟨gr_, gd_⟩

def impl_isAddr.f (B : Int) : Option (Bool) := (impl_within.f B 1 99).bind fun dM => (some dM)
theorem impl_isAddr.calls (B : Int) (r : Bool) (w : World) (h : impl_isAddr.f B = some r) :
  Calls Try.prog 65 #[.int .i64 B] w fun e w' => e = .returned (.bool r) ∧ Drawn0 w w' := by
 have z := h
 clear h
 unfold impl_isAddr.f at z
 obtain ⟨dM, A2, l⟩ := bsi z
 (try dsimp only at l)
 obtain rfl := Option.some.inj l
 clear l z
 go_enter Try.func65, Try.ntmps65
 go_wp2_with (first | ((with_reducible refine gate_callee (f := 49) rfl ?_); refine gM (some 4) Try.func49 (impl_within.calls B 1 99 dM _ A2.out) ?_; rintro w' ⟨nd, rfl⟩))
 go_ret
 exact ⟨gr_, gd_⟩

def impl_CellOk.f (a3 : Int) (a9 : Int) (be : Int) (bq : ByteArray) : Option (Bool) := (impl_within.f a3 0 99).bind fun ei => (if ei = true then ((impl_isAddr.f a9).bind fun ej => (if ej = true then ((impl_within.f be 1 3).bind fun ek => (if ek = true then (some (decide ((bq.size : Int) ≤ 60))) else (some false))) else (some false))) else (some false))
theorem impl_CellOk.calls (a3 : Int) (a9 : Int) (be : Int) (bq : ByteArray) (r : Bool) (w : World) (h : impl_CellOk.f a3 a9 be bq = some r) :
  Calls Try.prog 44 #[.agg #[.int .i64 a3, .int .i64 a9, .int .i64 be, .string bq]] w fun e w' => e = .returned (.bool r) ∧ Below w.heap.size w w' := by
 have fw := Try.underlying40
 have HB := am (Below.refl w.heap.size w)
 have z := h
 clear h
 unfold impl_CellOk.f at z
 obtain ⟨ei, A2, l⟩ := bsi z
 (try dsimp only at l)
 obtain ⟨rfl, J⟩ | ⟨rfl, J⟩ := sb l
 ·obtain ⟨ej, A4, aa⟩ := bsi J; (try dsimp only at aa)
  obtain ⟨rfl, Z⟩ | ⟨rfl, Z⟩ := sb aa
  ·obtain ⟨ek, A6, af⟩ := bsi Z; (try dsimp only at af)
   obtain ⟨rfl, ae⟩ | ⟨rfl, ae⟩ := sb af
   ·obtain rfl := Option.some.inj ae; clear ae z l J aa Z af; go_enter Try.func44, Try.ntmps44
    go_wp2_with (first | ((with_reducible refine gate_dst (N := 1) rfl ?_); (try (refine gate_guard (by rfl) ?_; dsimp only)); refine bx (N := 1) (cs := #[.int .i64 a3, .int .i64 a9, .int .i64 be, .string bq]) (t := 40) ?_; intro dr hg w8 hbox hb; have bB := am hbox; have bC := gA hg HB; replace HB := hA HB hb; clear hb hbox hg; obtain ⟨dT, dU, dV, dW, dX, dY, dZ, d0⟩ := cf4 bB) | ((with_reducible refine gate_callee (f := 49) rfl ?_); refine gM (some 5) Try.func49 (impl_within.calls a3 0 99 true _ A2.out) ?_; rintro w' ⟨nd, rfl⟩) | (go_at_call 65; refine (impl_isAddr.calls a9 true _ A4.out).mono ?_; rintro e w' ⟨rfl, ⟨nd, rfl⟩⟩) | (go_at_call 49; refine (impl_within.calls be 1 3 true _ A6.out).mono ?_; rintro e w' ⟨rfl, ⟨nd, rfl⟩⟩))
    go_ret; exact ⟨B12x3_, (Ae1 HB bC)⟩
   ·obtain rfl := Option.some.inj ae; clear ae z l J aa Z af; go_enter Try.func44, Try.ntmps44
    go_wp2_with (first | ((with_reducible refine gate_dst (N := 1) rfl ?_); (try (refine gate_guard (by rfl) ?_; dsimp only)); refine bx (N := 1) (cs := #[.int .i64 a3, .int .i64 a9, .int .i64 be, .string bq]) (t := 40) ?_; intro dr hg ep hbox hb; have bB := am hbox; have bC := gA hg HB; replace HB := hA HB hb; clear hb hbox hg; obtain ⟨dT, dU, dV, dW, dX, dY, dZ, d0⟩ := cf4 bB) | ((with_reducible refine gate_callee (f := 49) rfl ?_); refine gM (some 5) Try.func49 (impl_within.calls a3 0 99 true _ A2.out) ?_; rintro w' ⟨nd, rfl⟩) | (go_at_call 65; refine (impl_isAddr.calls a9 true _ A4.out).mono ?_; rintro e w' ⟨rfl, ⟨nd, rfl⟩⟩) | (go_at_call 49; refine (impl_within.calls be 1 3 false _ A6.out).mono ?_; rintro e w' ⟨rfl, ⟨nd, rfl⟩⟩))
    go_ret; exact ⟨B12x3_, (Ae1 HB bC)⟩
  ·obtain rfl := Option.some.inj Z; clear Z z l J aa; go_enter Try.func44, Try.ntmps44
   go_wp2_with (first | ((with_reducible refine gate_dst (N := 1) rfl ?_); (try (refine gate_guard (by rfl) ?_; dsimp only)); refine bx (N := 1) (cs := #[.int .i64 a3, .int .i64 a9, .int .i64 be, .string bq]) (t := 40) ?_; intro dr hg bd hbox hb; have bB := am hbox; have bC := gA hg HB; replace HB := hA HB hb; clear hb hbox hg; obtain ⟨dT, dU, dV, dW, dX, dY, dZ, d0⟩ := cf4 bB) | ((with_reducible refine gate_callee (f := 49) rfl ?_); refine gM (some 5) Try.func49 (impl_within.calls a3 0 99 true _ A2.out) ?_; rintro w' ⟨nd, rfl⟩) | (go_at_call 65; refine (impl_isAddr.calls a9 false _ A4.out).mono ?_; rintro e w' ⟨rfl, ⟨nd, rfl⟩⟩))
   go_ret; exact ⟨B12x3_, (Ae1 HB bC)⟩
 ·obtain rfl := Option.some.inj J; clear J z l; go_enter Try.func44, Try.ntmps44
  go_wp2_with (first | ((with_reducible refine gate_dst (N := 1) rfl ?_); (try (refine gate_guard (by rfl) ?_; dsimp only)); refine bx (N := 1) (cs := #[.int .i64 a3, .int .i64 a9, .int .i64 be, .string bq]) (t := 40) ?_; intro dr hg eq hbox hb; have bB := am hbox; have bC := gA hg HB; replace HB := hA HB hb; clear hb hbox hg; obtain ⟨dT, dU, dV, dW, dX, dY, dZ, d0⟩ := cf4 bB) | ((with_reducible refine gate_callee (f := 49) rfl ?_); refine gM (some 5) Try.func49 (impl_within.calls a3 0 99 false _ A2.out) ?_; rintro w' ⟨nd, rfl⟩))
  go_ret; exact ⟨B12x3_, (Ae1 HB bC)⟩

def impl_ReadCell.f (k : Nat) (B : ByteArray) : Option (Int × Int × Int × ByteArray × Bool) := (impl_Unsealed.f k B).bind fun ea => ((impl_scan_one.f ea.1 0 (!ea.2)).bind fun co => ((impl_scan_one.f co.2.1 co.2.2.1 co.2.2.2).bind fun cp => ((impl_scan_one.f cp.2.1 cp.2.2.1 cp.2.2.2).bind fun cq => ((impl_scan_rest.f cq.2.1 cq.2.2.1 cq.2.2.2).bind fun cr => ((impl_scan_done.f cr.2.1 cr.2.2.1 cr.2.2.2).bind fun e7 => (if e7.1 = true then ((impl_CellOk.f co.1 cp.1 cq.1 cr.1).bind fun el => (if el = true then (some (co.1, cp.1, cq.1, cr.1, true)) else (some (0, 0, 0, (⟨#[]⟩ : ByteArray), false)))) else (some (0, 0, 0, (⟨#[]⟩ : ByteArray), false))))))))
theorem impl_ReadCell.calls (k : Nat) (B : ByteArray) (r1 : Int) (r2 : Int) (r3 : Int) (r4 : ByteArray) (r5 : Bool) (w : World) (h : impl_ReadCell.f k B = some (r1, r2, r3, r4, r5)) :
  Calls Try.prog 19 #[.string B] w fun e w' => e = .returned (.tuple #[.agg #[.int .i64 r1, .int .i64 r2, .int .i64 r3, .string r4], .bool r5]) ∧ Below w.heap.size w w' := by
 have fw := Try.underlying40
 have gZ := Try.underlying69
 have HB := am (Below.refl w.heap.size w)
 have z := h
 clear h
 unfold impl_ReadCell.f at z
 obtain ⟨⟨bj, bk⟩, A2, l⟩ := bsi z
 (try dsimp only at l)
 obtain ⟨⟨aA, bZ, b0, b1⟩, A3, J⟩ := bsi l
 (try dsimp only at J)
 obtain ⟨⟨aW, b2, b3, b4⟩, A4, aa⟩ := bsi J
 (try dsimp only at aa)
 obtain ⟨⟨a4, b5, b6, b7⟩, A5, Z⟩ := bsi aa
 (try dsimp only at Z)
 obtain ⟨⟨bl, b8, b9, ca⟩, A6, af⟩ := bsi Z
 (try dsimp only at af)
 obtain ⟨⟨g7, dN, dO, dP⟩, A7, ae⟩ := bsi af
 (try dsimp only at ae)
 obtain ⟨rfl, au⟩ | ⟨rfl, au⟩ := sb ae
 ·obtain ⟨el, A9, cU⟩ := bsi au; (try dsimp only at cU)
  obtain ⟨rfl, cm⟩ | ⟨rfl, cm⟩ := sb cU
  ·obtain ⟨rfl, rfl, rfl, rfl, rfl⟩ := s5 cm; clear cm z l J aa Z af ae au cU; go_enter Try.func19, Try.ntmps19
   go_wp2_with (first | ((with_reducible refine gate_dst (N := 2) rfl ?_); refine bx (N := 2) (cs := #[.int .i64 0, .int .i64 0, .int .i64 0, .string (⟨#[]⟩ : ByteArray)]) (t := 40) ?_; intro az hg aG hbox hb; have D := am hbox; have ak := gA hg HB; replace HB := hA HB hb; clear hb hbox hg) | ((with_reducible refine gate_callee (f := 40) rfl ?_); refine gM (some 10) Try.func40 (impl_Unsealed.calls k B bj bk _ A2.out) ?_; rintro bd hb; replace D := bA D hb; replace HB := De1 HB ak hb) | ((with_reducible refine gate_dst (N := 17) rfl ?_); refine bx (N := 17) (cs := #[.string bj, .int .i64 0, .bool (!bk)]) (t := 69) ?_; intro aD hg cc hbox hb; have aV := am hbox; have bh := gA hg HB; replace HB := De1 HB ak hb; have aw := nA hg D; have bN := mA hg D; replace D := bA D hb; clear hb hbox hg) | ((with_reducible refine gate_dst (N := 7) rfl ?_); refine bx (N := 7) (cs := #[.int .i64 0, .int .i64 0, .int .i64 0, .string (⟨#[]⟩ : ByteArray)]) (t := 40) ?_; intro aE hg eq hbox hb; have U := am hbox; have ar := gA hg HB; replace HB := De2 HB ak bh hb; have ax := nA hg D; have cn := mA hg D; replace D := bA D hb; have bD := nA hg aV; have ay := mA hg aV; replace aV := bA aV hb; clear hb hbox hg; have gx := cn.out; have gI := ax.out; have gy := ay.out; have gJ := bD.out; obtain ⟨aH, aI, aJ, aK, aM, aN, aQ, aT⟩ := cf4 U) | ((with_reducible refine gate_callee (f := 41) rfl ?_); refine gM (some 20) Try.func41 (impl_scan_one.calls aD bj 0 (!bk) aA bZ b0 b1 w _ B13x12_ (Ae3 HB ak bh ar) A3.out) ?_; rintro hj ⟨hi, hb, hk⟩; replace D := am (KeepBut.blk hk (g' := az) (o := .cells #[.int .i64 0, .int .i64 0, .int .i64 0, .string (⟨#[]⟩ : ByteArray)] 40 (0, 0)) (Ap1 D ax) aw.out (by simp)); replace U := am (KeepBut.blk hk (g' := aE) (o := .cells #[.int .i64 0, .int .i64 0, .int .i64 0, .string (⟨#[]⟩ : ByteArray)] 40 (0, 0)) (Ap0 U) ay.out (by simp)); replace HB := am hb; have ai := am hi; obtain ⟨aH, aI, aJ, aK, aM, aN, aQ, aT⟩ := cf4 U) | ((with_reducible refine gate_callee (f := 41) rfl ?_); refine gM (some 23) Try.func41 (impl_scan_one.calls aD bZ b0 b1 aW b2 b3 b4 w _ B13x4_ (Ae3 HB (IsS69.gf ai) ak ar) A4.out) ?_; rintro hl ⟨hi, hb, hk⟩; replace D := am (KeepBut.blk hk (g' := az) (o := .cells #[.int .i64 0, .int .i64 0, .int .i64 0, .string (⟨#[]⟩ : ByteArray)] 40 (0, 0)) (Ap1 D ax) aw.out (by simp)); replace U := am (KeepBut.blk hk (g' := aE) (o := .cells #[.int .i64 aA, .int .i64 0, .int .i64 0, .string (⟨#[]⟩ : ByteArray)] 40 (0, 0)) (Ap0 U) ay.out (by simp)); replace HB := am hb; replace ai := am hi; obtain ⟨aH, aI, aJ, aK, aM, aN, aQ, aT⟩ := cf4 U) | ((with_reducible refine gate_callee (f := 41) rfl ?_); refine gM (some 26) Try.func41 (impl_scan_one.calls aD b2 b3 b4 a4 b5 b6 b7 w _ B13x4_ (Ae3 HB (IsS69.gf ai) ak ar) A5.out) ?_; rintro cd ⟨hi, hb, hk⟩; replace D := am (KeepBut.blk hk (g' := az) (o := .cells #[.int .i64 0, .int .i64 0, .int .i64 0, .string (⟨#[]⟩ : ByteArray)] 40 (0, 0)) (Ap1 D ax) aw.out (by simp)); replace U := am (KeepBut.blk hk (g' := aE) (o := .cells #[.int .i64 aA, .int .i64 aW, .int .i64 0, .string (⟨#[]⟩ : ByteArray)] 40 (0, 0)) (Ap0 U) ay.out (by simp)); replace HB := am hb; replace ai := am hi; obtain ⟨aH, aI, aJ, aK, aM, aN, aQ, aT⟩ := cf4 U) | ((with_reducible refine gate_callee (f := 42) rfl ?_); refine gM (some 29) Try.func42 (impl_scan_rest.calls aD b5 b6 b7 bl b8 b9 ca w _ B13x4_ (Ae3 HB (IsS69.gf ai) ak ar) A6.out) ?_; rintro fQ ⟨hi, hb, hk⟩; replace D := am (KeepBut.blk hk (g' := az) (o := .cells #[.int .i64 0, .int .i64 0, .int .i64 0, .string (⟨#[]⟩ : ByteArray)] 40 (0, 0)) (Ap1 D ax) aw.out (by simp)); replace U := am (KeepBut.blk hk (g' := aE) (o := .cells #[.int .i64 aA, .int .i64 aW, .int .i64 a4, .string (⟨#[]⟩ : ByteArray)] 40 (0, 0)) (Ap0 U) ay.out (by simp)); replace HB := am hb; replace ai := am hi; obtain ⟨aH, aI, aJ, aK, aM, aN, aQ, aT⟩ := cf4 U) | ((with_reducible refine gate_callee (f := 43) rfl ?_); refine gM (some 32) Try.func43 (impl_scan_done.calls aD b8 b9 ca true dN dO dP w _ B13x4_ (Ae3 HB (IsS69.gf ai) ak ar) A7.out) ?_; rintro hm ⟨hi, hb, hk⟩; replace D := am (KeepBut.blk hk (g' := az) (o := .cells #[.int .i64 0, .int .i64 0, .int .i64 0, .string (⟨#[]⟩ : ByteArray)] 40 (0, 0)) (Ap1 D ax) aw.out (by simp)); replace U := am (KeepBut.blk hk (g' := aE) (o := .cells #[.int .i64 aA, .int .i64 aW, .int .i64 a4, .string bl] 40 (0, 0)) (Ap0 U) ay.out (by simp)); replace HB := am hb; replace ai := am hi; obtain ⟨aH, aI, aJ, aK, aM, aN, aQ, aT⟩ := cf4 U) | (go_at_call 44; refine (impl_CellOk.calls aA aW a4 bl true _ A9.out).mono ?_; rintro e hs ⟨rfl, hb⟩; replace D := bA D hb; replace U := bA U hb; replace HB := De3 HB (IsS69.gf ai) ak ar hb; replace ai := am (IsS69.below B13x4_ hb); obtain ⟨aH, aI, aJ, aK, aM, aN, aQ, aT⟩ := cf4 U; have gB := aw.out; have gN := bN.out; obtain ⟨eu, ev, ew, ex, eC, eD, eE, eF⟩ := cf4 D))
   refine bodyPost_ret (results_ct rfl _ _ az 40 #[.int .i64 aA, .int .i64 aW, .int .i64 a4, .string bl] (0, 0) _ rfl (Ap0 D) Try.underlying40 rfl gk_) rfl ?_; exact ⟨B12x3_, (Ae3 HB (IsS69.gf ai) ak ar)⟩
  ·obtain ⟨rfl, rfl, rfl, rfl, rfl⟩ := s5 cm; clear cm z l J aa Z af ae au cU; go_enter Try.func19, Try.ntmps19
   go_wp2_with (first | ((with_reducible refine gate_dst (N := 2) rfl ?_); refine bx (N := 2) (cs := #[.int .i64 0, .int .i64 0, .int .i64 0, .string (⟨#[]⟩ : ByteArray)]) (t := 40) ?_; intro az hg hu hbox hb; have D := am hbox; have ak := gA hg HB; replace HB := hA HB hb; clear hb hbox hg) | ((with_reducible refine gate_callee (f := 40) rfl ?_); refine gM (some 10) Try.func40 (impl_Unsealed.calls k B bj bk _ A2.out) ?_; rintro hv hb; replace D := bA D hb; replace HB := De1 HB ak hb) | ((with_reducible refine gate_dst (N := 17) rfl ?_); refine bx (N := 17) (cs := #[.string bj, .int .i64 0, .bool (!bk)]) (t := 69) ?_; intro aD hg hx hbox hb; have aV := am hbox; have bh := gA hg HB; replace HB := De1 HB ak hb; have aw := nA hg D; have bN := mA hg D; replace D := bA D hb; clear hb hbox hg) | ((with_reducible refine gate_dst (N := 7) rfl ?_); refine bx (N := 7) (cs := #[.int .i64 0, .int .i64 0, .int .i64 0, .string (⟨#[]⟩ : ByteArray)]) (t := 40) ?_; intro aE hg hz hbox hb; have U := am hbox; have ar := gA hg HB; replace HB := De2 HB ak bh hb; have ax := nA hg D; have cn := mA hg D; replace D := bA D hb; have bD := nA hg aV; have ay := mA hg aV; replace aV := bA aV hb; clear hb hbox hg; have gC := cn.out; have gO := ax.out; have gD := ay.out; have gP := bD.out; obtain ⟨aH, aI, aJ, aK, aM, aN, aQ, aT⟩ := cf4 U) | ((with_reducible refine gate_callee (f := 41) rfl ?_); refine gM (some 20) Try.func41 (impl_scan_one.calls aD bj 0 (!bk) aA bZ b0 b1 w _ B13x12_ (Ae3 HB ak bh ar) A3.out) ?_; rintro hC ⟨hi, hb, hk⟩; replace D := am (KeepBut.blk hk (g' := az) (o := .cells #[.int .i64 0, .int .i64 0, .int .i64 0, .string (⟨#[]⟩ : ByteArray)] 40 (0, 0)) (Ap1 D ax) aw.out (by simp)); replace U := am (KeepBut.blk hk (g' := aE) (o := .cells #[.int .i64 0, .int .i64 0, .int .i64 0, .string (⟨#[]⟩ : ByteArray)] 40 (0, 0)) (Ap0 U) ay.out (by simp)); replace HB := am hb; have ai := am hi; obtain ⟨aH, aI, aJ, aK, aM, aN, aQ, aT⟩ := cf4 U) | ((with_reducible refine gate_callee (f := 41) rfl ?_); refine gM (some 23) Try.func41 (impl_scan_one.calls aD bZ b0 b1 aW b2 b3 b4 w _ B13x4_ (Ae3 HB (IsS69.gf ai) ak ar) A4.out) ?_; rintro hD ⟨hi, hb, hk⟩; replace D := am (KeepBut.blk hk (g' := az) (o := .cells #[.int .i64 0, .int .i64 0, .int .i64 0, .string (⟨#[]⟩ : ByteArray)] 40 (0, 0)) (Ap1 D ax) aw.out (by simp)); replace U := am (KeepBut.blk hk (g' := aE) (o := .cells #[.int .i64 aA, .int .i64 0, .int .i64 0, .string (⟨#[]⟩ : ByteArray)] 40 (0, 0)) (Ap0 U) ay.out (by simp)); replace HB := am hb; replace ai := am hi; obtain ⟨aH, aI, aJ, aK, aM, aN, aQ, aT⟩ := cf4 U) | ((with_reducible refine gate_callee (f := 41) rfl ?_); refine gM (some 26) Try.func41 (impl_scan_one.calls aD b2 b3 b4 a4 b5 b6 b7 w _ B13x4_ (Ae3 HB (IsS69.gf ai) ak ar) A5.out) ?_; rintro hE ⟨hi, hb, hk⟩; replace D := am (KeepBut.blk hk (g' := az) (o := .cells #[.int .i64 0, .int .i64 0, .int .i64 0, .string (⟨#[]⟩ : ByteArray)] 40 (0, 0)) (Ap1 D ax) aw.out (by simp)); replace U := am (KeepBut.blk hk (g' := aE) (o := .cells #[.int .i64 aA, .int .i64 aW, .int .i64 0, .string (⟨#[]⟩ : ByteArray)] 40 (0, 0)) (Ap0 U) ay.out (by simp)); replace HB := am hb; replace ai := am hi; obtain ⟨aH, aI, aJ, aK, aM, aN, aQ, aT⟩ := cf4 U) | ((with_reducible refine gate_callee (f := 42) rfl ?_); refine gM (some 29) Try.func42 (impl_scan_rest.calls aD b5 b6 b7 bl b8 b9 ca w _ B13x4_ (Ae3 HB (IsS69.gf ai) ak ar) A6.out) ?_; rintro hF ⟨hi, hb, hk⟩; replace D := am (KeepBut.blk hk (g' := az) (o := .cells #[.int .i64 0, .int .i64 0, .int .i64 0, .string (⟨#[]⟩ : ByteArray)] 40 (0, 0)) (Ap1 D ax) aw.out (by simp)); replace U := am (KeepBut.blk hk (g' := aE) (o := .cells #[.int .i64 aA, .int .i64 aW, .int .i64 a4, .string (⟨#[]⟩ : ByteArray)] 40 (0, 0)) (Ap0 U) ay.out (by simp)); replace HB := am hb; replace ai := am hi; obtain ⟨aH, aI, aJ, aK, aM, aN, aQ, aT⟩ := cf4 U) | ((with_reducible refine gate_callee (f := 43) rfl ?_); refine gM (some 32) Try.func43 (impl_scan_done.calls aD b8 b9 ca true dN dO dP w _ B13x4_ (Ae3 HB (IsS69.gf ai) ak ar) A7.out) ?_; rintro hG ⟨hi, hb, hk⟩; replace D := am (KeepBut.blk hk (g' := az) (o := .cells #[.int .i64 0, .int .i64 0, .int .i64 0, .string (⟨#[]⟩ : ByteArray)] 40 (0, 0)) (Ap1 D ax) aw.out (by simp)); replace U := am (KeepBut.blk hk (g' := aE) (o := .cells #[.int .i64 aA, .int .i64 aW, .int .i64 a4, .string bl] 40 (0, 0)) (Ap0 U) ay.out (by simp)); replace HB := am hb; replace ai := am hi; obtain ⟨aH, aI, aJ, aK, aM, aN, aQ, aT⟩ := cf4 U) | (go_at_call 44; refine (impl_CellOk.calls aA aW a4 bl false _ A9.out).mono ?_; rintro e hH ⟨rfl, hb⟩; replace D := bA D hb; replace U := bA U hb; replace HB := De3 HB (IsS69.gf ai) ak ar hb; replace ai := am (IsS69.below B13x4_ hb); have gE := aw.out; have gQ := bN.out; obtain ⟨eu, ev, ew, ex, eC, eD, eE, eF⟩ := cf4 D))
   refine bodyPost_ret (results_ct rfl _ _ az 40 #[.int .i64 0, .int .i64 0, .int .i64 0, .string (⟨#[]⟩ : ByteArray)] (0, 0) _ rfl (Ap0 D) Try.underlying40 rfl gk_) rfl ?_; exact ⟨B12x3_, (Ae3 HB (IsS69.gf ai) ak ar)⟩
 ·obtain ⟨rfl, rfl, rfl, rfl, rfl⟩ := s5 au; clear au z l J aa Z af ae; go_enter Try.func19, Try.ntmps19
  go_wp2_with (first | ((with_reducible refine gate_dst (N := 2) rfl ?_); refine bx (N := 2) (cs := #[.int .i64 0, .int .i64 0, .int .i64 0, .string (⟨#[]⟩ : ByteArray)]) (t := 40) ?_; intro az hg hJ hbox hb; have D := am hbox; have ak := gA hg HB; replace HB := hA HB hb; clear hb hbox hg) | ((with_reducible refine gate_callee (f := 40) rfl ?_); refine gM (some 10) Try.func40 (impl_Unsealed.calls k B bj bk _ A2.out) ?_; rintro hL hb; replace D := bA D hb; replace HB := De1 HB ak hb) | ((with_reducible refine gate_dst (N := 17) rfl ?_); refine bx (N := 17) (cs := #[.string bj, .int .i64 0, .bool (!bk)]) (t := 69) ?_; intro aD hg hM hbox hb; have aV := am hbox; have bh := gA hg HB; replace HB := De1 HB ak hb; have aw := nA hg D; have bN := mA hg D; replace D := bA D hb; clear hb hbox hg) | ((with_reducible refine gate_dst (N := 7) rfl ?_); refine bx (N := 7) (cs := #[.int .i64 0, .int .i64 0, .int .i64 0, .string (⟨#[]⟩ : ByteArray)]) (t := 40) ?_; intro aE hg hN hbox hb; have U := am hbox; have ar := gA hg HB; replace HB := De2 HB ak bh hb; have ax := nA hg D; have cn := mA hg D; replace D := bA D hb; have bD := nA hg aV; have ay := mA hg aV; replace aV := bA aV hb; clear hb hbox hg; have gF := cn.out; have gR := ax.out; have gG := ay.out; have gU := bD.out; obtain ⟨aH, aI, aJ, aK, aM, aN, aQ, aT⟩ := cf4 U) | ((with_reducible refine gate_callee (f := 41) rfl ?_); refine gM (some 20) Try.func41 (impl_scan_one.calls aD bj 0 (!bk) aA bZ b0 b1 w _ B13x12_ (Ae3 HB ak bh ar) A3.out) ?_; rintro hO ⟨hi, hb, hk⟩; replace D := am (KeepBut.blk hk (g' := az) (o := .cells #[.int .i64 0, .int .i64 0, .int .i64 0, .string (⟨#[]⟩ : ByteArray)] 40 (0, 0)) (Ap1 D ax) aw.out (by simp)); replace U := am (KeepBut.blk hk (g' := aE) (o := .cells #[.int .i64 0, .int .i64 0, .int .i64 0, .string (⟨#[]⟩ : ByteArray)] 40 (0, 0)) (Ap0 U) ay.out (by simp)); replace HB := am hb; have ai := am hi; obtain ⟨aH, aI, aJ, aK, aM, aN, aQ, aT⟩ := cf4 U) | ((with_reducible refine gate_callee (f := 41) rfl ?_); refine gM (some 23) Try.func41 (impl_scan_one.calls aD bZ b0 b1 aW b2 b3 b4 w _ B13x4_ (Ae3 HB (IsS69.gf ai) ak ar) A4.out) ?_; rintro hP ⟨hi, hb, hk⟩; replace D := am (KeepBut.blk hk (g' := az) (o := .cells #[.int .i64 0, .int .i64 0, .int .i64 0, .string (⟨#[]⟩ : ByteArray)] 40 (0, 0)) (Ap1 D ax) aw.out (by simp)); replace U := am (KeepBut.blk hk (g' := aE) (o := .cells #[.int .i64 aA, .int .i64 0, .int .i64 0, .string (⟨#[]⟩ : ByteArray)] 40 (0, 0)) (Ap0 U) ay.out (by simp)); replace HB := am hb; replace ai := am hi; obtain ⟨aH, aI, aJ, aK, aM, aN, aQ, aT⟩ := cf4 U) | ((with_reducible refine gate_callee (f := 41) rfl ?_); refine gM (some 26) Try.func41 (impl_scan_one.calls aD b2 b3 b4 a4 b5 b6 b7 w _ B13x4_ (Ae3 HB (IsS69.gf ai) ak ar) A5.out) ?_; rintro hQ ⟨hi, hb, hk⟩; replace D := am (KeepBut.blk hk (g' := az) (o := .cells #[.int .i64 0, .int .i64 0, .int .i64 0, .string (⟨#[]⟩ : ByteArray)] 40 (0, 0)) (Ap1 D ax) aw.out (by simp)); replace U := am (KeepBut.blk hk (g' := aE) (o := .cells #[.int .i64 aA, .int .i64 aW, .int .i64 0, .string (⟨#[]⟩ : ByteArray)] 40 (0, 0)) (Ap0 U) ay.out (by simp)); replace HB := am hb; replace ai := am hi; obtain ⟨aH, aI, aJ, aK, aM, aN, aQ, aT⟩ := cf4 U) | ((with_reducible refine gate_callee (f := 42) rfl ?_); refine gM (some 29) Try.func42 (impl_scan_rest.calls aD b5 b6 b7 bl b8 b9 ca w _ B13x4_ (Ae3 HB (IsS69.gf ai) ak ar) A6.out) ?_; rintro hR ⟨hi, hb, hk⟩; replace D := am (KeepBut.blk hk (g' := az) (o := .cells #[.int .i64 0, .int .i64 0, .int .i64 0, .string (⟨#[]⟩ : ByteArray)] 40 (0, 0)) (Ap1 D ax) aw.out (by simp)); replace U := am (KeepBut.blk hk (g' := aE) (o := .cells #[.int .i64 aA, .int .i64 aW, .int .i64 a4, .string (⟨#[]⟩ : ByteArray)] 40 (0, 0)) (Ap0 U) ay.out (by simp)); replace HB := am hb; replace ai := am hi; obtain ⟨aH, aI, aJ, aK, aM, aN, aQ, aT⟩ := cf4 U) | ((with_reducible refine gate_callee (f := 43) rfl ?_); refine gM (some 32) Try.func43 (impl_scan_done.calls aD b8 b9 ca false dN dO dP w _ B13x4_ (Ae3 HB (IsS69.gf ai) ak ar) A7.out) ?_; rintro hS ⟨hi, hb, hk⟩; replace D := am (KeepBut.blk hk (g' := az) (o := .cells #[.int .i64 0, .int .i64 0, .int .i64 0, .string (⟨#[]⟩ : ByteArray)] 40 (0, 0)) (Ap1 D ax) aw.out (by simp)); replace U := am (KeepBut.blk hk (g' := aE) (o := .cells #[.int .i64 aA, .int .i64 aW, .int .i64 a4, .string bl] 40 (0, 0)) (Ap0 U) ay.out (by simp)); replace HB := am hb; replace ai := am hi; have gH := aw.out; have gV := bN.out; obtain ⟨eu, ev, ew, ex, eC, eD, eE, eF⟩ := cf4 D))
  refine bodyPost_ret (results_ct rfl _ _ az 40 #[.int .i64 0, .int .i64 0, .int .i64 0, .string (⟨#[]⟩ : ByteArray)] (0, 0) _ rfl (Ap0 D) Try.underlying40 rfl gk_) rfl ?_; exact ⟨B12x3_, (Ae3 HB (IsS69.gf ai) ak ar)⟩

def impl_copyInts.f (l0 : List Int) : Option (List Int) := (some (([] : List Int) : List Int)).bind fun cP => (if cP.length + l0.length < 17592186044416 then (some (cP ++ l0)) else (none))
theorem impl_copyInts.calls (A0 : Option Addr) (c0 : Nat) (l0 : List Int) (r : List Int) (w : World) (bw : Kd.C (Kd.int .i64) w A0 l0.length l0) (bv : l0.length ≤ c0) (h : impl_copyInts.f l0 = some r) :
  Calls Try.prog 45 #[.slice A0 l0.length c0] w fun e w' => ∃ bz : Value, e = .returned (bz) ∧ Kd.R (Kd.int .i64) 3 w' w.heap.size (fun _ => True) bz r ∧ Below w.heap.size w w' := by
 have cl := am bw
 have d1 := am bv
 clear bw bv
 have HB := am (Below.refl w.heap.size w)
 have z := h
 clear h
 unfold impl_copyInts.f at z
 obtain ⟨cP, cH⟩ : ∃ y_ : List Int, y_ = (([] : List Int)) := ⟨_, rfl⟩
 (first | with_reducible replace z := hq cH z | rw [← cH] at z | simp only [← cH] at z)
 have d6 := am cH
 clear cH
 obtain ⟨eZ, l⟩ := ya z
 obtain ⟨hT, cI⟩ : ∃ y_ : List Int, y_ = (cP ++ l0) := ⟨_, rfl⟩
 (first | with_reducible replace l := hq cI l | rw [← cI] at l | simp only [← cI] at l)
 have e4 := am cI
 clear cI
 obtain rfl := Option.some.inj l
 clear l z
 go_enter Try.func45, Try.ntmps45
 go_wp2_with (first | ((with_reducible refine gate_dst (N := 3) rfl ?_); refine lL (Kd.int .i64) 3 3 ([] : List Int) [] (Reps.none _ _) ?_; intro fO w3 cA hb; (first | rw [← d6.out] at cA | (simp only [Int.reduceToNat] at cA; rw [← d6.out] at cA)); have d2 := am (Kd.R_lower cA (below_size (Ae0 HB))); replace HB := hA HB hb; clear hb cA) | ((with_reducible refine gate_builtin (b := .append) (xs := #[.tmp 3, .tmp 4]) rfl ?_); at_builtin; refine Kd.R_append_rows (Kd.int .i64) (w0 := w) w.heap.size rfl (.tmp 3) (.tmp 4) 36 3 (.int .i64 0) 8 rfl Try.underlying36 info3 rfl (by decide) (by omega) fO cP l0 _ _ _ (fun _ => True) (fun _ => False) rfl rfl ?aO ?aR (fun _ _ h => h) (fun _ h => h.elim) ?aF ?aB ?aS ?aL ?_; (case aR => repeat (first | exact (Kd.C_below cl.out HB.out) | (with_reducible refine Kd.C_alloc ?_ _) | (with_reducible refine Kd.C_drewN ?_ _) | (with_reducible refine Kd.C_drew ?_))); (case aB => exact (Ae0 HB)); (case aF => exact (fun _ _ => trivial)); (case aO => (with_reducible repeat (first | apply Kd.R_alloc | apply Kd.R_drewN | apply Kd.R_drew)); exact d2.out); (case aS => exact (below_size (Ae0 HB))); (case aL => have := eZ.out; omega); intro g8 w5 ho hb hg hat; rw [← e4.out] at ho; replace HB := am hb; have eR := am ho; clear d2; clear ho hb hg hat))
 go_ret
 exact ⟨_, B12x3_, (Ar eR), (Ae0 HB)⟩

def impl_copyBits.l0 : Nat → List (S52) → List (S52) → Int → Int → Option ((List (S52)))
 | 0, _, _, _, _ => none
 | k + 1, x3, x7, x8, x9 => if x9 < x8 then (if 0 ≤ x9 then (if x9 < (x7.length : Int) then ((some (([] : List ByteArray) : List ByteArray)).bind fun cQ => (if cQ.length + ((rd_T52 x7 x9).f2).length < 8796093022208 then ((impl_copyInts.f ((rd_T52 x7 x9).f3)).bind fun aX => (if x3.length < 1759218604441 then (impl_copyBits.l0 k (x3 ++ [(⟨(rd_T52 x7 x9).f0, (rd_T52 x7 x9).f1, (cQ ++ ((rd_T52 x7 x9).f2)), aX, (rd_T52 x7 x9).f4, (rd_T52 x7 x9).f5⟩ : S52)]) x7 x8 (wrap64 (x9 + 1))) else (none))) else (none))) else (none)) else (none)) else (some x3)
def impl_copyBits.f (k : Nat) (l0 : List (S52)) : Option ((List (S52))) := impl_copyBits.l0 k (([] : List (S52))) l0 (l0.length : Int) 0
def impl_copyBits.T5 : Bool × List (List Nat × List Nat) := (true, [([], []), ([], []), ([1], [1]), ([0, 2], [0, 2]), ([], []), ([4], [4]), ([5, 3], [5]), ([0, 1, 2, 3, 4, 5], []), ([7, 3, 6, 0, 1, 2, 3, 4, 5], [3, 7]), ([0, 1, 2, 3, 4, 5, 6, 7, 8], []), ([9, 6, 8, 0, 1, 2, 3, 4, 5, 6, 7, 8], [6, 9])])
def impl_copyBits.B5 : List Nat := [0, 0, 2, 7, 0, 16, 63, 63, 255, 511, 1023]
theorem impl_copyBits.tab5 : rtab .any (opsOf Try.f20 5) = impl_copyBits.T5 := by kernel_rfl
theorem impl_copyBits.bits5 : waitsOk impl_copyBits.T5.2 impl_copyBits.B5 = true := by kernel_rfl
theorem impl_copyBits.calls (k : Nat) (A0 : Option Addr) (c0 : Nat) (l0 : List (S52)) (r : List (S52)) (w : World) (bw : Kd.C k52 w A0 l0.length l0) (bv : l0.length ≤ c0) (h : impl_copyBits.f k l0 = some r) :
  Calls Try.prog 20 #[.slice A0 l0.length c0] w fun e w' => ∃ bz : Value, e = .returned (bz) ∧ Kd.S k52 52 w' w.heap.size (fun _ => True) bz r ∧ Below w.heap.size w w' := by
 have fx := Try.underlying52
 have cl := am bw
 have d1 := am bv
 clear bw bv
 have HB := am (Below.refl w.heap.size w)
 have z := h
 clear h
 unfold impl_copyBits.f at z
 obtain ⟨fT, cJ⟩ : ∃ y_ : List (S52), y_ = (([] : List (S52))) := ⟨_, rfl⟩
 (first | with_reducible replace z := hq cJ z | rw [← cJ] at z | simp only [← cJ] at z)
 have d7 := am cJ
 clear cJ
 replace z := am z
 go_enter Try.func20, Try.ntmps20
 go_wp2_with (first | ((with_reducible refine gate_dst (N := 6) rfl ?_); refine Kd.S_lit k52 _ 52 ?hg (N := 6) ?hd (xs := ([] : List (S52))) (inner := []) (ok := fun _ => True) (okp := fun _ => True) ?hr ?hp (fun _ hk => hk) trivial (Below.refl _ _) (Nat.le_refl _) (by simp) ?_; (case hd => rfl); (case hg => rfl); (case hr => exact gs_); (case hp => exact (Reps.none _ _)); intro g9 w2 cz hb hg_ hnew_; clear hg_ hnew_; (first | rw [← d7.out] at cz | (simp only [Int.reduceToNat] at cz; rw [← d7.out] at cz)); have eS := am (Kd.S_lower cz (below_size (Ae0 HB))); replace HB := hA HB hb; clear hb cz))
 go_loopg [3, 9] k (fun kq v3 v9 w' => ∃ (av : List (S52)) (M : Int), v9 = .int .i64 M ∧ Aside0 (impl_copyBits.l0 kq av l0 (l0.length : Int) M = some r) ∧ Aside0 (kq ≤ k) ∧ Aside0 (Kd.S k52 52 w' w.heap.size (fun _ => True) v3 av) ∧ Aside0 (Below w.heap.size w w'))
 case atStart => exact ⟨(fT), 0, be_, z, ⟨Nat.le_refl _⟩, Cs eS, Ce0 HB⟩
 case round =>
  clear z; obtain ⟨av, M, rfl, l, aY, ad, HB⟩ := hrel
  cases gk with
  | zero => exact absurd l.out (by simp [impl_copyBits.l0])
  | succ k1 => ?_
  replace l := l.out; simp only [impl_copyBits.l0] at l
  obtain ⟨ba, J⟩ | ⟨ba, J⟩ := sd l
  ·obtain ⟨dp, aa⟩ := yd J; obtain ⟨cX, Z⟩ := yd aa; obtain ⟨cQ, cK⟩ : ∃ y_ : List ByteArray, y_ = (([] : List ByteArray)) := ⟨_, rfl⟩
   (first | with_reducible replace Z := hq cK Z | rw [← cK] at Z | simp only [← cK] at Z)
   have d8 := am cK; clear cK; obtain ⟨e0, af⟩ := ya Z; obtain ⟨a7, cL⟩ : ∃ y_ : List ByteArray, y_ = (cQ ++ ((rd_T52 l0 M).f2)) := ⟨_, rfl⟩
   (first | with_reducible replace af := hq cL af | rw [← cL] at af | simp only [← cL] at af)
   have e5 := am cL; clear cL; obtain ⟨aX, A8, ae⟩ := bsi af; (try dsimp only at ae); obtain ⟨e1, au⟩ := ya ae; obtain ⟨fU, cM⟩ : ∃ y_ : List (S52), y_ = (av ++ [(⟨(rd_T52 l0 M).f0, (rd_T52 l0 M).f1, a7, aX, (rd_T52 l0 M).f4, (rd_T52 l0 M).f5⟩ : S52)]) := ⟨_, rfl⟩
   (first | with_reducible replace au := hq cM au | rw [← cM] at au | simp only [← cM] at au)
   have e6 := am cM; clear cM; replace au := am au; clear l J aa Z af ae
   have dH : 0 ≤ (M : Int) := dga
   have dJ : M < (l0.length : Int) := dga
   obtain ⟨gg, cf, ct, bK, bQ, fh, dz, dB, dC, dD, dE, dF, hl359_2, hi359_2, hl359_3, hi359_3⟩ := at_T52 cl.out M dH dJ; cases fh; replace dz := (hbc HB dz).trans dz; replace dB := (hbc HB dB).trans dB; replace dC := (hbc HB dC).trans dC; replace dD := (hbc HB dD).trans dD; replace dE := (hbc HB dE).trans dE; replace dF := (hbc HB dF).trans dF; have eW := am hi359_2; have ga := am hl359_2; clear hi359_2 hl359_2; have eX := am hi359_3; have eO := am hl359_3; clear hi359_3 hl359_3; replace dH := eq_true dH; replace dJ := eq_true dJ
   try go_wp2_with (first | ((with_reducible refine gate_dst (N := 5) rfl ?_); refine bx (N := 5) (cs := #[.int .i64 0, .int .i64 0, .slice none 0 0, .slice none 0 0, .int .i64 0, .int .i64 0]) (t := 52) ?_; intro ag hg ep hbox hb; replace ad := am (Kd.S_below (Kd.S_elderB (As ad) ag (Nat.le_of_eq hg.symm)) hb); have Y := am hbox; have a8 := gA hg HB; replace HB := hA HB hb; clear hb hbox hg; obtain ⟨fV, fW, fX, fY, fZ, f3, f4, f5, f6, f7, f8, f9⟩ := cf6 Y) | ((with_reducible refine gate_store (t := 52) (p := 5) rfl ?_); refine store_event (t := 52) (p := 5) (v := ?vo_w12) (w1 := ((((((ep.setCell ⟨ag, 0, none⟩ (.int .i64 ((rd_T52 l0 M).f0))).setCell ⟨ag, 1, none⟩ (.int .i64 ((rd_T52 l0 M).f1))).setCell ⟨ag, 2, none⟩ (.slice cf ((rd_T52 l0 M).f2).length ct)).setCell ⟨ag, 3, none⟩ (.slice bK ((rd_T52 l0 M).f3).length bQ)).setCell ⟨ag, 4, none⟩ (.int .i64 ((rd_T52 l0 M).f4))).setCell ⟨ag, 5, none⟩ (.int .i64 ((rd_T52 l0 M).f5)))) ?hg ?ho ?hn ?hr ?_; (case ho => rfl); (case hg => rfl); (case hn => rfl); (case hr => exact gs_); intro bd hw; replace ad : Aside0 (Kd.S k52 52 bd w.heap.size (fun k_ => k_ ≠ ag) u3 av) := ⟨(by rw [hw]; exact (by (with_reducible repeat (first | apply Kd.S_alloc | apply Kd.S_drewN | apply Kd.S_drew)); exact Kd.S_mono (Kd.S_far (p := ⟨ag, 5, none⟩) (Kd.S_far (p := ⟨ag, 4, none⟩) (Kd.S_far (p := ⟨ag, 3, none⟩) (Kd.S_far (p := ⟨ag, 2, none⟩) (Kd.S_far (p := ⟨ag, 1, none⟩) (Kd.S_far (p := ⟨ag, 0, none⟩) (Kd.S_mono ad.out (fun k_ hk => (⟨hk, hk.2⟩ : _ ∧ k_ ≠ ag))) (fun _ hk => hk.2) (.int .i64 ((rd_T52 l0 M).f0))) (fun _ hk => hk.2) (.int .i64 ((rd_T52 l0 M).f1))) (fun _ hk => hk.2) (.slice cf ((rd_T52 l0 M).f2).length ct)) (fun _ hk => hk.2) (.slice bK ((rd_T52 l0 M).f3).length bQ)) (fun _ hk => hk.2) (.int .i64 ((rd_T52 l0 M).f4))) (fun _ hk => hk.2) (.int .i64 ((rd_T52 l0 M).f5))) (fun _ hk => hk.1.2)))⟩; replace Y : Hc bd ag #[.int .i64 ((rd_T52 l0 M).f0), .int .i64 ((rd_T52 l0 M).f1), .slice cf ((rd_T52 l0 M).f2).length ct, .slice bK ((rd_T52 l0 M).f3).length bQ, .int .i64 ((rd_T52 l0 M).f4), .int .i64 ((rd_T52 l0 M).f5)] 52 := ⟨wAp0 Y⟩; replace HB : Hb w bd := ⟨wAe1 HB a8⟩; clear hw))
   replace ad := am (Kd.S_drew ad.out); replace Y := dA Y; replace HB := bdr HB; refine st_ 11 (fun w' => w'.cell? ⟨ag, 0, none⟩ = some (.int .i64 ((rd_T52 l0 M).f0)) ∧ w'.cell? ⟨ag, 1, none⟩ = some (.int .i64 ((rd_T52 l0 M).f1)) ∧ w'.cell? ⟨ag, 2, none⟩ = some (.slice cf ((rd_T52 l0 M).f2).length ct) ∧ w'.cell? ⟨ag, 3, none⟩ = some (.slice bK ((rd_T52 l0 M).f3).length bQ) ∧ w'.cell? ⟨ag, 4, none⟩ = some (.int .i64 ((rd_T52 l0 M).f4)) ∧ w'.cell? ⟨ag, 5, none⟩ = some (.int .i64 ((rd_T52 l0 M).f5))) [8, 10] impl_copyBits.tab5 impl_copyBits.bits5 D5x1_ (fun bS aZ d3 => ?_); generalize bd.drew = cc at ad Y HB bS ⊢; refine pu_ 1 14 aZ ?_; refine pu_ 4 17 aZ ?_; refine ta_ 2 15 aZ d3 bS ?_; refine ta_ 5 18 aZ d3 bS ?_; refine on_ 0 (some 13) aZ (fun K hK => ?_); refine lS Kd.string 9 13 ([] : List ByteArray) [] (Reps.none _ _) ?_; intro fP eq bU hb
   (first | rw [← d8.out] at bU | (simp only [Int.reduceToNat] at bU; rw [← d8.out] at bU))
   replace ad := am (Kd.S_elder' (As ad) (Kd.R_base bU) hb); have dh := am (Kd.R_lower bU (below_size (Ae1 HB a8))); replace Y := bA Y hb; replace HB := De1 HB a8 hb; clear hb bU; refine hK.out _ _ D5x1_ (fun bS => nm_ ?_); clear hK K; refine on_ 3 (some 16) aZ (fun K hK => ?_); refine Kd.R_append_rows_step Kd.string (w0 := w) w.heap.size (by rfl) (.tmp 13) (.tmp 15) 35 9 (.string ⟨#[]⟩) 16 rfl Try.underlying35 info9 rfl (by decide) (by omega) fP cQ ((rd_T52 l0 M).f2) _ _ _ (fun _ => True) (fun _ => False) rfl rfl ?aO ?aR (fun _ _ h => h) (fun _ h => h.elim) ?aF ?aB ?aS ?aL ?_
   (case aR => repeat (first | exact (Kd.C_below eW.out HB.out) | (with_reducible refine Kd.C_alloc ?_ _) | (with_reducible refine Kd.C_drewN ?_ _) | (with_reducible refine Kd.C_drew ?_)))
   (case aB => exact (Ae1 HB a8))
   (case aF => exact (fun _ _ => trivial))
   (case aO => (with_reducible repeat (first | apply Kd.R_alloc | apply Kd.R_drewN | apply Kd.R_drew)); exact dh.out)
   (case aS => exact (below_size (Ae1 HB a8)))
   (case aL => have := e0.out; omega)
   intro ha hh ho hb hg hat; rw [← e5.out] at ho; replace ad := am (Kd.S_after (ok := (fun k_ => k_ ≠ ag)) (As ad) hg hat); replace Y := bg Y hg (Kd.R_ne dh.out Y.out (by decide)); replace HB := am hb; have bp := am ho; clear dh; clear ho hb hg hat; refine hK.out _ _ D5x1_ (fun bS => nm_ ?_); clear hK K; refine pu_ 7 20 aZ ?_; refine on_ 6 (some 19) aZ (fun K hK => ?_); refine gS Try.func45 #[.slice bK ((rd_T52 l0 M).f3).length bQ] ?_
   with_reducible refine (impl_copyInts.calls _ _ ((rd_T52 l0 M).f3) aX _ ?z1 ?z2 A8.out).mono ?_
   (case z1 => repeat (first | exact (Kd.C_below eX.out HB.out) | (with_reducible refine Kd.C_alloc ?_ _) | (with_reducible refine Kd.C_drewN ?_ _) | (with_reducible refine Kd.C_drew ?_)))
   (case z2 => exact eO.out)
   rintro e dR ⟨he, rfl, cy, hb⟩; refine ⟨_, rfl, ?_⟩; replace ad := am (Kd.S_elder' (As ad) (Kd.R_base cy) hb); replace bp := rA bp hb; have bL := am (Kd.R_lower cy (below_size (Ae1 HB a8))); replace Y := bA Y hb; replace HB := De1 HB a8 hb; obtain ⟨bm, br, ed⟩ := Kd.R_slice bp.out
   (first | subst ed | (injection ed with f1_ f2_ f3_; have f4_ := f1_.symm; have f5_ := f3_.symm; clear f1_ f2_ f3_; subst f4_; subst f5_))
   obtain ⟨bn, bu, ee⟩ := Kd.R_slice bL.out
   (first | subst ee | (injection ee with f1_ f2_ f3_; have f4_ := f1_.symm; have f5_ := f3_.symm; clear f1_ f2_ f3_; subst f4_; subst f5_))
   refine hK.out _ _ D5x1_ (fun bS => nm_ ?_); clear hK K; refine last_ (i := 8) (N := none) #[true, true, true, true, true, true, true, true, true, false, false] rfl rfl (one_of aZ.out gk_) (by decide) (fun K hK => ?_)
   have gW : dR.cell? ⟨ag, 2, none⟩ = some (.slice cf ((rd_T52 l0 M).f2).length ct) := bc Y 2
   have gs := blk_frozen Y.out 2; refine skip_ (w1 := ?_) (by rfl) rfl ?_ ?_; rotate_left
   ·go_simp; rfl
   refine hK.out _ _ ?_; clear hK K; refine pu_ 9 21 aZ ?_; refine last_ (i := 10) (N := none) #[true, true, true, true, true, true, true, true, true, true, true] rfl rfl (one_of aZ.out gk_) (by decide) (fun K hK => ?_)
   have gX : dR.cell? ⟨ag, 3, none⟩ = some (.slice bK ((rd_T52 l0 M).f3).length bQ) := bc Y 3
   have gu := blk_frozen Y.out 3; refine skip_ (w1 := ?_) (by rfl) rfl ?_ ?_; rotate_left
   ·go_simp; rfl
   refine hK.out _ _ ?_; clear hK K; refine done_ (done_of aZ.out gk_) ?_; generalize hw : ((dR.setCell ⟨ag, 2, none⟩ (.slice bm a7.length br)).setCell ⟨ag, 3, none⟩ (.slice bn aX.length bu)) = cd; replace hw := hw.symm
   replace ad : Aside0 (Kd.S k52 52 cd w.heap.size (fun k_ => some k_ ≠ (.slice bm a7.length br : Value).ownBlock ∧ some k_ ≠ (.slice bn aX.length bu : Value).ownBlock ∧ k_ ≠ ag) u3 av) := ⟨(by rw [hw]; exact (by (with_reducible repeat (first | apply Kd.S_alloc | apply Kd.S_drewN | apply Kd.S_drew)); exact Kd.S_mono (Kd.S_far (p := ⟨ag, 3, none⟩) (Kd.S_far (p := ⟨ag, 2, none⟩) (Kd.S_mono ad.out (fun k_ hk => (⟨hk, hk.1.1⟩ : _ ∧ k_ ≠ ag))) (fun _ hk => hk.2) (.slice bm a7.length br)) (fun _ hk => hk.2) (.slice bn aX.length bu)) (fun _ hk => ⟨hk.1.1.2, ⟨hk.1.2, hk.1.1.1⟩⟩)))⟩
   replace bp : Aside0 (Kd.R Kd.string 9 cd w.heap.size (fun _ => True) (.slice bm a7.length br) a7) := ⟨wtfg bp.out Y.out (by decide)⟩
   replace bL : Aside0 (Kd.R (Kd.int .i64) 3 cd w.heap.size (fun _ => True) (.slice bn aX.length bu) aX) := ⟨wtfg bL.out Y.out (by decide)⟩
   replace Y : Hc cd ag #[.int .i64 ((rd_T52 l0 M).f0), .int .i64 ((rd_T52 l0 M).f1), .slice bm a7.length br, .slice bn aX.length bu, .int .i64 ((rd_T52 l0 M).f4), .int .i64 ((rd_T52 l0 M).f5)] 52 := ⟨wAp0 Y⟩
   replace HB : Hb w cd := ⟨wAe1 HB a8⟩
   clear hw; obtain ⟨fV, fW, fX, fY, fZ, f3, f4, f5, f6, f7, f8, f9⟩ := cf6 Y
   try go_wp2_with (first | ((with_reducible refine gate_builtin (b := .append) (xs := #[.tmp 22, .tmp 24]) rfl ?_); at_builtin; refine Kd.S_append k52 (w0 := w) w.heap.size rfl (.tmp 22) (.tmp 24) 24 52 (.agg #[(.int .i64 0), (.int .i64 0), (.slice none 0 0), (.slice none 0 0), (.int .i64 0), (.int .i64 0)]) 80 rfl Try.underlying24 info52 rfl (by decide) (by omega) u3 av (⟨(rd_T52 l0 M).f0, (rd_T52 l0 M).f1, a7, aX, (rd_T52 l0 M).f4, (rd_T52 l0 M).f5⟩ : S52) [.int .i64 ((rd_T52 l0 M).f0), .int .i64 ((rd_T52 l0 M).f1), .slice bm a7.length br, .slice bn aX.length bu, .int .i64 ((rd_T52 l0 M).f4), .int .i64 ((rd_T52 l0 M).f5)] (fun k_ => k_ ≠ ag) (fun k_ => some k_ = (.slice bm a7.length br : Value).ownBlock ∨ some k_ = (.slice bn aX.length bu : Value).ownBlock) rfl rfl ?aP (fun k_ hk_ => hk_.elim (fun h_ => ((Kd.R_mono (ok' := fun k_ => ((fun k_ => k_ ≠ ag)) k_ ∧ some k_ ≠ (u3 : Value).ownBlock) (Kd.R_types (Kd.R_apart' (bp.out) (Kd.S_typed ad.out) (by decide)) Y.out (by decide)) (fun k_ hk => ⟨hk.2, hk.1.2⟩))).1 k_ h_.symm) (fun h_ => ((Kd.R_mono (ok' := fun k_ => ((fun k_ => k_ ≠ ag)) k_ ∧ some k_ ≠ (u3 : Value).ownBlock) (Kd.R_types (Kd.R_apart' (bL.out) (Kd.S_typed ad.out) (by decide)) Y.out (by decide)) (fun k_ hk => ⟨hk.2, hk.1.2⟩))).1 k_ h_.symm)) ?aF ?aO ?aB ?aS ?aL ?_; (case aP => exact k52_mkM _ _ _ (⟨(rd_T52 l0 M).f0, (rd_T52 l0 M).f1, a7, aX, (rd_T52 l0 M).f4, (rd_T52 l0 M).f5⟩ : S52) (Kd.R_mono (Kd.R_tight rfl (Kd.R_mono (ok' := fun k_ => ((fun k_ => k_ ≠ ag)) k_ ∧ some k_ ≠ (u3 : Value).ownBlock) (Kd.R_types (Kd.R_apart' (bp.out) (Kd.S_typed ad.out) (by decide)) Y.out (by decide)) (fun k_ hk => ⟨hk.2, hk.1.2⟩))) (fun _ h_ => Or.inl h_)) (Kd.R_mono (Kd.R_tight rfl (Kd.R_mono (ok' := fun k_ => ((fun k_ => k_ ≠ ag)) k_ ∧ some k_ ≠ (u3 : Value).ownBlock) (Kd.R_types (Kd.R_apart' (bL.out) (Kd.S_typed ad.out) (by decide)) Y.out (by decide)) (fun k_ hk => ⟨hk.2, hk.1.2⟩))) (fun _ h_ => Or.inr (h_)))); (case aB => exact (Ae1 HB a8)); (case aF => exact (fun k_ hk => Kd.freshB (g := ag) (o := .cells #[.int .i64 ((rd_T52 l0 M).f0), .int .i64 ((rd_T52 l0 M).f1), .slice bm a7.length br, .slice bn aX.length bu, .int .i64 ((rd_T52 l0 M).f4), .int .i64 ((rd_T52 l0 M).f5)] 52 (0, 0)) (Ab Y) k_ hk)); (case aO => (with_reducible repeat (first | apply Kd.S_alloc | apply Kd.S_drewN | apply Kd.S_drew)); exact Kd.S_mono ad.out (fun k_ hk => ⟨hk.2.2, fun e_ => e_.elim (fun h_ => hk.1 h_) (fun h_ => hk.2.1 h_)⟩)); (case aS => exact (below_size (Ae1 HB a8))); (case aL => have := e1.out; omega); intro hf fQ ho hb hg hat; rw [← e6.out] at ho; replace Y := bg Y hg (Kd.S_away ad.out (fun _ hk => hk.2.2)); replace HB := am hb; have eT := am ho; clear ad; clear bp; clear bL; clear ho hb hg hat))
   go_roundg k1
   case measure => have := aY.out; omega
   case rel => exact ⟨(fU), (wrap64 (M + 1)), be_, au, ⟨(by have := aY.out; omega)⟩, ⟨(by (with_reducible repeat (first | apply Kd.S_alloc | apply Kd.S_drewN | apply Kd.S_drew)); exact Kd.S_mono eT.out (fun _ hk => trivial))⟩, Ce1 HB a8⟩
  ·obtain rfl := Option.some.inj J; clear J l
   go_wp2
   go_ret; exact ⟨_, B12x3_, (As ad), (Ae0 HB)⟩

def impl_scan_word.f (ah : ByteArray) (aj : Int) (ao : Bool) : Option (Int × ByteArray × Int × Bool) := (impl_scan_one.f ah aj ao).bind fun cV => ((impl_scan_one.f cV.2.1 cV.2.2.1 cV.2.2.2).bind fun cW => (some (Go.bits .or .i64 (wrap64 (cV.1 * 256)) cW.1, cW.2.1, cW.2.2.1, cW.2.2.2)))
theorem impl_scan_word.calls (g : Nat) (ah : ByteArray) (aj : Int) (ao : Bool) (r1 : Int) (r2 : ByteArray) (r3 : Int) (r4 : Bool) (w0 w : World) (hI : IsS69 w0 w g ah aj ao) (hB : Below w0.heap.size w0 w) (h : impl_scan_word.f ah aj ao = some (r1, r2, r3, r4)) :
  Calls Try.prog 46 #[.pointer (some ⟨g, 0, none⟩)] w fun e w' => e = .returned (.int .i64 r1) ∧ IsS69 w0 w' g r2 r3 r4 ∧ Below w0.heap.size w0 w' ∧ KeepBut w w' g none := by
 have ap := am hI
 have HK := am (KeepBut.refl w g none)
 have HL := am hB.size
 clear hI
 have dk := am hB.size
 have HB := am hB
 clear hB
 have z := h
 clear h
 unfold impl_scan_word.f at z
 obtain ⟨⟨fG, em, en, eo⟩, A2, l⟩ := bsi z
 (try dsimp only at l)
 obtain ⟨⟨fH, fI, fJ, fK⟩, A3, J⟩ := bsi l
 (try dsimp only at J)
 obtain ⟨rfl, rfl, rfl, rfl⟩ := s4 J
 clear J z l
 go_enter Try.func46, Try.ntmps46
 go_wp2_with (first | ((with_reducible refine gate_callee (f := 41) rfl ?_); refine gM (some 6) Try.func41 (impl_scan_one.calls g ah aj ao fG em en eo w0 _ B12x2_ (Ae1 HB (IsS69.gf ap)) A2.out) ?_; rintro w4 ⟨hi, hb, hk⟩; replace HK := Dk0 HK hk; replace HB := am hb; replace ap := am hi) | ((with_reducible refine gate_callee (f := 41) rfl ?_); refine gM (some 8) Try.func41 (impl_scan_one.calls g em en eo fH fI fJ fK w0 _ B12x2_ (Ae1 HB (IsS69.gf ap)) A3.out) ?_; rintro w5 ⟨hi, hb, hk⟩; replace HK := Dk0 HK hk; replace HB := am hb; replace ap := am hi))
 go_ret
 exact D5x0_

def impl_isWord.f (B : Int) : Option (Bool) := (impl_within.f B 0 65535).bind fun dQ => (some dQ)
theorem impl_isWord.calls (B : Int) (r : Bool) (w : World) (h : impl_isWord.f B = some r) :
  Calls Try.prog 70 #[.int .i64 B] w fun e w' => e = .returned (.bool r) ∧ Drawn0 w w' := by
 have z := h
 clear h
 unfold impl_isWord.f at z
 obtain ⟨dQ, A2, l⟩ := bsi z
 (try dsimp only at l)
 obtain rfl := Option.some.inj l
 clear l z
 go_enter Try.func70, Try.ntmps70
 go_wp2_with (first | ((with_reducible refine gate_callee (f := 49) rfl ?_); refine gM (some 4) Try.func49 (impl_within.calls B 0 65535 dQ _ A2.out) ?_; rintro w' ⟨nd, rfl⟩))
 go_ret
 exact ⟨gr_, gd_⟩
end
end Go.Proofs.Ytjaamflffmhicaa.QFnExactUnwrap
