/- Functions that a law reaches, as functions of Lean, and the walks that show that the calls come to their answers: written by a program of this project out of the translation. No condition. -/
import Derived.Test.YtmknnoeggkgkgaaQFnExactPushx0
import Derived.Test.YtmknnoeggkgkgaaVFnExactPushShort4
import Derived.Test.YtmknnoeggkgkgaaVFnExactPushhort3
import Derived.Test.YtmknnoeggkgkgaaVFnExactPushShort2
import Derived.Test.YtmknnoeggkgkgaaVFnExactPushShort
namespace Go.Proofs.Ytmknnoeggkgkgaa.QFnExactPush
open Go.RowKit Go.Proofs.YtmknnoeggkgkgaaW.PrintWords Go.Proofs.YtmknnoeggkgkgaaW.PrintLast Go.Proofs.YtmknnoeggkgkgaaW.PrintMore Go.Proofs.Ytmknnoeggkgkgaa.Short
attribute [local go_sem] max2_int min2_int max_two min_two max_three min_three max_four min_four   -- for this text's walks alone
set_option linter.unusedVariables false
set_option linter.unusedSimpArgs false

theorem B6x0_ {p : Prop} (h : p := by repeat (first | (with_reducible first | exact HB.out | apply below_alloc | apply pw_below_drewN | apply below_drew1 | refine below_set ?_ GE251.out | refine below_set ?_ GE252.out | refine below_set ?_ GE253.out) | exact HB.out)) : p := h
theorem B6x1_ {p : Prop} (h : p := by repeat (first | (with_reducible first | exact HB.out | apply below_alloc | apply pw_below_drewN | apply below_drew1) | exact HB.out)) : p := h
theorem B6x2_ {p : Prop} (h : p := by (repeat (with_reducible (first | exact BK252.out | apply blk_drewN | apply blk_drew | apply blk_alloc | apply blk_put | apply bf NB252_253.out))); repeat (first | exact BK252.out | (simp only [List.setIfInBounds_toArray, List.set_cons_zero, List.set_cons_succ]; with_reducible rfl) | rfl)) : p := h
theorem B6x3_ {p : Prop} (h : p := by first | (with_reducible assumption) | assumption) : p := h
theorem B6x4_ {p : Prop} (h : p := by first | (go_simp; done) | (go_simp; rfl)) : p := h
theorem B6x5_ {p : Prop} (h : p := by (repeat (with_reducible (first | exact BK251.out | apply blk_drewN | apply blk_drew | apply blk_alloc | apply blk_put | apply bf NB251_253.out))); repeat (first | exact BK251.out | (simp only [List.setIfInBounds_toArray, List.set_cons_zero, List.set_cons_succ]; with_reducible rfl) | rfl)) : p := h
theorem B6x6_ {p : Prop} (h : p := by (try simp only [List.map_toArray, List.map_cons, List.map_nil]); first | done | rfl | (simp only [List.length_drop, List.length_take]; rfl)) : p := h
theorem B6x7_ {p : Prop} (h : p := by (repeat (with_reducible (first | exact BK253.out | apply blk_drewN | apply blk_drew | apply blk_alloc | apply blk_put))); repeat (first | exact BK253.out | (simp only [List.setIfInBounds_toArray, List.set_cons_zero, List.set_cons_succ]; with_reducible rfl) | rfl)) : p := h
theorem B6x8_ {p : Prop} (h : p := by (with_reducible repeat (first | apply Kd.R_alloc | apply Kd.R_drewN | apply Kd.R_drew)); exact HO_3.out) : p := h
theorem B6x9_ {p : Prop} (h : p := by repeat (first | exact Drawn0.refl _ | apply Drawn0.step)) : p := h
theorem B6x10_ {p : Prop} (h : p := by first | rfl | (simp; done) | (simp [*]; done)) : p := h
/-! ### laws_toLate: function 134 -/
def laws_toLate.f (a0_0 : Int) (a0_1 : ByteArray) : Option (Int × ByteArray) := some (a0_0, a0_1)
set_option maxHeartbeats 8000000 in
set_option maxRecDepth 100000 in
theorem laws_toLate.calls (a0_0 : Int) (a0_1 : ByteArray) (r1 : Int) (r2 : ByteArray) (w : World) (h : laws_toLate.f a0_0 a0_1 = some (r1, r2)) :
  Calls Try.prog 134 #[.agg #[.int .i64 a0_0, .string a0_1]] w fun e w' => e = .returned (.agg #[.int .i64 r1, .string r2]) ∧ Below w.heap.size w w' := by
 have hu152 := Try.underlying152
 have hu143 := Try.underlying143
 have HB := Aside0.mk (Below.refl w.heap.size w)
 have H : (some (a0_0, a0_1)) = some (r1, r2) := h
 clear h
 simp only [Option.some.injEq, Prod.mk.injEq] at H
 obtain ⟨rfl, rfl⟩ := H
 go_enter Try.func134, Try.ntmps134
 go_wp2_with (first | ((with_reducible refine gate_dst (N := 1) rfl ?_); refine box_event ?hg (N := 1) ?hd (cs := #[.int .i64 a0_0, .string a0_1]) (t := 152) ?hr ?_; (case hd => rfl); (case hg => rfl); (case hr => exact B6x4_); intro gb241 hg w2 hbox hb; have BK241 := Aside0.mk (hbox); have GW241 := Aside0.mk ((bs hg (below_size HB.out))); have GE241 := Aside0.mk ((bs hg (below_size HB.out))); replace HB := Aside0.mk (below_step B6x1_ hb); clear hb hbox hg) | ((with_reducible refine gate_dst (N := 2) rfl ?_); refine box_event ?hg (N := 2) ?hd (cs := #[.int .i64 0, .string (⟨#[]⟩ : ByteArray)]) (t := 143) ?hr ?_; (case hd => rfl); (case hg => rfl); (case hr => exact B6x4_); intro gb242 hg w3 hbox hb; have BK242 := Aside0.mk (hbox); have GW242 := Aside0.mk ((bs hg (below_size HB.out))); have GE242 := Aside0.mk ((bs hg (below_size HB.out))); replace HB := Aside0.mk (below_step (by repeat (first | (with_reducible first | exact HB.out | apply below_alloc | apply pw_below_drewN | apply below_drew1 | refine below_set ?_ GE241.out) | exact HB.out)) hb); have NB241_242 := Aside0.mk ((nl hg (blk_lt BK241.out))); have NB242_241 := Aside0.mk ((ng hg (blk_lt BK241.out))); replace BK241 := Aside0.mk (bb BK241.out hb); clear hb hbox hg) | ((with_reducible refine gate_dst (N := 3) rfl ?_); refine box_event ?hg (N := 3) ?hd (cs := #[.int .i64 0, .string (⟨#[]⟩ : ByteArray)]) (t := 143) ?hr ?_; (case hd => rfl); (case hg => rfl); (case hr => exact B6x4_); intro gb243 hg w4 hbox hb; have BK243 := Aside0.mk (hbox); have GW243 := Aside0.mk ((bs hg (below_size HB.out))); have GE243 := Aside0.mk ((bs hg (below_size HB.out))); replace HB := Aside0.mk (below_step (by repeat (first | (with_reducible first | exact HB.out | apply below_alloc | apply pw_below_drewN | apply below_drew1 | refine below_set ?_ GE241.out | refine below_set ?_ GE242.out) | exact HB.out)) hb); have NB241_243 := Aside0.mk ((nl hg (blk_lt BK241.out))); have NB243_241 := Aside0.mk ((ng hg (blk_lt BK241.out))); replace BK241 := Aside0.mk (bb BK241.out hb); have NB242_243 := Aside0.mk ((nl hg (blk_lt BK242.out))); have NB243_242 := Aside0.mk ((ng hg (blk_lt BK242.out))); replace BK242 := Aside0.mk (bb BK242.out hb); clear hb hbox hg; have hnb5 := NB241_242.out; have hnc5 := NB242_241.out; have hnb6 := NB241_243.out; have hnc6 := NB243_241.out; obtain ⟨hcz7_0, hcz7_1⟩ := cl2 BK241.out; obtain ⟨hfz7_0, hfz7_1⟩ := fr2 BK241.out; have hnb8 := NB243_242.out; have hnc8 := NB242_243.out; obtain ⟨hcz9_0, hcz9_1⟩ := cl2 BK243.out; obtain ⟨hfz9_0, hfz9_1⟩ := fr2 BK243.out; obtain ⟨hcz10_0, hcz10_1⟩ := cl2 BK242.out; obtain ⟨hfz10_0, hfz10_1⟩ := fr2 BK242.out))
 refine bodyPost_ret (results_cell_row rfl _ _ gb242 143 #[.int .i64 a0_0, .string a0_1] (0, 0) _ rfl (by (repeat (with_reducible (first | exact BK242.out | apply blk_drewN | apply blk_drew | apply blk_alloc | apply blk_put | apply bf NB242_243.out))); repeat (first | exact BK242.out | (simp only [List.setIfInBounds_toArray, List.set_cons_zero, List.set_cons_succ]; with_reducible rfl) | rfl)) Try.underlying143 rfl (by kernel_rfl)) rfl ?_
 exact ⟨(by first | rfl | (simp [errW_none, errW_some] <;> rfl) | (simp [*, errW_none, errW_some] <;> rfl)), (by repeat (first | (with_reducible first | exact HB.out | apply below_alloc | apply pw_below_drewN | apply below_drew1 | refine below_set ?_ GE241.out | refine below_set ?_ GE242.out | refine below_set ?_ GE243.out) | exact HB.out))⟩

/-! ### laws_toLateS: function 72 -/
def laws_toLateS.l0 : Nat → List (S152) → List (S143) → Int → Option ((List (S143)))
 | 0, _, _, _ => none
 | k + 1, x0, x3, x4 => if x4 < (x0.length : Int) then (if 0 ≤ x4 then ((laws_toLate.f ((rd_T152 x0 x4).f0) ((rd_T152 x0 x4).f1)).bind fun bt248 => (if x4 < (x3.length : Int) then (laws_toLateS.l0 k x0 (x3.set (x4 : Int).toNat (⟨bt248.1, bt248.2⟩ : S143)) (wrap64 (x4 + 1))) else (none))) else (none)) else (some x3)
def laws_toLateS.f (k : Nat) (l0 : List (S152)) : Option ((List (S143))) := if 0 ≤ (l0.length : Int) then (if ((l0.length : Int) : Int).toNat ≤ 11728124029610 then (laws_toLateS.l0 k l0 (List.replicate ((l0.length : Int) : Int).toNat z143) 0) else (none)) else (none)
theorem laws_toLateS.mono_l : ∀ k, (∀ y0 y1 y2, LeO (laws_toLateS.l0 k y0 y1 y2) (laws_toLateS.l0 (k + 1) y0 y1 y2))
 | 0 => fun _ _ _ r h => by simp [laws_toLateS.l0] at h
 | k + 1 => by
  have ih0 := laws_toLateS.mono_l k
  ·intro y0 y1 y2
   unfold laws_toLateS.l0
   repeat' first
   | (with_reducible exact ih0 _ _ _)
   | (with_reducible first | exact LeO.refl _ | exact LeO.none _ | refine LeO.ite ?_ ?_ | refine LeO.bind ?_ (fun _ => ?_))
   | exact ih0 _ _ _
theorem laws_toLateS.mono : ∀ a0 k, LeO (laws_toLateS.f k a0) (laws_toLateS.f (k + 1) a0) := by
 intro a0 k
 have ih0 := laws_toLateS.mono_l k
 unfold laws_toLateS.f
 repeat' first
   | (with_reducible exact ih0 _ _ _)
   | (with_reducible first | exact LeO.refl _ | exact LeO.none _ | refine LeO.ite ?_ ?_ | refine LeO.bind ?_ (fun _ => ?_))
   | exact ih0 _ _ _
set_option maxHeartbeats 8000000 in
set_option maxRecDepth 100000 in
theorem laws_toLateS.calls (k : Nat) (A0 : Option Addr) (c0 : Nat) (l0 : List (S152)) (r : List (S143)) (w : World) (hr0 : Kd.C k152 w A0 l0.length l0) (hc0 : l0.length ≤ c0) (h : laws_toLateS.f k l0 = some r) :
  Calls Try.prog 72 #[.slice A0 l0.length c0] w fun e w' => ∃ v0_ : Value, e = .returned (v0_) ∧ Kd.R k143 143 w' w.heap.size (fun _ => True) v0_ r ∧ Below w.heap.size w w' := by
 have hu152 := Try.underlying152
 have hu143 := Try.underlying143
 have HR0 := Aside0.mk hr0
 have HC0 := Aside0.mk hc0
 clear hr0 hc0
 have HB := Aside0.mk (Below.refl w.heap.size w)
 have H : (if 0 ≤ (l0.length : Int) then (if ((l0.length : Int) : Int).toNat ≤ 11728124029610 then (laws_toLateS.l0 k l0 (List.replicate ((l0.length : Int) : Int).toNat z143) 0) else (none)) else (none)) = some r := h
 clear h
 by_cases c2 : 0 ≤ (l0.length : Int)
 rotate_left
 ·rw [if_neg c2] at H
  exact absurd H (by simp)
 rw [if_pos c2] at H
 have c2b0 := eq_true c2
 have c2b1 : decide (0 ≤ (l0.length : Int)) = true := decide_eq_true c2
 clear c2
 by_cases c3 : ((l0.length : Int) : Int).toNat ≤ 11728124029610
 rotate_left
 ·rw [if_neg c3] at H
  exact absurd H (by simp)
 rw [if_pos c3] at H
 have c3b0 := eq_true c3
 have c3b1 : decide (((l0.length : Int) : Int).toNat ≤ 11728124029610) = true := decide_eq_true c3
 clear c3
 obtain ⟨y244, hy244⟩ : ∃ y_ : List (S143), y_ = (List.replicate ((l0.length : Int) : Int).toNat z143) := ⟨_, rfl⟩
 replace H : (laws_toLateS.l0 k l0 y244 0) = some r := by first | (rw [hy244]; with_reducible exact H) | (have H2_ := (Option.bind_some _ _).symm.trans H; rw [hy244]; with_reducible exact H2_) | (have H2_ := (Option.bind_some _ _).symm.trans H; with_reducible exact H2_) | with_reducible exact H | (rw [hy244]; exact H) | exact H
 have Ny244 := Aside0.mk hy244
 clear hy244
 have H' := Aside0.mk H
 clear H
 go_enter Try.func72, Try.ntmps72
 go_wp2_with (first | ((with_reducible refine gate_dst (N := 7) rfl ?_); refine Kd.R_make k143 _ 143 rfl (N := 7) rfl 37 _ _ rfl (l0.length : Int) rfl rfl Try.underlying37 (.agg #[(.int .i64 0), (.string ⟨#[]⟩)]) 24 info143 rfl (by decide) (by omega) z143 (ok := fun _ => True) (okp := fun _ => True) (k143_mkM _ _ _ z143 ) (fun _ hk => hk) trivial (of_decide_eq_true B6x3_) (Nat.le_trans (Nat.mul_le_mul_right _ (of_decide_eq_true B6x3_ : (l0.length : Int).toNat ≤ 11728124029610)) (by omega)) (Below.refl _ _) (Nat.le_refl _) ?_; intro v245 w4 ho5 hb hg_ hnew_; clear hg_ hnew_; (first | rw [← Ny244.out] at ho5 | (simp only [Int.reduceToNat] at ho5; rw [← Ny244.out] at ho5)); have HO246 := Aside0.mk (Kd.R_lower ho5 (below_size B6x1_)); replace HB := Aside0.mk (below_step B6x1_ hb); clear hb ho5))
 go_loopg [4] k (fun kq v4 w' => ∃ (x3_1 : List (S143)) (x4_1 : Int), v4 = .int .i64 x4_1 ∧ Aside0 (laws_toLateS.l0 kq l0 x3_1 x4_1 = some r) ∧ Aside0 (kq ≤ k) ∧ Aside0 (Kd.R k143 143 w' w.heap.size (fun _ => True) v245 x3_1) ∧ Aside0 (Below w.heap.size w w'))
 case atStart => exact ⟨(y244), (0), (be_), H', ⟨Nat.le_refl _⟩, ⟨(by (with_reducible repeat (first | apply Kd.R_alloc | apply Kd.R_drewN | apply Kd.R_drew)); exact HO246.out)⟩, ⟨B6x1_⟩⟩
 case round =>
  clear H'
  try clear c2
  try clear c2b0
  try clear c2b1
  try clear c3
  try clear c3b0
  try clear c3b1
  obtain ⟨x3_1, x4_1, rfl, HA, HK1, HO_3, HB⟩ := hrel
  cases gk with
  | zero => exact absurd HA.out (by simp [laws_toLateS.l0])
  | succ k1 =>
   have H := HA.out
   clear HA
   simp only [laws_toLateS.l0] at H
   by_cases c6 : x4_1 < (l0.length : Int)
   ·rw [if_pos c6] at H
    have c6b0 : decide (x4_1 < (l0.length : Int)) = true := decide_eq_true c6
    clear c6
    by_cases c7 : 0 ≤ x4_1
    rotate_left
    ·rw [if_neg c7] at H
     exact absurd H (by simp)
    rw [if_pos c7] at H
    have c7b0 : decide (0 ≤ x4_1) = true := decide_eq_true c7
    clear c7
    replace H := bsi H
    obtain ⟨⟨t248, t249⟩, A8, H⟩ := H
    (try dsimp only at H)
    by_cases c9 : x4_1 < (x3_1.length : Int)
    rotate_left
    ·rw [if_neg c9] at H
     exact absurd H (by simp)
    rw [if_pos c9] at H
    have c9b0 : decide (x4_1 < (x3_1.length : Int)) = true := decide_eq_true c9
    clear c9
    obtain ⟨y250, hy250⟩ : ∃ y_ : List (S143), y_ = (x3_1.set (x4_1 : Int).toNat (⟨t248, t249⟩ : S143)) := ⟨_, rfl⟩
    replace H : (laws_toLateS.l0 k1 l0 y250 (wrap64 (x4_1 + 1))) = some r := by first | (rw [hy250]; with_reducible exact H) | (have H2_ := (Option.bind_some _ _).symm.trans H; rw [hy250]; with_reducible exact H2_) | (have H2_ := (Option.bind_some _ _).symm.trans H; with_reducible exact H2_) | with_reducible exact H | (rw [hy250]; exact H) | exact H
    have Ny250 := Aside0.mk hy250
    clear hy250
    have H' := Aside0.mk H
    clear H
    have p247 : 0 ≤ (x4_1 : Int) := of_decide_eq_true B6x3_
    have q247 : x4_1 < (l0.length : Int) := of_decide_eq_true B6x3_
    obtain ⟨ad247, e247, hx247_0, hx247_1⟩ := at_T152 HR0.out x4_1 p247 q247
    cases e247
    replace hx247_0 := (HB.out.cell (World.block_lt_of_cell? w _ hx247_0)).trans hx247_0
    replace hx247_1 := (HB.out.cell (World.block_lt_of_cell? w _ hx247_1)).trans hx247_1
    replace p247 := eq_true p247
    replace q247 := eq_true q247
    go_wp2_with (first | ((with_reducible refine gate_callee (f := 134) rfl ?_); refine goesL_ (some 20) rfl rfl Try.func134 (by kernel_rfl) rfl #[.agg #[.int .i64 ((rd_T152 l0 x4_1).f0), .string ((rd_T152 l0 x4_1).f1)]] rfl B6x6_ ?_; (with_reducible refine (laws_toLate.calls ((rd_T152 l0 x4_1).f0) ((rd_T152 l0 x4_1).f1) t248 t249 _ A8.out).mono ?_); rintro e w11 ⟨rfl, hb⟩; refine ⟨_, rfl, ?_⟩; replace HO_3 := Aside0.mk (Kd.R_below B6x8_ hb); replace HB := Aside0.mk (below_step B6x1_ hb); (try clear hb); have p10 : 0 ≤ (x4_1 : Int) := of_decide_eq_true B6x3_; have q10 : (x4_1 : Int) < ((x3_1.length : Int) : Int) := of_decide_eq_true B6x3_; obtain ⟨go10, co10, eo10, gb10, gl10, cl10, HG10⟩ := Kd.R_form HO_3.out (by omega); (first | cases eo10 | (injection eo10 with ea_ en_ ec_; (first | subst ea_ | (injection ea_ with ea_; subst ea_)); subst ec_; clear en_)); have GB10 := Aside0.mk gb10; have GG10 := Aside0.mk HG10; clear gb10 gl10 HG10; obtain ⟨ce10, hcl10, hM10, hcc10, hfr10⟩ := Kd.R_elem HO_3.out z143 (x4_1 : Int) p10 q10; obtain rfl := k143_openM hM10; have hx10_0 : w11.cell? ⟨go10, (x4_1 : Int).toNat * 2, none⟩ = some (.int .i64 ((rd_T143 x3_1 x4_1).f0)) := hcc10 0 _ rfl; have hx10_1 : w11.cell? ⟨go10, (x4_1 : Int).toNat * 2 + 1, none⟩ = some (.string ((rd_T143 x3_1 x4_1).f1)) := hcc10 1 _ rfl; have hf10_0 : w11.frozen? ⟨go10, (x4_1 : Int).toNat * 2, none⟩ = false := hfr10 0; have hf10_1 : w11.frozen? ⟨go10, (x4_1 : Int).toNat * 2 + 1, none⟩ = false := hfr10 1; clear hcl10 hcc10 hfr10 hM10; replace p10 := eq_true p10; replace q10 := eq_true q10; have HX12 := Aside0.mk (show Kd.R k143 143 w11 w.heap.size (fun _ => True) (.slice (some ⟨go10, 0, none⟩) x3_1.length co10) x3_1 from B6x8_); obtain ⟨ce12, hcl12, hM12, hcc12, hfr12⟩ := Kd.R_elem HX12.out z143 (x4_1 : Int) (of_decide_eq_true B6x3_) (by have h_ : (x4_1 : Int) < ((x3_1.length : Int) : Int) := of_decide_eq_true B6x3_; first | exact h_ | (have e_ := (Kd.R_reads' HO_3.out).1; omega) | simpa using h_); obtain rfl := k143_openM hM12; have HP12 := Kd.R_seg HX12.out (x4_1 : Int) (of_decide_eq_true B6x3_) (by have h_ : (x4_1 : Int) < ((x3_1.length : Int) : Int) := of_decide_eq_true B6x3_; first | exact h_ | (have e_ := (Kd.R_reads' HO_3.out).1; omega) | simpa using h_) (seg := [.int .i64 t248, .string t249]) (j := 0) hcl12 hcc12 (show 2 ≤ 2 from (by decide)) (x' := (⟨t248, t249⟩ : S143)) (k143_mkM _ _ _ (⟨t248, t249⟩ : S143) ) (fun _ hk => hk); have hx12_0 := hcc12 0 _ rfl; (try simp only [show (k143).sz = 2 from rfl, Nat.mul_one, Nat.add_zero] at hx12_0); have hf12_0 := hfr12 0; (try simp only [show (k143).sz = 2 from rfl, Nat.mul_one, Nat.add_zero] at hf12_0); have hx12_1 := hcc12 1 _ rfl; (try simp only [show (k143).sz = 2 from rfl, Nat.mul_one, Nat.add_zero] at hx12_1); have hf12_1 := hfr12 1; (try simp only [show (k143).sz = 2 from rfl, Nat.mul_one, Nat.add_zero] at hf12_1); clear hcl12 hcc12 hfr12 hM12) | ((with_reducible refine gate_store (t := 143) (p := 21) rfl ?_); refine store_event (t := 143) (p := 21) (v := ?vo_w13) (w1 := ((w11.setCell ⟨go10, (x4_1 : Int).toNat * 2, none⟩ (.int .i64 t248)).setCell ⟨go10, (x4_1 : Int).toNat * 2 + 1, none⟩ (.string t249))) ?hg ?ho ?hn ?hr ?_; (case ho => rfl); (case hg => rfl); (case hn => rfl); (case hr => exact B6x4_); intro w13 hw; have hg : w11.grownBy w13 (some go10) := (by rw [hw]; exact HP12.2); have hp_ : Kd.R k143 143 w13 w.heap.size (fun _ => True) (.slice (some ⟨go10, 0, none⟩) x3_1.length co10) y250 := (by rw [hw, Ny250.out]; exact HP12.1); clear HP12; replace HO_3 := Aside0.mk (hp_); replace HB := Aside0.mk ((by rw [hw]; exact below_set (below_set (HB.out) GB10.out) GB10.out : Below w.heap.size w w13)); clear hg hw hp_))
    go_roundg k1
    case measure => have := HK1.out; omega
    case rel => exact ⟨(y250), (wrap64 (x4_1 + 1)), (be_), H', ⟨(by have := HK1.out; omega)⟩, ⟨B6x8_⟩, ⟨B6x1_⟩⟩
   ·rw [if_neg c6] at H
    have c6b0 : decide (x4_1 < (l0.length : Int)) = false := decide_eq_false c6
    clear c6
    obtain rfl := Option.some.inj H
    go_wp2
    go_ret
    exact ⟨_, by first | rfl | (simp [errW_none, errW_some] <;> rfl) | (simp [*, errW_none, errW_some] <;> rfl), by (with_reducible repeat (first | apply Kd.R_alloc | apply Kd.R_drewN | apply Kd.R_drew)); exact HO_3.out, by repeat (first | (with_reducible first | exact HB.out | apply below_alloc | apply pw_below_drewN | apply below_drew1) | exact HB.out)⟩

/-! ### laws_toStream: function 20 -/
def laws_toStream.f (k : Nat) (a0_0 : Int) (a0_1 : Int) (a0_2 : Int) (a0_3 : Int) (a0_4 : ByteArray) (a0_5 : Int) (a0_6 : Int) (a0_7 : Bool) (a0_8 : ByteArray) (l0_9 : List (S152)) (a0_10 : Bool) (a0_11 : Int) (a0_12 : Int) : Option (Int × Int × Int × Int × ByteArray × Int × Int × Bool × ByteArray × (List (S143)) × Bool × Int × Int) := (laws_toLateS.f k l0_9).bind fun t254 => (some (a0_0, a0_1, a0_2, a0_3, a0_4, a0_5, a0_6, a0_7, a0_8, t254, a0_10, a0_11, a0_12))
theorem laws_toStream.mono : ∀ a0 a1 a2 a3 a4 a5 a6 a7 a8 a9 a10 a11 a12 k, LeO (laws_toStream.f k a0 a1 a2 a3 a4 a5 a6 a7 a8 a9 a10 a11 a12) (laws_toStream.f (k + 1) a0 a1 a2 a3 a4 a5 a6 a7 a8 a9 a10 a11 a12) := by
 intro a0 a1 a2 a3 a4 a5 a6 a7 a8 a9 a10 a11 a12 k
 unfold laws_toStream.f
 repeat' first
   | (with_reducible exact laws_toLateS.mono _ _)
   | (with_reducible first | exact LeO.refl _ | exact LeO.none _ | refine LeO.ite ?_ ?_ | refine LeO.bind ?_ (fun _ => ?_))
   | exact laws_toLateS.mono _ _
set_option maxHeartbeats 8000000 in
set_option maxRecDepth 100000 in
theorem laws_toStream.calls (k : Nat) (a0_0 : Int) (a0_1 : Int) (a0_2 : Int) (a0_3 : Int) (a0_4 : ByteArray) (a0_5 : Int) (a0_6 : Int) (a0_7 : Bool) (a0_8 : ByteArray) (A0_9 : Option Addr) (c0_9 : Nat) (l0_9 : List (S152)) (a0_10 : Bool) (a0_11 : Int) (a0_12 : Int) (r1 : Int) (r2 : Int) (r3 : Int) (r4 : Int) (r5 : ByteArray) (r6 : Int) (r7 : Int) (r8 : Bool) (r9 : ByteArray) (r10 : List (S143)) (r11 : Bool) (r12 : Int) (r13 : Int) (w : World) (hr0_9 : Kd.C k152 w A0_9 l0_9.length l0_9) (hc0_9 : l0_9.length ≤ c0_9) (h : laws_toStream.f k a0_0 a0_1 a0_2 a0_3 a0_4 a0_5 a0_6 a0_7 a0_8 l0_9 a0_10 a0_11 a0_12 = some (r1, r2, r3, r4, r5, r6, r7, r8, r9, r10, r11, r12, r13)) :
  Calls Try.prog 20 #[.agg #[.int .i64 a0_0, .int .i64 a0_1, .int .i64 a0_2, .int .i64 a0_3, .string a0_4, .int .i64 a0_5, .int .i64 a0_6, .bool a0_7, .string a0_8, .slice A0_9 l0_9.length c0_9, .bool a0_10, .int .i64 a0_11, .int .i64 a0_12]] w fun e w' => ∃ v9_ : Value, e = .returned (.agg #[.int .i64 r1, .int .i64 r2, .int .i64 r3, .int .i64 r4, .string r5, .int .i64 r6, .int .i64 r7, .bool r8, .string r9, v9_, .bool r11, .int .i64 r12, .int .i64 r13]) ∧ Kd.R k143 143 w' w.heap.size (fun _ => True) v9_ r10 ∧ Below w.heap.size w w' := by
 have hu35 := Try.underlying35
 have hu39 := Try.underlying39
 have HR0_9 := Aside0.mk hr0_9
 have HC0_9 := Aside0.mk hc0_9
 clear hr0_9 hc0_9
 have HB := Aside0.mk (Below.refl w.heap.size w)
 have H : ((laws_toLateS.f k l0_9).bind fun t254 => (some (a0_0, a0_1, a0_2, a0_3, a0_4, a0_5, a0_6, a0_7, a0_8, t254, a0_10, a0_11, a0_12))) = some (r1, r2, r3, r4, r5, r6, r7, r8, r9, r10, r11, r12, r13) := h
 clear h
 replace H := bsi H
 obtain ⟨t254, A2, H⟩ := H
 (try dsimp only at H)
 simp only [Option.some.injEq, Prod.mk.injEq] at H
 obtain ⟨rfl, rfl, rfl, rfl, rfl, rfl, rfl, rfl, rfl, rfl, rfl, rfl, rfl⟩ := H
 go_enter Try.func20, Try.ntmps20
 go_wp2_with (first | ((with_reducible refine gate_dst (N := 1) rfl ?_); refine box_event ?hg (N := 1) ?hd (cs := #[.int .i64 a0_0, .int .i64 a0_1, .int .i64 a0_2, .int .i64 a0_3, .string a0_4, .int .i64 a0_5, .int .i64 a0_6, .bool a0_7, .string a0_8, .slice A0_9 l0_9.length c0_9, .bool a0_10, .int .i64 a0_11, .int .i64 a0_12]) (t := 35) ?hr ?_; (case hd => rfl); (case hg => rfl); (case hr => exact B6x4_); intro gb251 hg w3 hbox hb; have BK251 := Aside0.mk (hbox); have GW251 := Aside0.mk ((bs hg (below_size HB.out))); have GE251 := Aside0.mk ((bs hg (below_size HB.out))); replace HB := Aside0.mk (below_step B6x1_ hb); clear hb hbox hg) | ((with_reducible refine gate_dst (N := 2) rfl ?_); refine box_event ?hg (N := 2) ?hd (cs := #[.int .i64 0, .int .i64 0, .int .i64 0, .int .i64 0, .string (⟨#[]⟩ : ByteArray), .int .i64 0, .int .i64 0, .bool false, .string (⟨#[]⟩ : ByteArray), .slice none 0 0, .bool false, .int .i64 0, .int .i64 0]) (t := 39) ?hr ?_; (case hd => rfl); (case hg => rfl); (case hr => exact B6x4_); intro gb252 hg w4 hbox hb; have BK252 := Aside0.mk (hbox); have GW252 := Aside0.mk ((bs hg (below_size HB.out))); have GE252 := Aside0.mk ((bs hg (below_size HB.out))); replace HB := Aside0.mk (below_step (by repeat (first | (with_reducible first | exact HB.out | apply below_alloc | apply pw_below_drewN | apply below_drew1 | refine below_set ?_ GE251.out) | exact HB.out)) hb); have NB251_252 := Aside0.mk ((nl hg (blk_lt BK251.out))); have NB252_251 := Aside0.mk ((ng hg (blk_lt BK251.out))); replace BK251 := Aside0.mk (bb BK251.out hb); clear hb hbox hg) | ((with_reducible refine gate_dst (N := 3) rfl ?_); refine box_event ?hg (N := 3) ?hd (cs := #[.int .i64 0, .int .i64 0, .int .i64 0, .int .i64 0, .string (⟨#[]⟩ : ByteArray), .int .i64 0, .int .i64 0, .bool false, .string (⟨#[]⟩ : ByteArray), .slice none 0 0, .bool false, .int .i64 0, .int .i64 0]) (t := 39) ?hr ?_; (case hd => rfl); (case hg => rfl); (case hr => exact B6x4_); intro gb253 hg w5 hbox hb; have BK253 := Aside0.mk (hbox); have GW253 := Aside0.mk ((bs hg (below_size HB.out))); have GE253 := Aside0.mk ((bs hg (below_size HB.out))); replace HB := Aside0.mk (below_step (by repeat (first | (with_reducible first | exact HB.out | apply below_alloc | apply pw_below_drewN | apply below_drew1 | refine below_set ?_ GE251.out | refine below_set ?_ GE252.out) | exact HB.out)) hb); have NB251_253 := Aside0.mk ((nl hg (blk_lt BK251.out))); have NB253_251 := Aside0.mk ((ng hg (blk_lt BK251.out))); replace BK251 := Aside0.mk (bb BK251.out hb); have NB252_253 := Aside0.mk ((nl hg (blk_lt BK252.out))); have NB253_252 := Aside0.mk ((ng hg (blk_lt BK252.out))); replace BK252 := Aside0.mk (bb BK252.out hb); clear hb hbox hg; have hnb6 := NB251_252.out; have hnc6 := NB252_251.out; have hnb7 := NB251_253.out; have hnc7 := NB253_251.out; obtain ⟨hcz8_0, hcz8_1, hcz8_2, hcz8_3, hcz8_4, hcz8_5, hcz8_6, hcz8_7, hcz8_8, hcz8_9, hcz8_10, hcz8_11, hcz8_12⟩ := cl13 BK251.out; obtain ⟨hfz8_0, hfz8_1, hfz8_2, hfz8_3, hfz8_4, hfz8_5, hfz8_6, hfz8_7, hfz8_8, hfz8_9, hfz8_10, hfz8_11, hfz8_12⟩ := fr13 BK251.out; have hnb9 := NB253_252.out; have hnc9 := NB252_253.out; obtain ⟨hcz10_0, hcz10_1, hcz10_2, hcz10_3, hcz10_4, hcz10_5, hcz10_6, hcz10_7, hcz10_8, hcz10_9, hcz10_10, hcz10_11, hcz10_12⟩ := cl13 BK253.out; obtain ⟨hfz10_0, hfz10_1, hfz10_2, hfz10_3, hfz10_4, hfz10_5, hfz10_6, hfz10_7, hfz10_8, hfz10_9, hfz10_10, hfz10_11, hfz10_12⟩ := fr13 BK253.out) | ((with_reducible refine gate_store (t := 3) (p := 21) rfl ?_); refine store_event (t := 3) (p := 21) (v := ?vo_w11) (w1 := ((((((w5.setCell ⟨gb253, 0, none⟩ (.int .i64 a0_0)).setCell ⟨gb253, 1, none⟩ (.int .i64 a0_1)).setCell ⟨gb253, 2, none⟩ (.int .i64 a0_2)).setCell ⟨gb253, 3, none⟩ (.int .i64 a0_3)).setCell ⟨gb253, 4, none⟩ (.string a0_4)).setCell ⟨gb253, 5, none⟩ (.int .i64 a0_5))) ?hg ?ho ?hn ?hr ?_; (case ho => rfl); (case hg => rfl); (case hn => rfl); (case hr => exact B6x4_); intro w11 hw; replace BK251 : Aside0 (w11.heap[gb251]? = some (.cells #[.int .i64 a0_0, .int .i64 a0_1, .int .i64 a0_2, .int .i64 a0_3, .string a0_4, .int .i64 a0_5, .int .i64 a0_6, .bool a0_7, .string a0_8, .slice A0_9 l0_9.length c0_9, .bool a0_10, .int .i64 a0_11, .int .i64 a0_12] 35 (0, 0))) := ⟨(by rw [hw]; exact B6x5_)⟩; replace BK252 : Aside0 (w11.heap[gb252]? = some (.cells #[.int .i64 0, .int .i64 0, .int .i64 0, .int .i64 0, .string (⟨#[]⟩ : ByteArray), .int .i64 0, .int .i64 0, .bool false, .string (⟨#[]⟩ : ByteArray), .slice none 0 0, .bool false, .int .i64 0, .int .i64 0] 39 (0, 0))) := ⟨(by rw [hw]; exact B6x2_)⟩; replace BK253 : Aside0 (w11.heap[gb253]? = some (.cells #[.int .i64 a0_0, .int .i64 a0_1, .int .i64 a0_2, .int .i64 a0_3, .string a0_4, .int .i64 a0_5, .int .i64 0, .bool false, .string (⟨#[]⟩ : ByteArray), .slice none 0 0, .bool false, .int .i64 0, .int .i64 0] 39 (0, 0))) := ⟨(by rw [hw]; exact B6x7_)⟩; replace HB : Aside0 (Below w.heap.size w w11) := ⟨(by rw [hw]; exact B6x0_)⟩; clear hw; obtain ⟨hcz12_0, hcz12_1, hcz12_2, hcz12_3, hcz12_4, hcz12_5, hcz12_6, hcz12_7, hcz12_8, hcz12_9, hcz12_10, hcz12_11, hcz12_12⟩ := cl13 BK251.out; obtain ⟨hfz12_0, hfz12_1, hfz12_2, hfz12_3, hfz12_4, hfz12_5, hfz12_6, hfz12_7, hfz12_8, hfz12_9, hfz12_10, hfz12_11, hfz12_12⟩ := fr13 BK251.out; obtain ⟨hcz13_0, hcz13_1, hcz13_2, hcz13_3, hcz13_4, hcz13_5, hcz13_6, hcz13_7, hcz13_8, hcz13_9, hcz13_10, hcz13_11, hcz13_12⟩ := cl13 BK253.out; obtain ⟨hfz13_0, hfz13_1, hfz13_2, hfz13_3, hfz13_4, hfz13_5, hfz13_6, hfz13_7, hfz13_8, hfz13_9, hfz13_10, hfz13_11, hfz13_12⟩ := fr13 BK253.out) | ((with_reducible refine gate_callee (f := 72) rfl ?_); refine goesL_ (some 33) rfl rfl Try.func72 (by kernel_rfl) rfl #[.slice A0_9 l0_9.length c0_9] rfl B6x6_ ?_; (with_reducible refine (laws_toLateS.calls k _ _ l0_9 t254 _ ?side1 ?side2 A2.out).mono ?_); (case side1 => exact Kd.C_below HR0_9.out B6x0_); (case side2 => exact HC0_9.out); rintro e w14 ⟨v255, rfl, ho0, hb⟩; refine ⟨_, rfl, ?_⟩; have HO256 := Aside0.mk (Kd.R_lower ho0 (below_size B6x0_)); replace BK251 := Aside0.mk (blk_below (g := gb251) (o := .cells #[.int .i64 a0_0, .int .i64 a0_1, .int .i64 a0_2, .int .i64 a0_3, .string a0_4, .int .i64 a0_5, .int .i64 a0_6, .bool a0_7, .string a0_8, .slice A0_9 l0_9.length c0_9, .bool a0_10, .int .i64 a0_11, .int .i64 a0_12] 35 (0, 0)) B6x5_ hb); replace BK252 := Aside0.mk (blk_below (g := gb252) (o := .cells #[.int .i64 0, .int .i64 0, .int .i64 0, .int .i64 0, .string (⟨#[]⟩ : ByteArray), .int .i64 0, .int .i64 0, .bool false, .string (⟨#[]⟩ : ByteArray), .slice none 0 0, .bool false, .int .i64 0, .int .i64 0] 39 (0, 0)) B6x2_ hb); replace BK253 := Aside0.mk (blk_below (g := gb253) (o := .cells #[.int .i64 a0_0, .int .i64 a0_1, .int .i64 a0_2, .int .i64 a0_3, .string a0_4, .int .i64 a0_5, .int .i64 a0_6, .bool a0_7, .string a0_8, .slice none 0 0, .bool false, .int .i64 0, .int .i64 0] 39 (0, 0)) B6x7_ hb); replace HB := Aside0.mk (below_step B6x0_ hb); (try clear hb); (try clear ho0); obtain ⟨Ao15, co15, eo15⟩ := Kd.R_slice HO256.out; subst eo15; obtain ⟨hcz16_0, hcz16_1, hcz16_2, hcz16_3, hcz16_4, hcz16_5, hcz16_6, hcz16_7, hcz16_8, hcz16_9, hcz16_10, hcz16_11, hcz16_12⟩ := cl13 BK253.out; obtain ⟨hfz16_0, hfz16_1, hfz16_2, hfz16_3, hfz16_4, hfz16_5, hfz16_6, hfz16_7, hfz16_8, hfz16_9, hfz16_10, hfz16_11, hfz16_12⟩ := fr13 BK253.out; obtain ⟨hcz17_0, hcz17_1, hcz17_2, hcz17_3, hcz17_4, hcz17_5, hcz17_6, hcz17_7, hcz17_8, hcz17_9, hcz17_10, hcz17_11, hcz17_12⟩ := cl13 BK251.out; obtain ⟨hfz17_0, hfz17_1, hfz17_2, hfz17_3, hfz17_4, hfz17_5, hfz17_6, hfz17_7, hfz17_8, hfz17_9, hfz17_10, hfz17_11, hfz17_12⟩ := fr13 BK251.out; obtain ⟨hcz18_0, hcz18_1, hcz18_2, hcz18_3, hcz18_4, hcz18_5, hcz18_6, hcz18_7, hcz18_8, hcz18_9, hcz18_10, hcz18_11, hcz18_12⟩ := cl13 BK252.out; obtain ⟨hfz18_0, hfz18_1, hfz18_2, hfz18_3, hfz18_4, hfz18_5, hfz18_6, hfz18_7, hfz18_8, hfz18_9, hfz18_10, hfz18_11, hfz18_12⟩ := fr13 BK252.out) | ((with_reducible refine gate_store (t := 39) (p := 2) rfl ?_); refine store_event (t := 39) (p := 2) (v := ?vo_w19) (w1 := (((((((((((((((((w14.setCell ⟨gb253, 9, none⟩ (.slice Ao15 t254.length co15)).setCell ⟨gb253, 10, none⟩ (.bool a0_10)).setCell ⟨gb253, 11, none⟩ (.int .i64 a0_11)).setCell ⟨gb253, 12, none⟩ (.int .i64 a0_12)).setCell ⟨gb252, 0, none⟩ (.int .i64 a0_0)).setCell ⟨gb252, 1, none⟩ (.int .i64 a0_1)).setCell ⟨gb252, 2, none⟩ (.int .i64 a0_2)).setCell ⟨gb252, 3, none⟩ (.int .i64 a0_3)).setCell ⟨gb252, 4, none⟩ (.string a0_4)).setCell ⟨gb252, 5, none⟩ (.int .i64 a0_5)).setCell ⟨gb252, 6, none⟩ (.int .i64 a0_6)).setCell ⟨gb252, 7, none⟩ (.bool a0_7)).setCell ⟨gb252, 8, none⟩ (.string a0_8)).setCell ⟨gb252, 9, none⟩ (.slice Ao15 t254.length co15)).setCell ⟨gb252, 10, none⟩ (.bool a0_10)).setCell ⟨gb252, 11, none⟩ (.int .i64 a0_11)).setCell ⟨gb252, 12, none⟩ (.int .i64 a0_12))) ?hg ?ho ?hn ?hr ?_; (case ho => rfl); (case hg => rfl); (case hn => rfl); (case hr => exact B6x4_); intro w19 hw; replace HO256 : Aside0 (Kd.R k143 143 w19 w.heap.size (fun _ => True) (.slice Ao15 t254.length co15) t254) := ⟨(by rw [hw]; exact (by (with_reducible repeat (first | apply Kd.R_alloc | apply Kd.R_drewN | apply Kd.R_drew)); exact Kd.R_mono (Kd.R_far (p := ⟨gb252, 12, none⟩) (Kd.R_far (p := ⟨gb252, 11, none⟩) (Kd.R_far (p := ⟨gb252, 10, none⟩) (Kd.R_far (p := ⟨gb252, 9, none⟩) (Kd.R_far (p := ⟨gb252, 8, none⟩) (Kd.R_far (p := ⟨gb252, 7, none⟩) (Kd.R_far (p := ⟨gb252, 6, none⟩) (Kd.R_far (p := ⟨gb252, 5, none⟩) (Kd.R_far (p := ⟨gb252, 4, none⟩) (Kd.R_far (p := ⟨gb252, 3, none⟩) (Kd.R_far (p := ⟨gb252, 2, none⟩) (Kd.R_far (p := ⟨gb252, 1, none⟩) (Kd.R_far (p := ⟨gb252, 0, none⟩) (Kd.R_far (p := ⟨gb253, 12, none⟩) (Kd.R_far (p := ⟨gb253, 11, none⟩) (Kd.R_far (p := ⟨gb253, 10, none⟩) (Kd.R_far (p := ⟨gb253, 9, none⟩) (Kd.R_types (Kd.R_types HO256.out BK253.out (by decide)) BK252.out (by decide)) (fun _ hk => hk.1.2) (.slice Ao15 t254.length co15)) (fun _ hk => hk.1.2) (.bool a0_10)) (fun _ hk => hk.1.2) (.int .i64 a0_11)) (fun _ hk => hk.1.2) (.int .i64 a0_12)) (fun _ hk => hk.2) (.int .i64 a0_0)) (fun _ hk => hk.2) (.int .i64 a0_1)) (fun _ hk => hk.2) (.int .i64 a0_2)) (fun _ hk => hk.2) (.int .i64 a0_3)) (fun _ hk => hk.2) (.string a0_4)) (fun _ hk => hk.2) (.int .i64 a0_5)) (fun _ hk => hk.2) (.int .i64 a0_6)) (fun _ hk => hk.2) (.bool a0_7)) (fun _ hk => hk.2) (.string a0_8)) (fun _ hk => hk.2) (.slice Ao15 t254.length co15)) (fun _ hk => hk.2) (.bool a0_10)) (fun _ hk => hk.2) (.int .i64 a0_11)) (fun _ hk => hk.2) (.int .i64 a0_12)) (fun _ hk => trivial)))⟩; replace BK251 : Aside0 (w19.heap[gb251]? = some (.cells #[.int .i64 a0_0, .int .i64 a0_1, .int .i64 a0_2, .int .i64 a0_3, .string a0_4, .int .i64 a0_5, .int .i64 a0_6, .bool a0_7, .string a0_8, .slice A0_9 l0_9.length c0_9, .bool a0_10, .int .i64 a0_11, .int .i64 a0_12] 35 (0, 0))) := ⟨(by rw [hw]; exact (by (repeat (with_reducible (first | exact BK251.out | apply blk_drewN | apply blk_drew | apply blk_alloc | apply blk_put | apply bf NB251_252.out | apply bf NB251_253.out))); repeat (first | exact BK251.out | (simp only [List.setIfInBounds_toArray, List.set_cons_zero, List.set_cons_succ]; with_reducible rfl) | rfl)))⟩; replace BK252 : Aside0 (w19.heap[gb252]? = some (.cells #[.int .i64 a0_0, .int .i64 a0_1, .int .i64 a0_2, .int .i64 a0_3, .string a0_4, .int .i64 a0_5, .int .i64 a0_6, .bool a0_7, .string a0_8, .slice Ao15 t254.length co15, .bool a0_10, .int .i64 a0_11, .int .i64 a0_12] 39 (0, 0))) := ⟨(by rw [hw]; exact B6x2_)⟩; replace BK253 : Aside0 (w19.heap[gb253]? = some (.cells #[.int .i64 a0_0, .int .i64 a0_1, .int .i64 a0_2, .int .i64 a0_3, .string a0_4, .int .i64 a0_5, .int .i64 a0_6, .bool a0_7, .string a0_8, .slice Ao15 t254.length co15, .bool a0_10, .int .i64 a0_11, .int .i64 a0_12] 39 (0, 0))) := ⟨(by rw [hw]; exact (by (repeat (with_reducible (first | exact BK253.out | apply blk_drewN | apply blk_drew | apply blk_alloc | apply blk_put | apply bf NB253_252.out))); repeat (first | exact BK253.out | (simp only [List.setIfInBounds_toArray, List.set_cons_zero, List.set_cons_succ]; with_reducible rfl) | rfl)))⟩; replace HB : Aside0 (Below w.heap.size w w19) := ⟨(by rw [hw]; exact B6x0_)⟩; clear hw))
 refine bodyPost_ret (results_cell_row rfl _ _ gb252 39 #[.int .i64 a0_0, .int .i64 a0_1, .int .i64 a0_2, .int .i64 a0_3, .string a0_4, .int .i64 a0_5, .int .i64 a0_6, .bool a0_7, .string a0_8, .slice Ao15 t254.length co15, .bool a0_10, .int .i64 a0_11, .int .i64 a0_12] (0, 0) _ rfl (by (with_reducible repeat (first | refine blk_drewN ?_ _ | refine blk_drew ?_ | refine blk_alloc ?_ _)); exact BK252.out) Try.underlying39 rfl (by kernel_rfl)) rfl ?_
 exact ⟨_, by first | rfl | (simp [errW_none, errW_some] <;> rfl) | (simp [*, errW_none, errW_some] <;> rfl), by (with_reducible repeat (first | apply Kd.R_alloc | apply Kd.R_drewN | apply Kd.R_drew)); exact HO256.out, by repeat (first | (with_reducible first | exact HB.out | apply below_alloc | apply pw_below_drewN | apply below_drew1 | refine below_set ?_ GE251.out | refine below_set ?_ GE252.out | refine below_set ?_ GE253.out) | exact HB.out)⟩

/-! ### impl_within: function 74 -/
def impl_within.f (a0 : Int) (a1 : Int) (a2 : Int) : Option (Bool) := if a0 ≥ a1 then (some (decide (a0 ≤ a2))) else (some false)
set_option maxHeartbeats 8000000 in
set_option maxRecDepth 100000 in
theorem impl_within.calls (a0 : Int) (a1 : Int) (a2 : Int) (r : Bool) (w : World) (h : impl_within.f a0 a1 a2 = some r) :
  Calls Try.prog 74 #[.int .i64 a0, .int .i64 a1, .int .i64 a2] w fun e w' => e = .returned (.bool r) ∧ Drawn0 w w' := by
 have H : (if a0 ≥ a1 then (some (decide (a0 ≤ a2))) else (some false)) = some r := h
 clear h
 by_cases c4 : a0 ≥ a1
 ·rw [if_pos c4] at H
  have c4b0 : decide (a1 ≤ a0) = true := decide_eq_true c4
  clear c4
  obtain rfl := Option.some.inj H
  go_enter Try.func74, Try.ntmps74
  go_wp2
  go_ret
  exact ⟨B6x10_, B6x9_⟩
 ·rw [if_neg c4] at H
  have c4b0 : decide (a1 ≤ a0) = false := decide_eq_false c4
  clear c4
  obtain rfl := Option.some.inj H
  go_enter Try.func74, Try.ntmps74
  go_wp2
  go_ret
  exact ⟨B6x10_, B6x9_⟩

/-! ### impl_isWord: function 97 -/
def impl_isWord.f (a0 : Int) : Option (Bool) := (impl_within.f a0 0 65535).bind fun t257 => (some t257)
set_option maxHeartbeats 8000000 in
set_option maxRecDepth 100000 in
theorem impl_isWord.calls (a0 : Int) (r : Bool) (w : World) (h : impl_isWord.f a0 = some r) :
  Calls Try.prog 97 #[.int .i64 a0] w fun e w' => e = .returned (.bool r) ∧ Drawn0 w w' := by
 have H : ((impl_within.f a0 0 65535).bind fun t257 => (some t257)) = some r := h
 clear h
 replace H := bsi H
 obtain ⟨t257, A2, H⟩ := H
 (try dsimp only at H)
 obtain rfl := Option.some.inj H
 go_enter Try.func97, Try.ntmps97
 go_wp2_with (first | ((with_reducible refine gate_callee (f := 74) rfl ?_); refine goesL_ (some 4) rfl rfl Try.func74 (by kernel_rfl) rfl #[.int .i64 a0, .int .i64 0, .int .i64 65535] rfl B6x6_ ?_; (with_reducible refine (impl_within.calls a0 0 65535 t257 _ A2.out).mono ?_); rintro e w' ⟨rfl, ⟨nd, rfl⟩⟩; refine ⟨_, rfl, ?_⟩))
 go_ret
 exact ⟨B6x10_, B6x9_⟩

end Go.Proofs.Ytmknnoeggkgkgaa.QFnExactPush
