/- Functions that a law reaches, as functions of Lean, and the walks that show that the calls come to their answers: written by a program of this project out of the translation. No condition. -/
import Derived.Test.YthgjcijcmacpmaaQFnExactEncodex0
import Derived.Test.YthgjcijcmacpmaaQFnExactEncodex8
import Derived.Test.YthgjcijcmacpmaaVFnExactEncodeShort3
import Derived.Test.YthgjcijcmacpmaaVFnExactEncodeShort2
import Derived.Test.YthgjcijcmacpmaaVFnExactEncodeShort
namespace Go.Proofs.Ythgjcijcmacpmaa.QFnExactEncode
open Go.RowKit Go.Proofs.YthgjcijcmacpmaaW.PrintWords Go.Proofs.YthgjcijcmacpmaaW.PrintLast Go.Proofs.YthgjcijcmacpmaaW.PrintMore Go.Proofs.Ythgjcijcmacpmaa.Short
attribute [local go_sem] max2_int min2_int max_two min_two max_three min_three max_four min_four   -- for this text's walks alone
set_option linter.unusedVariables false
set_option linter.unusedSimpArgs false

theorem B10x0_ {p : Prop} (h : p := by repeat (first | (with_reducible first | exact HB.out | apply below_alloc | apply pw_below_drewN | apply below_drew1 | refine below_set ?_ GE317.out) | exact HB.out)) : p := h
theorem B10x1_ {p : Prop} (h : p := by repeat (first | (with_reducible first | exact HB.out | apply below_alloc | apply pw_below_drewN | apply below_drew1) | exact HB.out)) : p := h
theorem B10x2_ {p : Prop} (h : p := by (with_reducible repeat (first | refine blk_drewN ?_ _ | refine blk_drew ?_ | refine blk_alloc ?_ _)); exact BK317.out) : p := h
theorem B10x3_ {p : Prop} (h : p := by (try simp only [List.map_toArray, List.map_cons, List.map_nil]); first | done | rfl | (simp only [List.length_drop, List.length_take]; rfl)) : p := h
theorem B10x4_ {p : Prop} (h : p := by kernel_rfl) : p := h
theorem B10x5_ {p : Prop} (h : p := by (with_reducible repeat (first | apply Kd.R_alloc | apply Kd.R_drewN | apply Kd.R_drew)); exact HO322.out) : p := h
theorem B10x6_ {p : Prop} (h : p := by (with_reducible repeat (first | apply Kd.R_alloc | apply Kd.R_drewN | apply Kd.R_drew)); exact (Q_HO326 h0_)) : p := h
theorem B10x7_ {p : Prop} (h : p := by (with_reducible repeat (first | apply Kd.R_alloc | apply Kd.R_drewN | apply Kd.R_drew)); exact HO326.out) : p := h
theorem B10x8_ {p : Prop} (h : p := by first | (with_reducible assumption) | assumption) : p := h
theorem B10x9_ {p : Prop} (h : p := by (with_reducible repeat (first | apply Kd.R_alloc | apply Kd.R_drewN | apply Kd.R_drew)); exact (Q_HO322 h0_)) : p := h
theorem B10x10_ {p : Prop} (h : p := by (with_reducible repeat (first | apply Kd.R_alloc | apply Kd.R_drewN | apply Kd.R_drew)); exact HO_4.out) : p := h
/-! ### impl_byteTexts: function 99 -/
def impl_byteTexts.l0 : Nat → List Int → List Int → Int → Int → Option (ByteArray)
 | 0, _, _, _, _ => none
 | k + 1, x3, x7, x8, x9 => if x9 < x8 then (if 0 ≤ x9 then (if x9 < (x7.length : Int) then (if x3.length < 140737488355328 then (impl_byteTexts.l0 k (x3 ++ [(rd x7 x9) % 256]) x7 x8 (wrap64 (x9 + 1))) else (none)) else (none)) else (none)) else (some (strOfNums x3))
def impl_byteTexts.f (k : Nat) (l0 : List Int) : Option (ByteArray) := impl_byteTexts.l0 k (([] : List Int)) l0 (l0.length : Int) 0
theorem impl_byteTexts.mono_l : ∀ k, (∀ y0 y1 y2 y3, LeO (impl_byteTexts.l0 k y0 y1 y2 y3) (impl_byteTexts.l0 (k + 1) y0 y1 y2 y3))
 | 0 => fun _ _ _ _ r h => by simp [impl_byteTexts.l0] at h
 | k + 1 => by
  have ih0 := impl_byteTexts.mono_l k
  ·intro y0 y1 y2 y3
   unfold impl_byteTexts.l0
   repeat' first
   | (with_reducible exact ih0 _ _ _ _)
   | (with_reducible exact LeO.refl _)
   | (with_reducible exact LeO.none _)
   | (with_reducible refine LeO.ite ?_ ?_)
   | (with_reducible refine LeO.bind ?_ (fun _ => ?_))
   | exact ih0 _ _ _ _
   | exact LeO.none _
   | refine LeO.ite ?_ ?_
   | refine LeO.bind ?_ (fun _ => ?_)
theorem impl_byteTexts.mono : ∀ a0 k, LeO (impl_byteTexts.f k a0) (impl_byteTexts.f (k + 1) a0) := by
 intro a0 k
 have ih0 := impl_byteTexts.mono_l k
 unfold impl_byteTexts.f
 repeat' first
   | (with_reducible exact ih0 _ _ _ _)
   | (with_reducible exact LeO.refl _)
   | (with_reducible exact LeO.none _)
   | (with_reducible refine LeO.ite ?_ ?_)
   | (with_reducible refine LeO.bind ?_ (fun _ => ?_))
   | exact ih0 _ _ _ _
   | exact LeO.none _
   | refine LeO.ite ?_ ?_
   | refine LeO.bind ?_ (fun _ => ?_)
set_option maxHeartbeats 8000000 in
set_option maxRecDepth 100000 in
theorem impl_byteTexts.calls (k : Nat) (A0 : Option Addr) (c0 : Nat) (l0 : List Int) (r : ByteArray) (w : World) (hr0 : Kd.C (Kd.int .i64) w A0 l0.length l0) (hc0 : l0.length ≤ c0) (h : impl_byteTexts.f k l0 = some r) :
  Calls Try.prog 99 #[.slice A0 l0.length c0] w fun e w' => e = .returned (.string r) ∧ Below w.heap.size w w' := by
 have HR0 := Aside0.mk hr0
 have HC0 := Aside0.mk hc0
 clear hr0 hc0
 have HB := Aside0.mk (Below.refl w.heap.size w)
 have H : (impl_byteTexts.l0 k (([] : List Int)) l0 (l0.length : Int) 0) = some r := h
 clear h
 obtain ⟨y297, hy297⟩ : ∃ y_ : List Int, y_ = (([] : List Int)) := ⟨_, rfl⟩
 replace H : (impl_byteTexts.l0 k y297 l0 (l0.length : Int) 0) = some r := by first | (rw [hy297]; with_reducible exact H) | (have H2_ := (Option.bind_some _ _).symm.trans H; rw [hy297]; with_reducible exact H2_) | (have H2_ := (Option.bind_some _ _).symm.trans H; with_reducible exact H2_) | with_reducible exact H | (rw [hy297]; exact H) | exact H
 have Ny297 := Aside0.mk hy297
 clear hy297
 have H' := Aside0.mk H
 clear H
 go_enter Try.func99, Try.ntmps99
 go_wp2_with (first | ((with_reducible refine gate_dst (N := 6) rfl ?_); refine Kd.R_lit (Kd.int .u8) _ 5 ?hg (N := 6) ?hd (xs := ([] : List Int)) (inner := []) (ok := fun _ => True) (okp := fun _ => True) ?hr ?hp (fun _ hk => hk) trivial (Below.refl _ _) (Nat.le_refl _) (by simp) ?_; (case hd => rfl); (case hg => rfl); (case hr => first | (go_simp; done) | (go_simp; rfl)); (case hp => exact (Reps.none _ _)); intro v298 w2 ho3 hb hg_ hnew_; clear hg_ hnew_; (first | rw [← Ny297.out] at ho3 | (simp only [Int.reduceToNat] at ho3; rw [← Ny297.out] at ho3)); have n0_ := Aside0.mk (Kd.R_lower ho3 (below_size B10x1_)); have n1_ := Aside0.mk (below_step B10x1_ hb); clear HB; have HO299 := n0_; have HB := n1_; clear n0_ n1_; clear hb ho3))
 go_loopg [3, 9] k (fun kq v3 v9 w' => ∃ (x3_1 : List Int) (x9_1 : Int), v9 = .int .i64 x9_1 ∧ Aside0 (impl_byteTexts.l0 kq x3_1 l0 (l0.length : Int) x9_1 = some r) ∧ Aside0 (kq ≤ k) ∧ Aside0 (Kd.R (Kd.int .u8) 5 w' w.heap.size (fun _ => True) v3 x3_1) ∧ Aside0 (Below w.heap.size w w'))
 case atStart => exact ⟨(y297), (0), (be_), H', ⟨Nat.le_refl _⟩, ⟨by (with_reducible repeat (first | apply Kd.R_alloc | apply Kd.R_drewN | apply Kd.R_drew)); exact HO299.out⟩, ⟨by repeat (first | (with_reducible first | exact HB.out | apply below_alloc | apply pw_below_drewN | apply below_drew1) | exact HB.out)⟩⟩
 case round =>
  clear H'
  try clear p2
  obtain ⟨x3_1, x9_1, rfl, HA, HK1, HO_3, HB⟩ := hrel
  cases gk with
  | zero => exact absurd HA.out (by simp [impl_byteTexts.l0])
  | succ k1 =>
   have H := HA.out
   clear HA
   simp only [impl_byteTexts.l0] at H
   by_cases c4 : x9_1 < (l0.length : Int)
   ·rw [if_pos c4] at H
    have c4b0 : decide (x9_1 < (l0.length : Int)) = true := decide_eq_true c4
    clear c4
    by_cases c5 : 0 ≤ x9_1
    ·rw [if_pos c5] at H
     have c5b0 : decide (0 ≤ x9_1) = true := decide_eq_true c5
     clear c5
     by_cases c6 : x9_1 < (l0.length : Int)
     ·rw [if_pos c6] at H
      have c6b0 : decide (x9_1 < (l0.length : Int)) = true := decide_eq_true c6
      clear c6
      by_cases c7 : x3_1.length < 140737488355328
      ·rw [if_pos c7] at H
       have LMc7 := Aside0.mk c7
       clear c7
       obtain ⟨y301, hy301⟩ : ∃ y_ : List Int, y_ = (x3_1 ++ [(rd l0 x9_1) % 256]) := ⟨_, rfl⟩
       replace H : (impl_byteTexts.l0 k1 y301 l0 (l0.length : Int) (wrap64 (x9_1 + 1))) = some r := by first | (rw [hy301]; with_reducible exact H) | (have H2_ := (Option.bind_some _ _).symm.trans H; rw [hy301]; with_reducible exact H2_) | (have H2_ := (Option.bind_some _ _).symm.trans H; with_reducible exact H2_) | with_reducible exact H | (rw [hy301]; exact H) | exact H
       have Ny301 := Aside0.mk hy301
       clear hy301
       have H' := Aside0.mk H
       clear H
       have p300 : 0 ≤ (x9_1 : Int) := of_decide_eq_true B10x8_
       have q300 : x9_1 < (l0.length : Int) := of_decide_eq_true B10x8_
       obtain ⟨ad300, e300, hx300_0⟩ := Kd.at_int HR0.out x9_1 p300 q300
       cases e300
       replace hx300_0 := (HB.out.cell (World.block_lt_of_cell? w _ hx300_0)).trans hx300_0
       replace p300 := eq_true p300
       replace q300 := eq_true q300
       go_wp2_with (first | ((with_reducible refine gate_builtin (b := .append) (xs := #[.tmp 13, .tmp 16]) rfl ?_); at_builtin; refine Kd.R_append (Kd.int .u8) (w0 := w) w.heap.size rfl (.tmp 13) (.tmp 16) 43 5 (.int .u8 0) 1 rfl Try.underlying43 info5 rfl (by decide) (by omega) u3 x3_1 ((rd l0 x9_1) % 256) [.int .u8 ((rd l0 x9_1) % 256)] (fun _ => True) (fun _ => False) rfl rfl ?aP (fun _ hk => hk.elim) ?aF ?aO ?aB ?aS ?aL ?_; (case aP => exact rfl); (case aB => exact B10x1_); (case aF => exact (fun _ _ => trivial)); (case aO => exact (by (with_reducible repeat (first | apply Kd.R_alloc | apply Kd.R_drewN | apply Kd.R_drew)); exact HO_3.out)); (case aS => exact (below_size B10x1_)); (case aL => have := LMc7.out; omega); intro v302 w8 ho hb hg hat; rw [← Ny301.out] at ho; have n0_ := Aside0.mk (hb); have n1_ := Aside0.mk (ho); clear HB; clear HO_3; have HB := n0_; have HO303 := n1_; clear n0_ n1_; clear ho hb hg hat))
       go_roundg k1
       case measure => have := HK1.out; omega
       case rel => exact ⟨(y301), (wrap64 (x9_1 + 1)), (be_), H', ⟨by have := HK1.out; omega⟩, ⟨by (with_reducible repeat (first | apply Kd.R_alloc | apply Kd.R_drewN | apply Kd.R_drew)); exact HO303.out⟩, ⟨by repeat (first | (with_reducible first | exact HB.out | apply below_alloc | apply pw_below_drewN | apply below_drew1) | exact HB.out)⟩⟩
      ·rw [if_neg c7] at H
       exact absurd H (by simp)
     ·exact absurd H (by exfalso; (try have h0_ := of_decide_eq_true c4b0); (try have g0_ := c4); omega)
    ·rw [if_neg c5] at H
     exact absurd H (by simp)
   ·rw [if_neg c4] at H
    have c4b0 : decide (x9_1 < (l0.length : Int)) = false := decide_eq_false c4
    clear c4
    obtain rfl := Option.some.inj H
    have hcv9 := own_string (P := Try.prog) Try.underlying43 Try.underlying5 Try.underlying9 (Kd.own_of_R HO_3.out)
    go_wp2
    go_ret
    exact ⟨by first | rfl | (simp [errW_none, errW_some] <;> rfl) | (simp [*, errW_none, errW_some] <;> rfl), by repeat (first | (with_reducible first | exact HB.out | apply below_alloc | apply pw_below_drewN | apply below_drew1) | exact HB.out)⟩

/-! ### impl_VarText: function 145 -/
def impl_VarText.l0 : Nat → Int → List Int → Option (ByteArray × Bool)
 | 0, _, _ => none
 | k + 1, x0, x4 => if x0 > 127 then (if x4.length < 140737488355328 then (impl_VarText.l0 k (wrap64 (Int.tdiv x0 128)) (x4 ++ [(wrap64 ((Int.tmod x0 128) + 128)) % 256])) else (none)) else (if x4.length < 140737488355328 then (some (strOfNums (x4 ++ [(x0) % 256]), true)) else (none))
def impl_VarText.f (k : Nat) (a0 : Int) : Option (ByteArray × Bool) := (impl_within.f a0 0 1000000000).bind fun t304 => (if t304 = true then (impl_VarText.l0 k a0 (([] : List Int))) else (some ((⟨#[]⟩ : ByteArray), false)))
theorem impl_VarText.mono_l : ∀ k, (∀ y0 y1, LeO (impl_VarText.l0 k y0 y1) (impl_VarText.l0 (k + 1) y0 y1))
 | 0 => fun _ _ r h => by simp [impl_VarText.l0] at h
 | k + 1 => by
  have ih0 := impl_VarText.mono_l k
  ·intro y0 y1
   unfold impl_VarText.l0
   repeat' first
   | (with_reducible exact ih0 _ _)
   | (with_reducible exact LeO.refl _)
   | (with_reducible exact LeO.none _)
   | (with_reducible refine LeO.ite ?_ ?_)
   | (with_reducible refine LeO.bind ?_ (fun _ => ?_))
   | exact ih0 _ _
   | exact LeO.none _
   | refine LeO.ite ?_ ?_
   | refine LeO.bind ?_ (fun _ => ?_)
theorem impl_VarText.mono : ∀ a0 k, LeO (impl_VarText.f k a0) (impl_VarText.f (k + 1) a0) := by
 intro a0 k
 have ih0 := impl_VarText.mono_l k
 unfold impl_VarText.f
 repeat' first
   | (with_reducible exact ih0 _ _)
   | (with_reducible exact LeO.refl _)
   | (with_reducible exact LeO.none _)
   | (with_reducible refine LeO.ite ?_ ?_)
   | (with_reducible refine LeO.bind ?_ (fun _ => ?_))
   | exact ih0 _ _
   | exact LeO.none _
   | refine LeO.ite ?_ ?_
   | refine LeO.bind ?_ (fun _ => ?_)
set_option maxHeartbeats 8000000 in
set_option maxRecDepth 100000 in
theorem impl_VarText.calls (k : Nat) (a0 : Int) (r1 : ByteArray) (r2 : Bool) (w : World) (h : impl_VarText.f k a0 = some (r1, r2)) :
  Calls Try.prog 145 #[.int .i64 a0] w fun e w' => e = .returned (.tuple #[.string r1, .bool r2]) ∧ Below w.heap.size w w' := by
 have HB := Aside0.mk (Below.refl w.heap.size w)
 have H : ((impl_within.f a0 0 1000000000).bind fun t304 => (if t304 = true then (impl_VarText.l0 k a0 (([] : List Int))) else (some ((⟨#[]⟩ : ByteArray), false)))) = some (r1, r2) := h
 clear h
 replace H := Option.bind_eq_some_iff.mp H
 obtain ⟨t304, A20, H⟩ := H
 (try dsimp only at H)
 have A2 := Aside0.mk A20
 clear A20
 by_cases c3 : t304 = true
 ·subst c3
  rw [if_pos rfl] at H
  obtain ⟨y305, hy305⟩ : ∃ y_ : List Int, y_ = (([] : List Int)) := ⟨_, rfl⟩
  replace H : (impl_VarText.l0 k a0 y305) = some (r1, r2) := by first | (rw [hy305]; with_reducible exact H) | (have H2_ := (Option.bind_some _ _).symm.trans H; rw [hy305]; with_reducible exact H2_) | (have H2_ := (Option.bind_some _ _).symm.trans H; with_reducible exact H2_) | with_reducible exact H | (rw [hy305]; exact H) | exact H
  have Ny305 := Aside0.mk hy305
  clear hy305
  have H' := Aside0.mk H
  clear H
  go_enter Try.func145, Try.ntmps145
  go_wp2_with (first | ((with_reducible refine gate_callee (f := 68) rfl ?_); refine goesL_ (some 6) rfl rfl Try.func68 B10x4_ rfl #[.int .i64 a0, .int .i64 0, .int .i64 1000000000] rfl B10x3_ ?_; (with_reducible refine (impl_within.calls a0 0 1000000000 true _ A2.out).mono ?_); rintro e w' ⟨rfl, ⟨nd, rfl⟩⟩; refine ⟨_, rfl, ?_⟩) | ((with_reducible refine gate_dst (N := 8) rfl ?_); refine Kd.R_lit (Kd.int .u8) _ 5 ?hg (N := 8) ?hd (xs := ([] : List Int)) (inner := []) (ok := fun _ => True) (okp := fun _ => True) ?hr ?hp (fun _ hk => hk) trivial (Below.refl _ _) (Nat.le_refl _) (by simp) ?_; (case hd => rfl); (case hg => rfl); (case hr => first | (go_simp; done) | (go_simp; rfl)); (case hp => exact (Reps.none _ _)); intro v306 w4 ho5 hb hg_ hnew_; clear hg_ hnew_; (first | rw [← Ny305.out] at ho5 | (simp only [Int.reduceToNat] at ho5; rw [← Ny305.out] at ho5)); have n0_ := Aside0.mk (Kd.R_lower ho5 (below_size B10x1_)); have n1_ := Aside0.mk (below_step B10x1_ hb); clear HB; have HO307 := n0_; have HB := n1_; clear n0_ n1_; clear hb ho5))
  go_loopg [0, 4] k (fun kq v0 v4 w' => ∃ (x0_1 : Int) (x4_1 : List Int), v0 = .int .i64 x0_1 ∧ Aside0 (impl_VarText.l0 kq x0_1 x4_1 = some (r1, r2)) ∧ Aside0 (kq ≤ k) ∧ Aside0 (Kd.R (Kd.int .u8) 5 w' w.heap.size (fun _ => True) v4 x4_1) ∧ Aside0 (Below w.heap.size w w'))
  case atStart => exact ⟨(a0), (y305), (be_), H', ⟨Nat.le_refl _⟩, ⟨by (with_reducible repeat (first | apply Kd.R_alloc | apply Kd.R_drewN | apply Kd.R_drew)); exact HO307.out⟩, ⟨by repeat (first | (with_reducible first | exact HB.out | apply below_alloc | apply pw_below_drewN | apply below_drew1) | exact HB.out)⟩⟩
  case round =>
   clear H'
   try clear c1
   try clear p2
   try clear c3
   obtain ⟨x0_1, x4_1, rfl, HA, HK1, HO_4, HB⟩ := hrel
   cases gk with
   | zero => exact absurd HA.out (by simp [impl_VarText.l0])
   | succ k1 =>
    have H := HA.out
    clear HA
    simp only [impl_VarText.l0] at H
    by_cases c6 : x0_1 > 127
    ·rw [if_pos c6] at H
     have c6b0 : decide (127 < x0_1) = true := decide_eq_true c6
     clear c6
     by_cases c7 : x4_1.length < 140737488355328
     ·rw [if_pos c7] at H
      have LMc7 := Aside0.mk c7
      clear c7
      obtain ⟨y308, hy308⟩ : ∃ y_ : List Int, y_ = (x4_1 ++ [(wrap64 ((Int.tmod x0_1 128) + 128)) % 256]) := ⟨_, rfl⟩
      replace H : (impl_VarText.l0 k1 (wrap64 (Int.tdiv x0_1 128)) y308) = some (r1, r2) := by first | (rw [hy308]; with_reducible exact H) | (have H2_ := (Option.bind_some _ _).symm.trans H; rw [hy308]; with_reducible exact H2_) | (have H2_ := (Option.bind_some _ _).symm.trans H; with_reducible exact H2_) | with_reducible exact H | (rw [hy308]; exact H) | exact H
      have Ny308 := Aside0.mk hy308
      clear hy308
      have H' := Aside0.mk H
      clear H
      go_wp2_with (first | ((with_reducible refine gate_builtin (b := .append) (xs := #[.tmp 11, .tmp 16]) rfl ?_); at_builtin; refine Kd.R_append (Kd.int .u8) (w0 := w) w.heap.size rfl (.tmp 11) (.tmp 16) 43 5 (.int .u8 0) 1 rfl Try.underlying43 info5 rfl (by decide) (by omega) u4 x4_1 ((wrap64 ((Int.tmod x0_1 128) + 128)) % 256) [.int .u8 ((wrap64 ((Int.tmod x0_1 128) + 128)) % 256)] (fun _ => True) (fun _ => False) rfl rfl ?aP (fun _ hk => hk.elim) ?aF ?aO ?aB ?aS ?aL ?_; (case aP => exact rfl); (case aB => exact B10x1_); (case aF => exact (fun _ _ => trivial)); (case aO => exact B10x10_); (case aS => exact (below_size B10x1_)); (case aL => have := LMc7.out; omega); intro v309 w8 ho hb hg hat; rw [← Ny308.out] at ho; have n0_ := Aside0.mk (hb); have n1_ := Aside0.mk (ho); clear HB; clear HO_4; have HB := n0_; have HO310 := n1_; clear n0_ n1_; clear ho hb hg hat))
      go_roundg k1
      case measure => have := HK1.out; omega
      case rel => exact ⟨(wrap64 (Int.tdiv x0_1 128)), (y308), (be_), H', ⟨by have := HK1.out; omega⟩, ⟨by (with_reducible repeat (first | apply Kd.R_alloc | apply Kd.R_drewN | apply Kd.R_drew)); exact HO310.out⟩, ⟨by repeat (first | (with_reducible first | exact HB.out | apply below_alloc | apply pw_below_drewN | apply below_drew1) | exact HB.out)⟩⟩
     ·rw [if_neg c7] at H
      exact absurd H (by simp)
    ·rw [if_neg c6] at H
     have c6b0 : decide (127 < x0_1) = false := decide_eq_false c6
     clear c6
     by_cases c9 : x4_1.length < 140737488355328
     ·rw [if_pos c9] at H
      have LMc9 := Aside0.mk c9
      clear c9
      obtain ⟨y311, hy311⟩ : ∃ y_ : List Int, y_ = (x4_1 ++ [(x0_1) % 256]) := ⟨_, rfl⟩
      replace H : (some (strOfNums y311, true)) = some (r1, r2) := by first | (rw [hy311]; with_reducible exact H) | (have H2_ := (Option.bind_some _ _).symm.trans H; rw [hy311]; with_reducible exact H2_) | (have H2_ := (Option.bind_some _ _).symm.trans H; with_reducible exact H2_) | with_reducible exact H | (rw [hy311]; exact H) | exact H
      have Ny311 := Aside0.mk hy311
      clear hy311
      simp only [Option.some.injEq, Prod.mk.injEq] at H
      obtain ⟨rfl, rfl⟩ := H
      go_wp2_with (first | ((with_reducible refine gate_builtin (b := .append) (xs := #[.tmp 20, .tmp 23]) rfl ?_); at_builtin; refine Kd.R_append (Kd.int .u8) (w0 := w) w.heap.size rfl (.tmp 20) (.tmp 23) 43 5 (.int .u8 0) 1 rfl Try.underlying43 info5 rfl (by decide) (by omega) u4 x4_1 ((x0_1) % 256) [.int .u8 ((x0_1) % 256)] (fun _ => True) (fun _ => False) rfl rfl ?aP (fun _ hk => hk.elim) ?aF ?aO ?aB ?aS ?aL ?_; (case aP => exact rfl); (case aB => exact B10x1_); (case aF => exact (fun _ _ => trivial)); (case aO => exact B10x10_); (case aS => exact (below_size B10x1_)); (case aL => have := LMc9.out; omega); intro v312 w10 ho hb hg hat; rw [← Ny311.out] at ho; have n0_ := Aside0.mk (hb); have n1_ := Aside0.mk (ho); clear HB; clear HO_4; have HB := n0_; have HO313 := n1_; clear n0_ n1_; clear ho hb hg hat; have hcv11 := own_string (P := Try.prog) Try.underlying43 Try.underlying5 Try.underlying9 (Kd.own_of_R HO313.out)))
      go_ret2
      exact ⟨by first | rfl | (simp [errW_none, errW_some] <;> rfl) | (simp [*, errW_none, errW_some] <;> rfl), by repeat (first | (with_reducible first | exact HB.out | apply below_alloc | apply pw_below_drewN | apply below_drew1) | exact HB.out)⟩
     ·rw [if_neg c9] at H
      exact absurd H (by simp)
 ·replace c3 := Bool.eq_false_iff.mpr c3
  subst c3
  rw [if_neg (show ¬ (false = true) by decide)] at H
  simp only [Option.some.injEq, Prod.mk.injEq] at H
  obtain ⟨rfl, rfl⟩ := H
  go_enter Try.func145, Try.ntmps145
  go_wp2_with (first | ((with_reducible refine gate_callee (f := 68) rfl ?_); refine goesL_ (some 6) rfl rfl Try.func68 B10x4_ rfl #[.int .i64 a0, .int .i64 0, .int .i64 1000000000] rfl B10x3_ ?_; (with_reducible refine (impl_within.calls a0 0 1000000000 false _ A2.out).mono ?_); rintro e w' ⟨rfl, ⟨nd, rfl⟩⟩; refine ⟨_, rfl, ?_⟩))
  go_ret2
  exact ⟨by first | rfl | (simp [errW_none, errW_some] <;> rfl) | (simp [*, errW_none, errW_some] <;> rfl), by repeat (first | (with_reducible first | exact HB.out | apply below_alloc | apply pw_below_drewN | apply below_drew1) | exact HB.out)⟩

/-! ### impl_varTexts: function 100 -/
def impl_varTexts.l0 : Nat → ByteArray → List Int → Int → Int → Option (ByteArray)
 | 0, _, _, _, _ => none
 | k + 1, x3, x8, x9, x10 => if x10 < x9 then (if 0 ≤ x10 then (if x10 < (x8.length : Int) then ((impl_VarText.f k (rd x8 x10)).bind fun bt315 => (if x3.size + bt315.1.size ≤ 9223372036854775807 then (impl_varTexts.l0 k (x3 ++ bt315.1) x8 x9 (wrap64 (x10 + 1))) else (none))) else (none)) else (none)) else (some x3)
def impl_varTexts.f (k : Nat) (l0 : List Int) : Option (ByteArray) := impl_varTexts.l0 k (⟨#[]⟩ : ByteArray) l0 (l0.length : Int) 0
theorem impl_varTexts.mono_l : ∀ k, (∀ y0 y1 y2 y3, LeO (impl_varTexts.l0 k y0 y1 y2 y3) (impl_varTexts.l0 (k + 1) y0 y1 y2 y3))
 | 0 => fun _ _ _ _ r h => by simp [impl_varTexts.l0] at h
 | k + 1 => by
  have ih0 := impl_varTexts.mono_l k
  ·intro y0 y1 y2 y3
   unfold impl_varTexts.l0
   repeat' first
   | (with_reducible exact ih0 _ _ _ _)
   | (with_reducible exact impl_VarText.mono _ _)
   | (with_reducible exact LeO.refl _)
   | (with_reducible exact LeO.none _)
   | (with_reducible refine LeO.ite ?_ ?_)
   | (with_reducible refine LeO.bind ?_ (fun _ => ?_))
   | exact ih0 _ _ _ _
   | exact impl_VarText.mono _ _
   | exact LeO.none _
   | refine LeO.ite ?_ ?_
   | refine LeO.bind ?_ (fun _ => ?_)
theorem impl_varTexts.mono : ∀ a0 k, LeO (impl_varTexts.f k a0) (impl_varTexts.f (k + 1) a0) := by
 intro a0 k
 have ih0 := impl_varTexts.mono_l k
 unfold impl_varTexts.f
 repeat' first
   | (with_reducible exact ih0 _ _ _ _)
   | (with_reducible exact impl_VarText.mono _ _)
   | (with_reducible exact LeO.refl _)
   | (with_reducible exact LeO.none _)
   | (with_reducible refine LeO.ite ?_ ?_)
   | (with_reducible refine LeO.bind ?_ (fun _ => ?_))
   | exact ih0 _ _ _ _
   | exact impl_VarText.mono _ _
   | exact LeO.none _
   | refine LeO.ite ?_ ?_
   | refine LeO.bind ?_ (fun _ => ?_)
set_option maxHeartbeats 8000000 in
set_option maxRecDepth 100000 in
theorem impl_varTexts.calls (k : Nat) (A0 : Option Addr) (c0 : Nat) (l0 : List Int) (r : ByteArray) (w : World) (hr0 : Kd.C (Kd.int .i64) w A0 l0.length l0) (hc0 : l0.length ≤ c0) (h : impl_varTexts.f k l0 = some r) :
  Calls Try.prog 100 #[.slice A0 l0.length c0] w fun e w' => e = .returned (.string r) ∧ Below w.heap.size w w' := by
 have HR0 := Aside0.mk hr0
 have HC0 := Aside0.mk hc0
 clear hr0 hc0
 have HB := Aside0.mk (Below.refl w.heap.size w)
 have H : (impl_varTexts.l0 k (⟨#[]⟩ : ByteArray) l0 (l0.length : Int) 0) = some r := h
 clear h
 have H' := Aside0.mk H
 clear H
 go_enter Try.func100, Try.ntmps100
 go_wp2
 go_loopg [3, 10] k (fun kq v3 v10 w' => ∃ (x3_1 : ByteArray) (x10_1 : Int), v3 = .string x3_1 ∧ v10 = .int .i64 x10_1 ∧ Aside0 (impl_varTexts.l0 kq x3_1 l0 (l0.length : Int) x10_1 = some r) ∧ Aside0 (kq ≤ k) ∧ Aside0 (Below w.heap.size w w'))
 case atStart => exact ⟨((⟨#[]⟩ : ByteArray)), (0), (be_), (be_), H', ⟨Nat.le_refl _⟩, ⟨by repeat (first | (with_reducible first | exact HB.out | apply below_alloc | apply pw_below_drewN | apply below_drew1) | exact HB.out)⟩⟩
 case round =>
  clear H'
  try clear c1
  obtain ⟨x3_1, x10_1, rfl, rfl, HA, HK1, HB⟩ := hrel
  cases gk with
  | zero => exact absurd HA.out (by simp [impl_varTexts.l0])
  | succ k1 =>
   have H := HA.out
   clear HA
   simp only [impl_varTexts.l0] at H
   by_cases c2 : x10_1 < (l0.length : Int)
   ·rw [if_pos c2] at H
    have c2b0 : decide (x10_1 < (l0.length : Int)) = true := decide_eq_true c2
    clear c2
    by_cases c3 : 0 ≤ x10_1
    ·rw [if_pos c3] at H
     have c3b0 : decide (0 ≤ x10_1) = true := decide_eq_true c3
     clear c3
     by_cases c4 : x10_1 < (l0.length : Int)
     ·rw [if_pos c4] at H
      have c4b0 : decide (x10_1 < (l0.length : Int)) = true := decide_eq_true c4
      clear c4
      replace H := Option.bind_eq_some_iff.mp H
      obtain ⟨⟨t315, t316⟩, A50, H⟩ := H
      (try dsimp only at H)
      have A5 := Aside0.mk A50
      clear A50
      by_cases c6 : x3_1.size + t315.size ≤ 9223372036854775807
      ·rw [if_pos c6] at H
       have c6b0 := eq_true c6
       have c6b1 : decide (x3_1.size + t315.size ≤ 9223372036854775807) = true := decide_eq_true c6
       try have c6b2 : (9223372036854775807 < x3_1.size + t315.size) = False := eq_false (Nat.not_lt.2 c6)
       try (have c6b9 := c6b2; simp only [ByteArray.size_append] at c6b9)
       have H' := Aside0.mk H
       clear H
       have p314 : 0 ≤ (x10_1 : Int) := of_decide_eq_true B10x8_
       have q314 : x10_1 < (l0.length : Int) := of_decide_eq_true B10x8_
       obtain ⟨ad314, e314, hx314_0⟩ := Kd.at_int HR0.out x10_1 p314 q314
       cases e314
       replace hx314_0 := (HB.out.cell (World.block_lt_of_cell? w _ hx314_0)).trans hx314_0
       replace p314 := eq_true p314
       replace q314 := eq_true q314
       go_wp2_with (first | ((with_reducible refine gate_callee (f := 145) rfl ?_); refine goesL_ (some 16) rfl rfl Try.func145 B10x4_ rfl #[.int .i64 (rd l0 x10_1)] rfl B10x3_ ?_; (with_reducible refine (impl_VarText.calls k1 (rd l0 x10_1) t315 t316 _ A5.out).mono ?_); rintro e w7 ⟨rfl, hb⟩; refine ⟨_, rfl, ?_⟩; have n0_ := Aside0.mk (below_step B10x1_ hb); clear HB; have HB := n0_; clear n0_; (try clear hb); (try clear hb2); (try clear hk); (try clear hi)))
       go_roundg k1
       case measure => have := HK1.out; omega
       case rel => exact ⟨(x3_1 ++ t315), (wrap64 (x10_1 + 1)), (be_), (be_), H', ⟨by have := HK1.out; omega⟩, ⟨by repeat (first | (with_reducible first | exact HB.out | apply below_alloc | apply pw_below_drewN | apply below_drew1) | exact HB.out)⟩⟩
      ·rw [if_neg c6] at H
       exact absurd H (by simp)
     ·exact absurd H (by exfalso; (try have h0_ := of_decide_eq_true c2b0); (try have g0_ := c2); omega)
    ·rw [if_neg c3] at H
     exact absurd H (by simp)
   ·rw [if_neg c2] at H
    have c2b0 : decide (x10_1 < (l0.length : Int)) = false := decide_eq_false c2
    clear c2
    obtain rfl := Option.some.inj H
    go_wp2
    go_ret
    exact ⟨by first | rfl | (simp [errW_none, errW_some] <;> rfl) | (simp [*, errW_none, errW_some] <;> rfl), by repeat (first | (with_reducible first | exact HB.out | apply below_alloc | apply pw_below_drewN | apply below_drew1) | exact HB.out)⟩

/-! ### impl_EntryText: function 29 -/
def impl_EntryText.j0 : Nat → Int → Bool → Int → Int → ByteArray → Option (ByteArray × Bool)
 | 0, _, _, _, _, _ => none
 | k + 1, x0, x13, x318000, x318001, x318002 => if x13 = true then (some ((⟨#[]⟩ : ByteArray), false)) else ((impl_varTexts.f k (([x0, x318000] : List Int))).bind fun t323 => (if 1 + t323.size ≤ 9223372036854775807 then ((impl_byteTexts.f k (([x318001] : List Int))).bind fun t327 => (if ((⟨#[69]⟩ : ByteArray) ++ t323).size + t327.size ≤ 9223372036854775807 then (if (((⟨#[69]⟩ : ByteArray) ++ t323) ++ t327).size + x318002.size ≤ 9223372036854775807 then (some ((((⟨#[69]⟩ : ByteArray) ++ t323) ++ t327) ++ x318002, true)) else (none)) else (none))) else (none)))
def impl_EntryText.f (k : Nat) (a0 : Int) (a1_0 : Int) (a1_1 : Int) (a1_2 : ByteArray) : Option (ByteArray × Bool) := (impl_EntryOk.f k a1_0 a1_1 a1_2).bind fun t318 => (if t318 = true then ((impl_within.f a0 1 1000000).bind fun t319 => (impl_EntryText.j0 k a0 (!t319) a1_0 a1_1 a1_2)) else (impl_EntryText.j0 k a0 true a1_0 a1_1 a1_2))
theorem impl_EntryText.mono_l : ∀ k, (∀ y0 y1 y2 y3 y4, LeO (impl_EntryText.j0 k y0 y1 y2 y3 y4) (impl_EntryText.j0 (k + 1) y0 y1 y2 y3 y4))
 | 0 => fun _ _ _ _ _ r h => by simp [impl_EntryText.j0] at h
 | k + 1 => by
  have ih0 := impl_EntryText.mono_l k
  ·intro y0 y1 y2 y3 y4
   unfold impl_EntryText.j0
   repeat' first
   | (with_reducible exact ih0 _ _ _ _ _)
   | (with_reducible exact impl_EntryOk.mono _ _ _ _)
   | (with_reducible exact impl_byteTexts.mono _ _)
   | (with_reducible exact impl_varTexts.mono _ _)
   | (with_reducible exact LeO.refl _)
   | (with_reducible exact LeO.none _)
   | (with_reducible refine LeO.ite ?_ ?_)
   | (with_reducible refine LeO.bind ?_ (fun _ => ?_))
   | exact ih0 _ _ _ _ _
   | exact impl_EntryOk.mono _ _ _ _
   | exact impl_byteTexts.mono _ _
   | exact impl_varTexts.mono _ _
   | exact LeO.none _
   | refine LeO.ite ?_ ?_
   | refine LeO.bind ?_ (fun _ => ?_)
theorem impl_EntryText.mono : ∀ a0 a1 a2 a3 k, LeO (impl_EntryText.f k a0 a1 a2 a3) (impl_EntryText.f (k + 1) a0 a1 a2 a3) := by
 intro a0 a1 a2 a3 k
 have ih0 := impl_EntryText.mono_l k
 unfold impl_EntryText.f
 repeat' first
   | (with_reducible exact ih0 _ _ _ _ _)
   | (with_reducible exact impl_EntryOk.mono _ _ _ _)
   | (with_reducible exact impl_byteTexts.mono _ _)
   | (with_reducible exact impl_varTexts.mono _ _)
   | (with_reducible exact LeO.refl _)
   | (with_reducible exact LeO.none _)
   | (with_reducible refine LeO.ite ?_ ?_)
   | (with_reducible refine LeO.bind ?_ (fun _ => ?_))
   | exact ih0 _ _ _ _ _
   | exact impl_EntryOk.mono _ _ _ _
   | exact impl_byteTexts.mono _ _
   | exact impl_varTexts.mono _ _
   | exact LeO.none _
   | refine LeO.ite ?_ ?_
   | refine LeO.bind ?_ (fun _ => ?_)
def impl_EntryText.T3 : Bool × List (List Nat × List Nat) := (true, [([], []), ([], []), ([1], [1]), ([0, 2], [0, 2]), ([3], [3]), ([4], [4]), ([], []), ([6], [6]), ([7], [7]), ([8, 4], [8]), ([5, 9], [5, 9]), ([], []), ([11], [11]), ([10, 12], [10, 12]), ([13, 9, 0, 1, 2, 3, 4, 5, 6, 7, 8, 9, 10, 11, 12, 13], [13]), ([14, 0, 1, 2, 3, 4, 5, 6, 7, 8, 9, 10, 11, 12, 13, 14], [])])
def impl_EntryText.B3 : List Nat := [0, 0, 2, 7, 15, 31, 0, 64, 192, 479, 1023, 0, 2048, 8191, 16383, 32767]
theorem impl_EntryText.tab3 : rtab .any (opsOf Try.f29 3) = impl_EntryText.T3 := by kernel_rfl
theorem impl_EntryText.bits3 : waitsOk impl_EntryText.T3.2 impl_EntryText.B3 = true := by kernel_rfl
set_option maxHeartbeats 8000000 in
set_option maxRecDepth 100000 in
theorem impl_EntryText.calls (k : Nat) (a0 : Int) (a1_0 : Int) (a1_1 : Int) (a1_2 : ByteArray) (r1 : ByteArray) (r2 : Bool) (w : World) (h : impl_EntryText.f k a0 a1_0 a1_1 a1_2 = some (r1, r2)) :
  Calls Try.prog 29 #[.int .i64 a0, .agg #[.int .i64 a1_0, .int .i64 a1_1, .string a1_2]] w fun e w' => e = .returned (.tuple #[.string r1, .bool r2]) ∧ Below w.heap.size w w' := by
 have hu51 := Try.underlying51
 have HB := Aside0.mk (Below.refl w.heap.size w)
 have H : ((impl_EntryOk.f k a1_0 a1_1 a1_2).bind fun t318 => (if t318 = true then ((impl_within.f a0 1 1000000).bind fun t319 => (impl_EntryText.j0 k a0 (!t319) a1_0 a1_1 a1_2)) else (impl_EntryText.j0 k a0 true a1_0 a1_1 a1_2))) = some (r1, r2) := h
 clear h
 have HC3 := Aside0.mk H
 clear H
 go_enter Try.func29, Try.ntmps29
 go_upto_region 1 with (first | ((with_reducible refine gate_dst (N := 3) rfl ?_); refine box_event ?hg (N := 3) ?hd (cs := #[.int .i64 a1_0, .int .i64 a1_1, .string a1_2]) (t := 51) ?hr ?_; (case hd => rfl); (case hg => rfl); (case hr => first | (go_simp; done) | (go_simp; rfl)); intro gb317 hg w4 hbox hb; have n0_ := Aside0.mk (below_step B10x1_ hb); have n1_ := Aside0.mk (hbox); have n2_ := Aside0.mk ((by rw [hg]; exact (below_size B10x1_) : w.heap.size ≤ gb317)); have n3_ := Aside0.mk ((by rw [hg]; exact (below_size B10x1_) : w.heap.size ≤ gb317)); clear HB; have HB := n0_; have BK317 := n1_; have GW317 := n2_; have GE317 := n3_; clear n0_ n1_ n2_ n3_; clear hb hbox hg))
 (try simp only [Act.put, List.setIfInBounds_toArray, List.set_cons_zero, List.set_cons_succ])
 go_cut [13] (fun v13 wc => ∃ (kq : Nat) (x13_2 : Bool), v13 = .bool x13_2 ∧ Aside0 (impl_EntryText.j0 kq a0 x13_2 a1_0 a1_1 a1_2 = some (r1, r2)) ∧ Aside0 (kq ≤ k) ∧ Aside0 (wc.heap[gb317]? = some (.cells #[.int .i64 a1_0, .int .i64 a1_1, .string a1_2] 51 (0, 0))) ∧ Aside0 (Below w.heap.size w wc))
 case first =>
  have H := HC3.out
  clear HC3
  replace H := Option.bind_eq_some_iff.mp H
  obtain ⟨t318, A50, H⟩ := H
  (try dsimp only at H)
  have A5 := Aside0.mk A50
  clear A50
  by_cases c6 : t318 = true
  ·subst c6
   rw [if_pos rfl] at H
   replace H := Option.bind_eq_some_iff.mp H
   obtain ⟨t319, A70, H⟩ := H
   (try dsimp only at H)
   have A7 := Aside0.mk A70
   clear A70
   have H' := Aside0.mk H
   clear H
   obtain ⟨hcz8_0, hcz8_1, hcz8_2⟩ := cl3 BK317.out
   obtain ⟨hfz8_0, hfz8_1, hfz8_2⟩ := fr3 BK317.out
   go_wp2_with (first | ((with_reducible refine gate_callee (f := 71) rfl ?_); refine goesL_ (some 7) rfl rfl Try.func71 B10x4_ rfl #[.agg #[.int .i64 a1_0, .int .i64 a1_1, .string a1_2]] rfl B10x3_ ?_; (with_reducible refine (impl_EntryOk.calls k a1_0 a1_1 a1_2 true _ A5.out).mono ?_); rintro e w9 ⟨rfl, hb⟩; refine ⟨_, rfl, ?_⟩; have n0_ := Aside0.mk (blk_below (g := gb317) (o := .cells #[.int .i64 a1_0, .int .i64 a1_1, .string a1_2] 51 (0, 0)) B10x2_ hb); have n1_ := Aside0.mk (below_step B10x0_ hb); clear BK317; clear HB; have BK317 := n0_; have HB := n1_; clear n0_ n1_; (try clear hb); (try clear hb2); (try clear hk); (try clear hi)) | (go_at_call 68; (with_reducible refine (impl_within.calls a0 1 1000000 t319 _ A7.out).mono ?_); rintro e w' ⟨rfl, ⟨nd, rfl⟩⟩))
   go_meet
   case rel => exact ⟨_, (!t319), (be_), H', ⟨by first | omega | exact Nat.le_refl _⟩, ⟨by (with_reducible repeat (first | refine blk_drewN ?_ _ | refine blk_drew ?_ | refine blk_alloc ?_ _)); exact BK317.out⟩, ⟨by repeat (first | (with_reducible first | exact HB.out | apply below_alloc | apply pw_below_drewN | apply below_drew1 | refine below_set ?_ GE317.out) | exact HB.out)⟩⟩
  ·replace c6 := Bool.eq_false_iff.mpr c6
   subst c6
   rw [if_neg (show ¬ (false = true) by decide)] at H
   have H' := Aside0.mk H
   clear H
   obtain ⟨hcz10_0, hcz10_1, hcz10_2⟩ := cl3 BK317.out
   obtain ⟨hfz10_0, hfz10_1, hfz10_2⟩ := fr3 BK317.out
   go_wp2_with (first | ((with_reducible refine gate_callee (f := 71) rfl ?_); refine goesL_ (some 7) rfl rfl Try.func71 B10x4_ rfl #[.agg #[.int .i64 a1_0, .int .i64 a1_1, .string a1_2]] rfl B10x3_ ?_; (with_reducible refine (impl_EntryOk.calls k a1_0 a1_1 a1_2 false _ A5.out).mono ?_); rintro e w11 ⟨rfl, hb⟩; refine ⟨_, rfl, ?_⟩; have n0_ := Aside0.mk (blk_below (g := gb317) (o := .cells #[.int .i64 a1_0, .int .i64 a1_1, .string a1_2] 51 (0, 0)) B10x2_ hb); have n1_ := Aside0.mk (below_step B10x0_ hb); clear BK317; clear HB; have BK317 := n0_; have HB := n1_; clear n0_ n1_; (try clear hb); (try clear hb2); (try clear hk); (try clear hi)))
   go_meet
   case rel => exact ⟨_, (true), (be_), H', ⟨by first | omega | exact Nat.le_refl _⟩, ⟨by (with_reducible repeat (first | refine blk_drewN ?_ _ | refine blk_drew ?_ | refine blk_alloc ?_ _)); exact BK317.out⟩, ⟨by repeat (first | (with_reducible first | exact HB.out | apply below_alloc | apply pw_below_drewN | apply below_drew1 | refine below_set ?_ GE317.out) | exact HB.out)⟩⟩
 case rest =>
  clear HC3
  try clear c2
  try clear p2
  try clear c6
  try clear c7
  try clear hcz10_0
  try clear hcz10_1
  try clear hcz10_2
  try clear hcz8_0
  try clear hcz8_1
  try clear hcz8_2
  try clear hfz10_0
  try clear hfz10_1
  try clear hfz10_2
  try clear hfz8_0
  try clear hfz8_1
  try clear hfz8_2
  obtain ⟨kq, x13_2, rfl, HA, HJ2, BK317, HB⟩ := hcut
  cases kq with
  | zero => exact absurd HA.out (by simp [impl_EntryText.j0])
  | succ kj2 =>
   have H := HA.out
   clear HA
   simp only [impl_EntryText.j0] at H
   by_cases c12 : x13_2 = true
   ·subst c12
    rw [if_pos rfl] at H
    simp only [Option.some.injEq, Prod.mk.injEq] at H
    obtain ⟨rfl, rfl⟩ := H
    go_wp2
    go_ret2
    exact ⟨by first | rfl | (simp [errW_none, errW_some] <;> rfl) | (simp [*, errW_none, errW_some] <;> rfl), by repeat (first | (with_reducible first | exact HB.out | apply below_alloc | apply pw_below_drewN | apply below_drew1 | refine below_set ?_ GE317.out) | exact HB.out)⟩
   ·replace c12 := Bool.eq_false_iff.mpr c12
    subst c12
    rw [if_neg (show ¬ (false = true) by decide)] at H
    obtain ⟨y320, hy320⟩ : ∃ y_ : List Int, y_ = (([a0, a1_0] : List Int)) := ⟨_, rfl⟩
    replace H : ((impl_varTexts.f kj2 y320).bind fun t323 => (if 1 + t323.size ≤ 9223372036854775807 then ((impl_byteTexts.f kj2 (([a1_1] : List Int))).bind fun t327 => (if ((⟨#[69]⟩ : ByteArray) ++ t323).size + t327.size ≤ 9223372036854775807 then (if (((⟨#[69]⟩ : ByteArray) ++ t323) ++ t327).size + a1_2.size ≤ 9223372036854775807 then (some ((((⟨#[69]⟩ : ByteArray) ++ t323) ++ t327) ++ a1_2, true)) else (none)) else (none))) else (none))) = some (r1, r2) := by first | (rw [hy320]; with_reducible exact H) | (have H2_ := (Option.bind_some _ _).symm.trans H; rw [hy320]; with_reducible exact H2_) | (have H2_ := (Option.bind_some _ _).symm.trans H; with_reducible exact H2_) | with_reducible exact H | (rw [hy320]; exact H) | exact H
    have Ny320 := Aside0.mk hy320
    clear hy320
    replace H := Option.bind_eq_some_iff.mp H
    obtain ⟨t323, A130, H⟩ := H
    (try dsimp only at H)
    have A13 := Aside0.mk A130
    clear A130
    by_cases c14 : 1 + t323.size ≤ 9223372036854775807
    ·rw [if_pos c14] at H
     have c14b0 := eq_true c14
     have c14b1 : decide (1 + t323.size ≤ 9223372036854775807) = true := decide_eq_true c14
     try have c14b2 : (9223372036854775807 < 1 + t323.size) = False := eq_false (Nat.not_lt.2 c14)
     try (have c14b9 := c14b2; simp only [ByteArray.size_append] at c14b9)
     obtain ⟨y324, hy324⟩ : ∃ y_ : List Int, y_ = (([a1_1] : List Int)) := ⟨_, rfl⟩
     replace H : ((impl_byteTexts.f kj2 y324).bind fun t327 => (if ((⟨#[69]⟩ : ByteArray) ++ t323).size + t327.size ≤ 9223372036854775807 then (if (((⟨#[69]⟩ : ByteArray) ++ t323) ++ t327).size + a1_2.size ≤ 9223372036854775807 then (some ((((⟨#[69]⟩ : ByteArray) ++ t323) ++ t327) ++ a1_2, true)) else (none)) else (none))) = some (r1, r2) := by first | (rw [hy324]; with_reducible exact H) | (have H2_ := (Option.bind_some _ _).symm.trans H; rw [hy324]; with_reducible exact H2_) | (have H2_ := (Option.bind_some _ _).symm.trans H; with_reducible exact H2_) | with_reducible exact H | (rw [hy324]; exact H) | exact H
     have Ny324 := Aside0.mk hy324
     clear hy324
     replace H := Option.bind_eq_some_iff.mp H
     obtain ⟨t327, A150, H⟩ := H
     (try dsimp only at H)
     have A15 := Aside0.mk A150
     clear A150
     by_cases c16 : ((⟨#[69]⟩ : ByteArray) ++ t323).size + t327.size ≤ 9223372036854775807
     ·rw [if_pos c16] at H
      have c16b0 := eq_true c16
      have c16b1 : decide (((⟨#[69]⟩ : ByteArray) ++ t323).size + t327.size ≤ 9223372036854775807) = true := decide_eq_true c16
      try have c16b2 : (9223372036854775807 < ((⟨#[69]⟩ : ByteArray) ++ t323).size + t327.size) = False := eq_false (Nat.not_lt.2 c16)
      try have c16b8 : (9223372036854775807 < 1 + t323.size + t327.size) = False := eq_false (by have z0_ : (⟨#[69]⟩ : ByteArray).size = 1 := rfl; have h_ := c16; simp only [ByteArray.size_append, ByteArray.size_extract, decide_eq_true_eq, decide_eq_false_iff_not] at *; omega)
      try (have c16b9 := c16b2; simp only [ByteArray.size_append] at c16b9)
      by_cases c17 : (((⟨#[69]⟩ : ByteArray) ++ t323) ++ t327).size + a1_2.size ≤ 9223372036854775807
      ·rw [if_pos c17] at H
       have c17b0 := eq_true c17
       have c17b1 : decide ((((⟨#[69]⟩ : ByteArray) ++ t323) ++ t327).size + a1_2.size ≤ 9223372036854775807) = true := decide_eq_true c17
       try have c17b2 : (9223372036854775807 < (((⟨#[69]⟩ : ByteArray) ++ t323) ++ t327).size + a1_2.size) = False := eq_false (Nat.not_lt.2 c17)
       try have c17b8 : (9223372036854775807 < 1 + t323.size + t327.size + a1_2.size) = False := eq_false (by have z0_ : (⟨#[69]⟩ : ByteArray).size = 1 := rfl; have h_ := c17; simp only [ByteArray.size_append, ByteArray.size_extract, decide_eq_true_eq, decide_eq_false_iff_not] at *; omega)
       try (have c17b9 := c17b2; simp only [ByteArray.size_append] at c17b9)
       simp only [Option.some.injEq, Prod.mk.injEq] at H
       obtain ⟨rfl, rfl⟩ := H
       try go_wp2
       have n0_ := Aside0.mk (blk_drew BK317.out)
       have n1_ := Aside0.mk (below_drew1 HB.out)
       clear BK317
       clear HB
       have BK317 := n0_
       have HB := n1_
       clear n0_ n1_
       refine start_ (n := 16) (S := fun w' => True) (ds := []) #[false, false, false, false, false, false, false, false, false, false, false, false, false, false, false, false] B10x4_ rfl rfl trivial (fun hHeld => ?_); refine with_tabW impl_EntryText.tab3 impl_EntryText.bits3 (fun HT_ HW_ => ?_)
       generalize wc.drew = w18 at BK317 HB hHeld ⊢
       refine pu_ 0 14 HT_ ?_
       refine pu_ 1 15 HT_ ?_
       refine pu_ 6 20 HT_ ?_
       refine pu_ 11 25 HT_ ?_
       refine inv_at [2, 3, 4, 5, 7, 8, 9, 10, 12, 13, 14, 15] (fun a0_ b a w' => ∃ (v321 : Value) (v325 : Value), a = putSel a0_ b [(2, 16, .int .i64 a1_0), (3, 17, v321), (4, 18, .string t323), (5, 19, .string ((⟨#[69]⟩ : ByteArray) ++ t323)), (7, 21, .int .i64 a1_1), (8, 22, v325), (9, 23, .string t327), (10, 24, .string (((⟨#[69]⟩ : ByteArray) ++ t323) ++ t327)), (12, 26, .string a1_2), (13, 27, .string ((((⟨#[69]⟩ : ByteArray) ++ t323) ++ t327) ++ a1_2)), (14, 4, .string ((((⟨#[69]⟩ : ByteArray) ++ t323) ++ t327) ++ a1_2)), (15, 5, .bool true)] ∧ (w'.heap[gb317]? = some (.cells #[.int .i64 a1_0, .int .i64 a1_1, .string a1_2] 51 (0, 0))) ∧ (Below w.heap.size w w') ∧ (b 3 = true → Kd.R (Kd.int .i64) 3 w' w.heap.size (fun _ => True) v321 y320) ∧ (b 8 = true → Kd.R (Kd.int .i64) 3 w' w.heap.size (fun _ => True) v325 y324)) HT_.out HW_.out B10x4_ B10x4_ ?_ ?_ ?_
       ·exact ⟨.bool false, .bool false, by simp only [putSel, Bool.false_eq_true, if_false], BK317.out, HB.out, fun h_ => absurd h_ (by decide), fun h_ => absurd h_ (by decide)⟩
       ·skip
        clear BK317 HB
        refine steps_cons ?_ ?_
        ·rintro b a w' ⟨v321, v325, ha, Q_BK317, Q_HB, Q_HO322, Q_HO326⟩ hb_ hon hoff
         refine ⟨_, rfl, fun K hK => ?_⟩
         have e15 : a.tmps[15]? = some (.pointer (some ⟨gb317, 0, none⟩)) := by rw [ha]; exact (putSel_off rfl).trans rfl
         replace ha := Aside0.mk ha
         have BK317 := Aside0.mk Q_BK317
         have HB := Aside0.mk Q_HB
         have hc0_ : w'.cell? ⟨gb317, 0, none⟩ = some (.int .i64 a1_0) := (blk_cell BK317.out 0).trans rfl
         have hc1_ : w'.cell? ⟨gb317, 1, none⟩ = some (.int .i64 a1_1) := (blk_cell BK317.out 1).trans rfl
         have hc2_ : w'.cell? ⟨gb317, 2, none⟩ = some (.string a1_2) := (blk_cell BK317.out 2).trans rfl
         refine value_ (w1 := w') (v := .int .i64 a1_0) (by rfl) rfl ?_ ?_
         ·go_simp
          (try simp only [i64_w])
          try rfl
         refine hK.out _ _ ⟨v321, v325, (by rw [ha.out]; exact putSel_upk 0 hb_ rfl rfl rfl), Q_BK317, Q_HB, fun h0_ => absurd ((hoff 3 B10x4_).symm.trans h0_) (by decide), Q_HO326⟩
        refine steps_cons ?_ ?_
        ·rintro b a w' ⟨v321, v325, ha, Q_BK317, Q_HB, Q_HO322, Q_HO326⟩ hb_ hon hoff
         refine ⟨_, rfl, fun K hK => ?_⟩
         have e14 : a.tmps[14]? = some (.int .i64 a0) := by rw [ha]; exact (putSel_off rfl).trans rfl
         have e16 : a.tmps[16]? = some (.int .i64 a1_0) := by rw [ha]; exact putSel_on (e := (2, 16, .int .i64 a1_0)) 0 rfl rfl (hon 2 B10x4_) rfl
         replace ha := Aside0.mk ha
         have BK317 := Aside0.mk Q_BK317
         have HB := Aside0.mk Q_HB
         refine Kd.R_lit_step (Kd.int .i64) _ 3 ?hg (N := 17) ?hd (xs := ([a0, a1_0] : List Int)) (inner := [.int .i64 a0, .int .i64 a1_0]) (ok := fun _ => True) (okp := fun _ => True) ?hr ?hp (fun _ hk => hk) trivial (Below.refl _ _) (Nat.le_refl _) (by simp) ?_; (case hd => rfl); (case hg => rfl); (case hr => first | (go_simp; done) | (go_simp; rfl)); (case hp => exact (Reps.one (show Kd.M (Kd.int .i64) _ _ _ a0 [.int .i64 a0] from rfl) (Reps.one (show Kd.M (Kd.int .i64) _ _ _ a1_0 [.int .i64 a1_0] from rfl) (Reps.none _ _))))
         intro v321 w19 ho20 hb hg_ hnew_
         clear hg_ hnew_
         (first | rw [← Ny320.out] at ho20 | (simp only [Int.reduceToNat] at ho20; rw [← Ny320.out] at ho20))
         have n0_ := Aside0.mk (Kd.R_lower ho20 (below_size B10x0_))
         have n1_ := Aside0.mk (blk_below (g := gb317) (o := .cells #[.int .i64 a1_0, .int .i64 a1_1, .string a1_2] 51 (0, 0)) B10x2_ hb)
         have n2_ := Aside0.mk (below_step B10x0_ hb)
         have z_HO326 := fun (h0_ : b 8 = true) => (show Kd.R (Kd.int .i64) 3 w19 w.heap.size (fun _ => True) v325 y324 from by first | exact (Kd.R_elder' B10x6_ (Kd.R_base ho20) hb) | exact Kd.R_mono (Kd.R_elder' B10x6_ (Kd.R_base ho20) hb) (fun _ h_ => by first | trivial | exact h_ | exact h_.1))
         clear BK317
         clear HB
         have HO322 := n0_
         have BK317 := n1_
         have HB := n2_
         clear n0_ n1_ n2_
         clear hb ho20
         refine hK.out _ _ ⟨v321, v325, (by rw [ha.out]; exact putSel_upk 1 hb_ rfl rfl rfl), B10x2_, B10x0_, fun _ => B10x5_, z_HO326⟩
        refine steps_cons ?_ ?_
        ·rintro b a w' ⟨v321, v325, ha, Q_BK317, Q_HB, Q_HO322, Q_HO326⟩ hb_ hon hoff
         refine ⟨_, rfl, fun K hK => ?_⟩
         have e17 : a.tmps[17]? = some (v321) := by rw [ha]; exact putSel_on (e := (3, 17, v321)) 1 rfl rfl (hon 3 B10x4_) rfl
         replace ha := Aside0.mk ha
         have BK317 := Aside0.mk Q_BK317
         have HB := Aside0.mk Q_HB
         have HO322 := Aside0.mk (Q_HO322 (hon 3 B10x4_))
         obtain ⟨Ao22, co22, eo22⟩ := Kd.R_slice HO322.out
         (first | subst eo22 | (injection eo22 with f1_ f2_ f3_; have f4_ := f1_.symm; have f5_ := f3_.symm; clear f1_ f2_ f3_; subst f4_; subst f5_))
         refine goes_ Try.func100 B10x4_ rfl #[.slice Ao22 y320.length co22] (by rfl) rfl rfl (by first | (simp only [List.map_toArray, List.map_cons, List.map_nil, Act.eval, Array.getD_eq_getD_getElem?, Option.getD_some, e17]; done) | (simp only [List.map_toArray, List.map_cons, List.map_nil, Act.eval, Array.getD_eq_getD_getElem?, Option.getD_some, e17]; rfl)) ?_
         with_reducible refine (impl_varTexts.calls kj2 _ _ y320 t323 _ ?side1 ?side2 A13.out).mono ?_
         (case side1 => repeat (first | exact (Kd.R_reads' HO322.out).2.2 | (with_reducible refine Kd.C_alloc ?_ _) | (with_reducible refine Kd.C_drewN ?_ _) | (with_reducible refine Kd.C_drew ?_)))
         (case side2 => exact (Kd.R_reads' HO322.out).2.1)
         rintro e w23 ⟨rfl, hb⟩
         refine ⟨_, rfl, ?_⟩
         have n0_ := Aside0.mk (Kd.R_below B10x5_ hb)
         have n1_ := Aside0.mk (blk_below (g := gb317) (o := .cells #[.int .i64 a1_0, .int .i64 a1_1, .string a1_2] 51 (0, 0)) B10x2_ hb)
         have n2_ := Aside0.mk (below_step B10x0_ hb)
         have z_HO326 := fun (h0_ : b 8 = true) => (show Kd.R (Kd.int .i64) 3 w23 w.heap.size (fun _ => True) v325 y324 from by first | exact (Kd.R_below B10x6_ hb) | exact Kd.R_mono (Kd.R_below B10x6_ hb) (fun _ h_ => by first | trivial | exact h_ | exact h_.1))
         clear HO322
         clear BK317
         clear HB
         have HO322 := n0_
         have BK317 := n1_
         have HB := n2_
         clear n0_ n1_ n2_
         (try clear hb)
         (try clear hb2)
         (try clear hk)
         (try clear hi)
         refine hK.out _ _ ⟨.slice Ao22 y320.length co22, v325, (by rw [ha.out]; exact putSel_upk 2 hb_ rfl rfl rfl), B10x2_, B10x0_, fun _ => B10x5_, z_HO326⟩
        refine steps_cons ?_ ?_
        ·rintro b a w' ⟨v321, v325, ha, Q_BK317, Q_HB, Q_HO322, Q_HO326⟩ hb_ hon hoff
         refine ⟨_, rfl, fun K hK => ?_⟩
         have e18 : a.tmps[18]? = some (.string t323) := by rw [ha]; exact putSel_on (e := (4, 18, .string t323)) 2 rfl rfl (hon 4 B10x4_) rfl
         replace ha := Aside0.mk ha
         have BK317 := Aside0.mk Q_BK317
         have HB := Aside0.mk Q_HB
         have HO322 := Aside0.mk (Q_HO322 (hon 3 B10x4_))
         refine value_ (w1 := w') (v := .string ((⟨#[69]⟩ : ByteArray) ++ t323)) (by rfl) rfl ?_ ?_
         ·go_simp
          (try simp only [i64_w])
          try rfl
         refine hK.out _ _ ⟨v321, v325, (by rw [ha.out]; exact putSel_upk 3 hb_ rfl rfl rfl), Q_BK317, Q_HB, Q_HO322, Q_HO326⟩
        refine steps_cons ?_ ?_
        ·rintro b a w' ⟨v321, v325, ha, Q_BK317, Q_HB, Q_HO322, Q_HO326⟩ hb_ hon hoff
         refine ⟨_, rfl, fun K hK => ?_⟩
         have e20 : a.tmps[20]? = some (.pointer (some ⟨gb317, 1, none⟩)) := by rw [ha]; exact (putSel_off rfl).trans rfl
         replace ha := Aside0.mk ha
         have BK317 := Aside0.mk Q_BK317
         have HB := Aside0.mk Q_HB
         have hc0_ : w'.cell? ⟨gb317, 0, none⟩ = some (.int .i64 a1_0) := (blk_cell BK317.out 0).trans rfl
         have hc1_ : w'.cell? ⟨gb317, 1, none⟩ = some (.int .i64 a1_1) := (blk_cell BK317.out 1).trans rfl
         have hc2_ : w'.cell? ⟨gb317, 2, none⟩ = some (.string a1_2) := (blk_cell BK317.out 2).trans rfl
         refine value_ (w1 := w') (v := .int .i64 a1_1) (by rfl) rfl ?_ ?_
         ·go_simp
          (try simp only [i64_w])
          try rfl
         refine hK.out _ _ ⟨v321, v325, (by rw [ha.out]; exact putSel_upk 4 hb_ rfl rfl rfl), Q_BK317, Q_HB, Q_HO322, fun h0_ => absurd ((hoff 8 B10x4_).symm.trans h0_) (by decide)⟩
        refine steps_cons ?_ ?_
        ·rintro b a w' ⟨v321, v325, ha, Q_BK317, Q_HB, Q_HO322, Q_HO326⟩ hb_ hon hoff
         refine ⟨_, rfl, fun K hK => ?_⟩
         have e21 : a.tmps[21]? = some (.int .i64 a1_1) := by rw [ha]; exact putSel_on (e := (7, 21, .int .i64 a1_1)) 4 rfl rfl (hon 7 B10x4_) rfl
         replace ha := Aside0.mk ha
         have BK317 := Aside0.mk Q_BK317
         have HB := Aside0.mk Q_HB
         refine Kd.R_lit_step (Kd.int .i64) _ 3 ?hg (N := 22) ?hd (xs := ([a1_1] : List Int)) (inner := [.int .i64 a1_1]) (ok := fun _ => True) (okp := fun _ => True) ?hr ?hp (fun _ hk => hk) trivial (Below.refl _ _) (Nat.le_refl _) (by simp) ?_; (case hd => rfl); (case hg => rfl); (case hr => first | (go_simp; done) | (go_simp; rfl)); (case hp => exact (Reps.one (show Kd.M (Kd.int .i64) _ _ _ a1_1 [.int .i64 a1_1] from rfl) (Reps.none _ _)))
         intro v325 w19 ho20 hb hg_ hnew_
         clear hg_ hnew_
         (first | rw [← Ny324.out] at ho20 | (simp only [Int.reduceToNat] at ho20; rw [← Ny324.out] at ho20))
         have n0_ := Aside0.mk (Kd.R_lower ho20 (below_size B10x0_))
         have n1_ := Aside0.mk (blk_below (g := gb317) (o := .cells #[.int .i64 a1_0, .int .i64 a1_1, .string a1_2] 51 (0, 0)) B10x2_ hb)
         have n2_ := Aside0.mk (below_step B10x0_ hb)
         have z_HO322 := fun (h0_ : b 3 = true) => (show Kd.R (Kd.int .i64) 3 w19 w.heap.size (fun _ => True) v321 y320 from by first | exact (Kd.R_elder' B10x9_ (Kd.R_base ho20) hb) | exact Kd.R_mono (Kd.R_elder' B10x9_ (Kd.R_base ho20) hb) (fun _ h_ => by first | trivial | exact h_ | exact h_.1))
         clear BK317
         clear HB
         have HO326 := n0_
         have BK317 := n1_
         have HB := n2_
         clear n0_ n1_ n2_
         clear hb ho20
         refine hK.out _ _ ⟨v321, v325, (by rw [ha.out]; exact putSel_upk 5 hb_ rfl rfl rfl), B10x2_, B10x0_, z_HO322, fun _ => B10x7_⟩
        refine steps_cons ?_ ?_
        ·rintro b a w' ⟨v321, v325, ha, Q_BK317, Q_HB, Q_HO322, Q_HO326⟩ hb_ hon hoff
         refine ⟨_, rfl, fun K hK => ?_⟩
         have e22 : a.tmps[22]? = some (v325) := by rw [ha]; exact putSel_on (e := (8, 22, v325)) 5 rfl rfl (hon 8 B10x4_) rfl
         replace ha := Aside0.mk ha
         have BK317 := Aside0.mk Q_BK317
         have HB := Aside0.mk Q_HB
         have HO322 := Aside0.mk (Q_HO322 (hon 3 B10x4_))
         have HO326 := Aside0.mk (Q_HO326 (hon 8 B10x4_))
         obtain ⟨Ao26, co26, eo26⟩ := Kd.R_slice HO326.out
         (first | subst eo26 | (injection eo26 with f1_ f2_ f3_; have f4_ := f1_.symm; have f5_ := f3_.symm; clear f1_ f2_ f3_; subst f4_; subst f5_))
         refine goes_ Try.func99 B10x4_ rfl #[.slice Ao26 y324.length co26] (by rfl) rfl rfl (by first | (simp only [List.map_toArray, List.map_cons, List.map_nil, Act.eval, Array.getD_eq_getD_getElem?, Option.getD_some, e22]; done) | (simp only [List.map_toArray, List.map_cons, List.map_nil, Act.eval, Array.getD_eq_getD_getElem?, Option.getD_some, e22]; rfl)) ?_
         with_reducible refine (impl_byteTexts.calls kj2 _ _ y324 t327 _ ?side1 ?side2 A15.out).mono ?_
         (case side1 => repeat (first | exact (Kd.R_reads' HO326.out).2.2 | (with_reducible refine Kd.C_alloc ?_ _) | (with_reducible refine Kd.C_drewN ?_ _) | (with_reducible refine Kd.C_drew ?_)))
         (case side2 => exact (Kd.R_reads' HO326.out).2.1)
         rintro e w27 ⟨rfl, hb⟩
         refine ⟨_, rfl, ?_⟩
         have n0_ := Aside0.mk (Kd.R_below B10x5_ hb)
         have n1_ := Aside0.mk (Kd.R_below B10x7_ hb)
         have n2_ := Aside0.mk (blk_below (g := gb317) (o := .cells #[.int .i64 a1_0, .int .i64 a1_1, .string a1_2] 51 (0, 0)) B10x2_ hb)
         have n3_ := Aside0.mk (below_step B10x0_ hb)
         clear HO322
         clear HO326
         clear BK317
         clear HB
         have HO322 := n0_
         have HO326 := n1_
         have BK317 := n2_
         have HB := n3_
         clear n0_ n1_ n2_ n3_
         (try clear hb)
         (try clear hb2)
         (try clear hk)
         (try clear hi)
         refine hK.out _ _ ⟨v321, .slice Ao26 y324.length co26, (by rw [ha.out]; exact putSel_upk 6 hb_ rfl rfl rfl), B10x2_, B10x0_, fun _ => B10x5_, fun _ => B10x7_⟩
        refine steps_cons ?_ ?_
        ·rintro b a w' ⟨v321, v325, ha, Q_BK317, Q_HB, Q_HO322, Q_HO326⟩ hb_ hon hoff
         refine ⟨_, rfl, fun K hK => ?_⟩
         have e19 : a.tmps[19]? = some (.string ((⟨#[69]⟩ : ByteArray) ++ t323)) := by rw [ha]; exact putSel_on (e := (5, 19, .string ((⟨#[69]⟩ : ByteArray) ++ t323))) 3 rfl rfl (hon 5 B10x4_) rfl
         have e23 : a.tmps[23]? = some (.string t327) := by rw [ha]; exact putSel_on (e := (9, 23, .string t327)) 6 rfl rfl (hon 9 B10x4_) rfl
         replace ha := Aside0.mk ha
         have BK317 := Aside0.mk Q_BK317
         have HB := Aside0.mk Q_HB
         have HO322 := Aside0.mk (Q_HO322 (hon 3 B10x4_))
         have HO326 := Aside0.mk (Q_HO326 (hon 8 B10x4_))
         refine value_ (w1 := w') (v := .string (((⟨#[69]⟩ : ByteArray) ++ t323) ++ t327)) (by rfl) rfl ?_ ?_
         ·go_simp
          (try simp only [i64_w])
          try rfl
         refine hK.out _ _ ⟨v321, v325, (by rw [ha.out]; exact putSel_upk 7 hb_ rfl rfl rfl), Q_BK317, Q_HB, Q_HO322, Q_HO326⟩
        refine steps_cons ?_ ?_
        ·rintro b a w' ⟨v321, v325, ha, Q_BK317, Q_HB, Q_HO322, Q_HO326⟩ hb_ hon hoff
         refine ⟨_, rfl, fun K hK => ?_⟩
         have e25 : a.tmps[25]? = some (.pointer (some ⟨gb317, 2, none⟩)) := by rw [ha]; exact (putSel_off rfl).trans rfl
         replace ha := Aside0.mk ha
         have BK317 := Aside0.mk Q_BK317
         have HB := Aside0.mk Q_HB
         have hc0_ : w'.cell? ⟨gb317, 0, none⟩ = some (.int .i64 a1_0) := (blk_cell BK317.out 0).trans rfl
         have hc1_ : w'.cell? ⟨gb317, 1, none⟩ = some (.int .i64 a1_1) := (blk_cell BK317.out 1).trans rfl
         have hc2_ : w'.cell? ⟨gb317, 2, none⟩ = some (.string a1_2) := (blk_cell BK317.out 2).trans rfl
         refine value_ (w1 := w') (v := .string a1_2) (by rfl) rfl ?_ ?_
         ·go_simp
          (try simp only [i64_w])
          try rfl
         refine hK.out _ _ ⟨v321, v325, (by rw [ha.out]; exact putSel_upk 8 hb_ rfl rfl rfl), Q_BK317, Q_HB, Q_HO322, Q_HO326⟩
        refine steps_cons ?_ ?_
        ·rintro b a w' ⟨v321, v325, ha, Q_BK317, Q_HB, Q_HO322, Q_HO326⟩ hb_ hon hoff
         refine ⟨_, rfl, fun K hK => ?_⟩
         have e24 : a.tmps[24]? = some (.string (((⟨#[69]⟩ : ByteArray) ++ t323) ++ t327)) := by rw [ha]; exact putSel_on (e := (10, 24, .string (((⟨#[69]⟩ : ByteArray) ++ t323) ++ t327))) 7 rfl rfl (hon 10 B10x4_) rfl
         have e26 : a.tmps[26]? = some (.string a1_2) := by rw [ha]; exact putSel_on (e := (12, 26, .string a1_2)) 8 rfl rfl (hon 12 B10x4_) rfl
         replace ha := Aside0.mk ha
         have BK317 := Aside0.mk Q_BK317
         have HB := Aside0.mk Q_HB
         have HO322 := Aside0.mk (Q_HO322 (hon 3 B10x4_))
         have HO326 := Aside0.mk (Q_HO326 (hon 8 B10x4_))
         refine value_ (w1 := w') (v := .string ((((⟨#[69]⟩ : ByteArray) ++ t323) ++ t327) ++ a1_2)) (by rfl) rfl ?_ ?_
         ·go_simp
          (try simp only [i64_w])
          try rfl
         refine hK.out _ _ ⟨v321, v325, (by rw [ha.out]; exact putSel_upk 9 hb_ rfl rfl rfl), Q_BK317, Q_HB, Q_HO322, Q_HO326⟩
        refine steps_cons ?_ ?_
        ·rintro b a w' ⟨v321, v325, ha, Q_BK317, Q_HB, Q_HO322, Q_HO326⟩ hb_ hon hoff
         refine ⟨_, rfl, fun K hK => ?_⟩
         have e27 : a.tmps[27]? = some (.string ((((⟨#[69]⟩ : ByteArray) ++ t323) ++ t327) ++ a1_2)) := by rw [ha]; exact putSel_on (e := (13, 27, .string ((((⟨#[69]⟩ : ByteArray) ++ t323) ++ t327) ++ a1_2))) 9 rfl rfl (hon 13 B10x4_) rfl
         replace ha := Aside0.mk ha
         have BK317 := Aside0.mk Q_BK317
         have HB := Aside0.mk Q_HB
         have HO322 := Aside0.mk (Q_HO322 (hon 3 B10x4_))
         have HO326 := Aside0.mk (Q_HO326 (hon 8 B10x4_))
         refine value_ (w1 := w') (v := .string ((((⟨#[69]⟩ : ByteArray) ++ t323) ++ t327) ++ a1_2)) (by rfl) rfl ?_ ?_
         ·go_simp
          (try simp only [i64_w])
          try rfl
         refine hK.out _ _ ⟨v321, v325, (by rw [ha.out]; exact putSel_upk 10 hb_ rfl rfl rfl), Q_BK317, Q_HB, Q_HO322, Q_HO326⟩
        refine steps_cons ?_ ?_
        ·rintro b a w' ⟨v321, v325, ha, Q_BK317, Q_HB, Q_HO322, Q_HO326⟩ hb_ hon hoff
         refine ⟨_, rfl, fun K hK => ?_⟩
         replace ha := Aside0.mk ha
         have BK317 := Aside0.mk Q_BK317
         have HB := Aside0.mk Q_HB
         have HO322 := Aside0.mk (Q_HO322 (hon 3 B10x4_))
         have HO326 := Aside0.mk (Q_HO326 (hon 8 B10x4_))
         refine value_ (w1 := w') (v := .bool true) (by rfl) rfl ?_ ?_
         ·go_simp
          (try simp only [i64_w])
          try rfl
         refine hK.out _ _ ⟨v321, v325, (by rw [ha.out]; exact putSel_upk 11 hb_ rfl rfl rfl), Q_BK317, Q_HB, Q_HO322, Q_HO326⟩
        exact steps_nil
       rintro b a w27 hall ⟨v321, v325, ha, Q_BK317, Q_HB, Q_HO322, Q_HO326⟩
       clear BK317 HB
       have hb2_ := hall 2 B10x4_
       have hb3_ := hall 3 B10x4_
       have hb4_ := hall 4 B10x4_
       have hb5_ := hall 5 B10x4_
       have hb7_ := hall 7 B10x4_
       have hb8_ := hall 8 B10x4_
       have hb9_ := hall 9 B10x4_
       have hb10_ := hall 10 B10x4_
       have hb12_ := hall 12 B10x4_
       have hb13_ := hall 13 B10x4_
       have hb14_ := hall 14 B10x4_
       have hb15_ := hall 15 B10x4_
       subst ha
       simp only [putSel, hb2_, hb3_, hb4_, hb5_, hb7_, hb8_, hb9_, hb10_, hb12_, hb13_, hb14_, hb15_, if_true, Act.put, List.setIfInBounds_toArray, List.set_cons_zero, List.set_cons_succ]
       have BK317 := Aside0.mk Q_BK317
       clear Q_BK317
       have HB := Aside0.mk Q_HB
       clear Q_HB
       have HO322 := Aside0.mk (Q_HO322 hb3_)
       clear Q_HO322
       have HO326 := Aside0.mk (Q_HO326 hb8_)
       clear Q_HO326
       clear hall hb2_ hb3_ hb4_ hb5_ hb7_ hb8_ hb9_ hb10_ hb12_ hb13_ hb14_ hb15_
       try go_wp2
       go_ret2
       exact ⟨by first | rfl | (simp [errW_none, errW_some] <;> rfl) | (simp [*, errW_none, errW_some] <;> rfl), by repeat (first | (with_reducible first | exact HB.out | apply below_alloc | apply pw_below_drewN | apply below_drew1 | refine below_set ?_ GE317.out) | exact HB.out)⟩
      ·rw [if_neg c17] at H
       exact absurd H (by simp)
     ·rw [if_neg c16] at H
      exact absurd H (by simp)
    ·rw [if_neg c14] at H
     exact absurd H (by simp)

/-! ### impl_flag: function 101 -/
def impl_flag.f (a0 : Bool) : Option (Int) := if a0 = true then (some 1) else (some 0)
set_option maxHeartbeats 8000000 in
set_option maxRecDepth 100000 in
theorem impl_flag.calls (a0 : Bool) (r : Int) (w : World) (h : impl_flag.f a0 = some r) :
  Calls Try.prog 101 #[.bool a0] w fun e w' => e = .returned (.int .i64 r) ∧ Drawn0 w w' := by
 have H : (if a0 = true then (some 1) else (some 0)) = some r := h
 clear h
 by_cases c2 : a0 = true
 ·subst c2
  rw [if_pos rfl] at H
  obtain rfl := Option.some.inj H
  go_enter Try.func101, Try.ntmps101
  go_wp2
  go_ret
  exact ⟨by first | rfl | (simp; done) | (simp [*]; done), by repeat (first | exact Drawn0.refl _ | apply Drawn0.step)⟩
 ·replace c2 := Bool.eq_false_iff.mpr c2
  subst c2
  rw [if_neg (show ¬ (false = true) by decide)] at H
  obtain rfl := Option.some.inj H
  go_enter Try.func101, Try.ntmps101
  go_wp2
  go_ret
  exact ⟨by first | rfl | (simp; done) | (simp [*]; done), by repeat (first | exact Drawn0.refl _ | apply Drawn0.step)⟩

end Go.Proofs.Ythgjcijcmacpmaa.QFnExactEncode
