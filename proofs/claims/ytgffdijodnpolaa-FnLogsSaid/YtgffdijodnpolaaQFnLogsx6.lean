/- Functions that a law reaches, as functions of Lean, and the walks that show that the calls come to their answers: written by a program of this project out of the translation. No condition. -/
import Derived.Test.YtgffdijodnpolaaQFnLogsx0
import Derived.Test.YtgffdijodnpolaaQFnLogsx2
import Derived.Test.YtgffdijodnpolaaQFnLogsx5
import Derived.Test.YtgffdijodnpolaaVFnLogsShort4
import Derived.Test.YtgffdijodnpolaaVFnLogshort3
import Derived.Test.YtgffdijodnpolaaVFnLogsShort2
import Derived.Test.YtgffdijodnpolaaVFnLogsShort
namespace Go.Proofs.Ytgffdijodnpolaa.QFnLogs
open Go.RowKit Go.Proofs.YtgffdijodnpolaaW.PrintWords Go.Proofs.YtgffdijodnpolaaW.PrintLast Go.Proofs.YtgffdijodnpolaaW.PrintMore Go.Proofs.Ytgffdijodnpolaa.Short
attribute [local go_sem] max2_int min2_int max_two min_two max_three min_three max_four min_four   -- for this text's walks alone
set_option linter.unusedVariables false
set_option linter.unusedSimpArgs false

theorem B6x0_ {p : Prop} (h : p := by repeat (first | (with_reducible first | exact HI0.out | apply IsS107.alloc | apply IsS107.drewN | apply IsS107.drew | apply IsS107.set_1 | apply IsS107.set_2 | refine IsS107.far ?_ NB0_188.out _ | refine IsS107.far ?_ NB0_189.out _ | refine IsS107.far ?_ NB0_202.out _ | refine IsS107.far ?_ NB0_207.out _) | exact HI0.out)) : p := h
theorem B6x1_ {p : Prop} (h : p := by repeat (first | (with_reducible first | exact HB.out | apply below_alloc | apply pw_below_drewN | apply below_drew1 | refine below_set ?_ (IsS107.ge HI0.out) | refine below_set ?_ GE188.out | refine below_set ?_ GE189.out | refine below_set ?_ GE202.out | refine below_set ?_ GE207.out) | exact HB.out)) : p := h
theorem B6x2_ {p : Prop} (h : p := by repeat (first | (with_reducible first | exact HK.out | apply KeepBut.set_ | apply keep_drewN | apply keep_drew | apply keep_alloc | refine keep_far ?_ GW188.out _ | refine keep_far ?_ GW189.out _ | refine keep_far ?_ GW202.out _ | refine keep_far ?_ GW207.out _) | exact HK.out)) : p := h
theorem B6x3_ {p : Prop} (h : p := by repeat (first | (with_reducible first | exact HI0.out | apply IsS107.alloc | apply IsS107.drewN | apply IsS107.drew | apply IsS107.set_1 | apply IsS107.set_2 | refine IsS107.far ?_ NB0_188.out _ | refine IsS107.far ?_ NB0_189.out _) | exact HI0.out)) : p := h
theorem B6x4_ {p : Prop} (h : p := by (repeat (with_reducible (first | exact BK189.out | apply blk_drewN | apply blk_drew | apply blk_alloc | apply blk_put | apply bf NB189_202.out))); repeat (first | exact BK189.out | (simp only [List.setIfInBounds_toArray, List.set_cons_zero, List.set_cons_succ]; with_reducible rfl) | rfl)) : p := h
theorem B6x5_ {p : Prop} (h : p := by repeat (first | (with_reducible first | exact HK.out | apply KeepBut.set_ | apply keep_drewN | apply keep_drew | apply keep_alloc | refine keep_far ?_ GW188.out _ | refine keep_far ?_ GW189.out _) | exact HK.out)) : p := h
theorem B6x6_ {p : Prop} (h : p := by repeat (first | (with_reducible first | exact HB.out | apply below_alloc | apply pw_below_drewN | apply below_drew1 | refine below_set ?_ (IsS107.ge HI0.out) | refine below_set ?_ GE188.out | refine below_set ?_ GE189.out) | exact HB.out)) : p := h
theorem B6x7_ {p : Prop} (h : p := by (repeat (with_reducible (first | exact BK188.out | apply blk_drewN | apply blk_drew | apply blk_alloc | apply blk_put | apply bf NB188_202.out))); repeat (first | exact BK188.out | (simp only [List.setIfInBounds_toArray, List.set_cons_zero, List.set_cons_succ]; with_reducible rfl) | rfl)) : p := h
theorem B6x8_ {p : Prop} (h : p := by (try simp only [List.map_toArray, List.map_cons, List.map_nil]); first | done | rfl | (simp only [List.length_drop, List.length_take]; rfl)) : p := h
theorem B6x9_ {p : Prop} (h : p := by (repeat (with_reducible (first | exact BK202.out | apply blk_drewN | apply blk_drew | apply blk_alloc | apply blk_put))); repeat (first | exact BK202.out | (simp only [List.setIfInBounds_toArray, List.set_cons_zero, List.set_cons_succ]; with_reducible rfl) | rfl)) : p := h
theorem B6x10_ {p : Prop} (h : p := by repeat (first | (with_reducible first | exact HK.out | apply KeepBut.set_ | apply keep_drewN | apply keep_drew | apply keep_alloc | refine keep_far ?_ GW188.out _ | refine keep_far ?_ GW189.out _ | refine keep_far ?_ GW202.out _) | exact HK.out)) : p := h
theorem B6x11_ {p : Prop} (h : p := by repeat (first | (with_reducible first | exact HB.out | apply below_alloc | apply pw_below_drewN | apply below_drew1 | refine below_set ?_ GE184.out | refine below_set ?_ GE185.out) | exact HB.out)) : p := h
theorem B6x12_ {p : Prop} (h : p := by (repeat (with_reducible (first | exact BK207.out | apply blk_drewN | apply blk_drew | apply blk_alloc | apply blk_put | apply bf NB207_202.out))); repeat (first | exact BK207.out | (simp only [List.setIfInBounds_toArray, List.set_cons_zero, List.set_cons_succ]; with_reducible rfl) | rfl)) : p := h
theorem B6x13_ {p : Prop} (h : p := by first | rfl | (simp [errW_none, errW_some] <;> rfl) | (simp [*, errW_none, errW_some] <;> rfl)) : p := h
theorem B6x14_ {p : Prop} (h : p := by (with_reducible repeat (first | apply Kd.R_alloc | apply Kd.R_drewN | apply Kd.R_drew)); exact HO192.out) : p := h
theorem B6x15_ {p : Prop} (h : p := by first | (go_simp; done) | (go_simp; rfl)) : p := h
theorem B6x16_ {p : Prop} (h : p := by (repeat (with_reducible (first | exact BK188.out | apply blk_drewN | apply blk_drew | apply blk_alloc | apply blk_put | apply bf NB188_207.out))); repeat (first | exact BK188.out | (simp only [List.setIfInBounds_toArray, List.set_cons_zero, List.set_cons_succ]; with_reducible rfl) | rfl)) : p := h
theorem B6x17_ {p : Prop} (h : p := by (repeat (with_reducible (first | exact BK189.out | apply blk_drewN | apply blk_drew | apply blk_alloc | apply blk_put | apply bf NB189_207.out))); repeat (first | exact BK189.out | (simp only [List.setIfInBounds_toArray, List.set_cons_zero, List.set_cons_succ]; with_reducible rfl) | rfl)) : p := h
theorem B6x18_ {p : Prop} (h : p := by (repeat (with_reducible (first | exact BK202.out | apply blk_drewN | apply blk_drew | apply blk_alloc | apply blk_put | apply bf NB202_207.out))); repeat (first | exact BK202.out | (simp only [List.setIfInBounds_toArray, List.set_cons_zero, List.set_cons_succ]; with_reducible rfl) | rfl)) : p := h
theorem B6x19_ {p : Prop} (h : p := by repeat (first | (with_reducible first | exact HI0.out | apply IsS107.alloc | apply IsS107.drewN | apply IsS107.drew | apply IsS107.set_1 | apply IsS107.set_2 | refine IsS107.far ?_ NB0_188.out _ | refine IsS107.far ?_ NB0_189.out _ | refine IsS107.far ?_ NB0_202.out _) | exact HI0.out)) : p := h
theorem B6x20_ {p : Prop} (h : p := by repeat (first | (with_reducible first | exact HB.out | apply below_alloc | apply pw_below_drewN | apply below_drew1 | refine below_set ?_ (IsS107.ge HI0.out) | refine below_set ?_ GE188.out | refine below_set ?_ GE189.out | refine below_set ?_ GE202.out) | exact HB.out)) : p := h
theorem B6x21_ {p : Prop} (h : p := by (repeat (with_reducible (first | exact BK185.out | apply blk_drewN | apply blk_drew | apply blk_alloc | apply blk_put))); repeat (first | exact BK185.out | (simp only [List.setIfInBounds_toArray, List.set_cons_zero, List.set_cons_succ]; with_reducible rfl) | rfl)) : p := h
theorem B6x22_ {p : Prop} (h : p := by (repeat (with_reducible (first | exact BK189.out | apply blk_drewN | apply blk_drew | apply blk_alloc | apply blk_put))); repeat (first | exact BK189.out | (simp only [List.setIfInBounds_toArray, List.set_cons_zero, List.set_cons_succ]; with_reducible rfl) | rfl)) : p := h
theorem B6x23_ {p : Prop} (h : p := by (repeat (with_reducible (first | exact BK207.out | apply blk_drewN | apply blk_drew | apply blk_alloc | apply blk_put))); repeat (first | exact BK207.out | (simp only [List.setIfInBounds_toArray, List.set_cons_zero, List.set_cons_succ]; with_reducible rfl) | rfl)) : p := h
theorem B6x24_ {p : Prop} (h : p := by first | (with_reducible assumption) | assumption) : p := h
theorem B6x25_ {p : Prop} (h : p := by (with_reducible repeat (first | apply Kd.R_alloc | apply Kd.R_drewN | apply Kd.R_drew)); exact HO198.out) : p := h
theorem B6x26_ {p : Prop} (h : p := by kernel_rfl) : p := h
theorem B6x27_ {p : Prop} (h : p := by (with_reducible repeat (first | refine blk_drewN ?_ _ | refine blk_drew ?_ | refine blk_alloc ?_ _)); exact BK184.out) : p := h
theorem B6x28_ {p : Prop} (h : p := by (with_reducible repeat (first | refine blk_drewN ?_ _ | refine blk_drew ?_ | refine blk_alloc ?_ _)); exact BK185.out) : p := h
theorem B6x29_ {p : Prop} (h : p := by have := HJ5.out; first | omega | exact Nat.le_refl _) : p := h
/-! ### spec_ItemOf: function 110 -/
def spec_ItemOf.l0 : Nat → ByteArray → Int → List (S83) → List (S81) → Option (ByteArray × ByteArray × Int × Bool)
 | 0, _, _, _, _ => none
 | k + 1, x1, x6, x185000, x185001 => if x6 < (x185001.length : Int) then (if 0 ≤ x6 then (if ((rd_T81 x185001 x6).f0).toList = x1.toList then (some ((rd_T81 x185001 x6).f0, (rd_T81 x185001 x6).f1, (rd_T81 x185001 x6).f2, true)) else (spec_ItemOf.l0 k x1 (wrap64 (x6 + 1)) x185000 x185001)) else (none)) else (some ((⟨#[]⟩ : ByteArray), (⟨#[]⟩ : ByteArray), 0, false))
def spec_ItemOf.f (k : Nat) (l0_0 : List (S83)) (l0_1 : List (S81)) (a1 : ByteArray) : Option (ByteArray × ByteArray × Int × Bool) := spec_ItemOf.l0 k a1 0 l0_0 l0_1
theorem spec_ItemOf.mono_l : ∀ k, (∀ y0 y1 y2 y3, LeO (spec_ItemOf.l0 k y0 y1 y2 y3) (spec_ItemOf.l0 (k + 1) y0 y1 y2 y3))
 | 0 => fun _ _ _ _ r h => by simp [spec_ItemOf.l0] at h
 | k + 1 => by
  have ih0 := spec_ItemOf.mono_l k
  ·intro y0 y1 y2 y3
   unfold spec_ItemOf.l0
   repeat' first
   | (with_reducible exact ih0 _ _ _ _)
   | (with_reducible first | exact LeO.refl _ | exact LeO.none _ | refine LeO.ite ?_ ?_ | refine LeO.bind ?_ (fun _ => ?_))
   | exact ih0 _ _ _ _
theorem spec_ItemOf.mono : ∀ a0 a1 a2 k, LeO (spec_ItemOf.f k a0 a1 a2) (spec_ItemOf.f (k + 1) a0 a1 a2) := by
 intro a0 a1 a2 k
 have ih0 := spec_ItemOf.mono_l k
 unfold spec_ItemOf.f
 repeat' first
   | (with_reducible exact ih0 _ _ _ _)
   | (with_reducible first | exact LeO.refl _ | exact LeO.none _ | refine LeO.ite ?_ ?_ | refine LeO.bind ?_ (fun _ => ?_))
   | exact ih0 _ _ _ _
set_option maxHeartbeats 8000000 in
set_option maxRecDepth 100000 in
theorem spec_ItemOf.calls (k : Nat) (A0_0 : Option Addr) (c0_0 : Nat) (l0_0 : List (S83)) (A0_1 : Option Addr) (c0_1 : Nat) (l0_1 : List (S81)) (a1 : ByteArray) (r1 : ByteArray) (r2 : ByteArray) (r3 : Int) (r4 : Bool) (w : World) (hr0_0 : Kd.C k83 w A0_0 l0_0.length l0_0) (hc0_0 : l0_0.length ≤ c0_0) (hr0_1 : Kd.C k81 w A0_1 l0_1.length l0_1) (hc0_1 : l0_1.length ≤ c0_1) (h : spec_ItemOf.f k l0_0 l0_1 a1 = some (r1, r2, r3, r4)) :
  Calls Try.prog 110 #[.agg #[.slice A0_0 l0_0.length c0_0, .slice A0_1 l0_1.length c0_1], .string a1] w fun e w' => e = .returned (.tuple #[.agg #[.string r1, .string r2, .int .i64 r3], .bool r4]) ∧ Below w.heap.size w w' := by
 have hu47 := Try.underlying47
 have hu81 := Try.underlying81
 have HR0_0 := Aside0.mk hr0_0
 have HC0_0 := Aside0.mk hc0_0
 clear hr0_0 hc0_0
 have HR0_1 := Aside0.mk hr0_1
 have HC0_1 := Aside0.mk hc0_1
 clear hr0_1 hc0_1
 have HB := Aside0.mk (Below.refl w.heap.size w)
 have H : (spec_ItemOf.l0 k a1 0 l0_0 l0_1) = some (r1, r2, r3, r4) := h
 clear h
 have H' := Aside0.mk H
 clear H
 go_enter Try.func110, Try.ntmps110
 go_wp2_with (first | ((with_reducible refine gate_dst (N := 2) rfl ?_); refine box_event ?hg (N := 2) ?hd (cs := #[.slice A0_0 l0_0.length c0_0, .slice A0_1 l0_1.length c0_1]) (t := 47) ?hr ?_; (case hd => rfl); (case hg => rfl); (case hr => exact B6x15_); intro gb184 hg w3 hbox hb; have BK184 := Aside0.mk (hbox); have GW184 := Aside0.mk ((bs hg (below_size HB.out))); have GE184 := Aside0.mk ((bs hg (below_size HB.out))); replace HB := Aside0.mk (below_step (by repeat (first | (with_reducible first | exact HB.out | apply below_alloc | apply pw_below_drewN | apply below_drew1) | exact HB.out)) hb); clear hb hbox hg) | ((with_reducible refine gate_dst (N := 4) rfl ?_); refine box_event ?hg (N := 4) ?hd (cs := #[.string (⟨#[]⟩ : ByteArray), .string (⟨#[]⟩ : ByteArray), .int .i64 0]) (t := 81) ?hr ?_; (case hd => rfl); (case hg => rfl); (case hr => exact B6x15_); intro gb185 hg w4 hbox hb; have BK185 := Aside0.mk (hbox); have GW185 := Aside0.mk ((bs hg (below_size HB.out))); have GE185 := Aside0.mk ((bs hg (below_size HB.out))); replace HB := Aside0.mk (below_step (by repeat (first | (with_reducible first | exact HB.out | apply below_alloc | apply pw_below_drewN | apply below_drew1 | refine below_set ?_ GE184.out) | exact HB.out)) hb); have NB184_185 := Aside0.mk ((nl hg (blk_lt BK184.out))); have NB185_184 := Aside0.mk ((ng hg (blk_lt BK184.out))); replace BK184 := Aside0.mk (bb BK184.out hb); clear hb hbox hg))
 go_loopg [6] k (fun kq v6 w' => ∃ (x6_1 : Int) (x186000_1 : ByteArray) (x186001_1 : ByteArray) (x186002_1 : Int), v6 = .int .i64 x6_1 ∧ Aside0 (spec_ItemOf.l0 kq a1 x6_1 l0_0 l0_1 = some (r1, r2, r3, r4)) ∧ Aside0 (kq ≤ k) ∧ Aside0 (w'.heap[gb184]? = some (.cells #[(.slice A0_0 l0_0.length c0_0), (.slice A0_1 l0_1.length c0_1)] 47 (0, 0))) ∧ Aside0 (w'.heap[gb185]? = some (.cells #[.string x186000_1, .string x186001_1, .int .i64 x186002_1] 81 (0, 0))) ∧ Aside0 (Below w.heap.size w w'))
 case atStart => exact ⟨(0), ((⟨#[]⟩ : ByteArray)), ((⟨#[]⟩ : ByteArray)), (0), (be_), H', ⟨Nat.le_refl _⟩, ⟨B6x27_⟩, ⟨B6x28_⟩, ⟨B6x11_⟩⟩
 case round =>
  clear H'
  obtain ⟨x6_1, x186000_1, x186001_1, x186002_1, rfl, HA, HK1, BK184, BK185, HB⟩ := hrel
  cases gk with
  | zero => exact absurd HA.out (by simp [spec_ItemOf.l0])
  | succ k1 =>
   have H := HA.out
   clear HA
   simp only [spec_ItemOf.l0] at H
   by_cases c5 : x6_1 < (l0_1.length : Int)
   ·rw [if_pos c5] at H
    have c5b0 : decide (x6_1 < (l0_1.length : Int)) = true := decide_eq_true c5
    clear c5
    by_cases c6 : 0 ≤ x6_1
    rotate_left
    ·rw [if_neg c6] at H
     exact absurd H (by simp)
    rw [if_pos c6] at H
    have c6b0 : decide (0 ≤ x6_1) = true := decide_eq_true c6
    clear c6
    by_cases c7 : ((rd_T81 l0_1 x6_1).f0).toList = a1.toList
    ·rw [if_pos c7] at H
     have c7b0 := beq_iff_eq.mpr c7
     have c7b1 := bne_eq_false_iff_eq.mpr c7
     clear c7
     simp only [Option.some.injEq, Prod.mk.injEq] at H
     obtain ⟨rfl, rfl, rfl, rfl⟩ := H
     have hnb8 := NB184_185.out
     have hnc8 := NB185_184.out
     obtain ⟨hcz9_0, hcz9_1⟩ := cl2 BK184.out
     obtain ⟨hfz9_0, hfz9_1⟩ := fr2 BK184.out
     have p186 : 0 ≤ (x6_1 : Int) := of_decide_eq_true B6x24_
     have q186 : x6_1 < (l0_1.length : Int) := of_decide_eq_true B6x24_
     obtain ⟨ad186, e186, hx186_0, hx186_1, hx186_2⟩ := at_T81 HR0_1.out x6_1 p186 q186
     cases e186
     replace hx186_0 := (HB.out.cell (World.block_lt_of_cell? w _ hx186_0)).trans hx186_0
     replace hx186_1 := (HB.out.cell (World.block_lt_of_cell? w _ hx186_1)).trans hx186_1
     replace hx186_2 := (HB.out.cell (World.block_lt_of_cell? w _ hx186_2)).trans hx186_2
     replace p186 := eq_true p186
     replace q186 := eq_true q186
     have p187 : 0 ≤ (x6_1 : Int) := of_decide_eq_true B6x24_
     have q187 : x6_1 < (l0_1.length : Int) := of_decide_eq_true B6x24_
     obtain ⟨ad187, e187, hx187_0, hx187_1, hx187_2⟩ := at_T81 HR0_1.out x6_1 p187 q187
     obtain rfl : ad186 = ad187 := (by injection e187)
     replace hx187_0 := (HB.out.cell (World.block_lt_of_cell? w _ hx187_0)).trans hx187_0
     replace hx187_1 := (HB.out.cell (World.block_lt_of_cell? w _ hx187_1)).trans hx187_1
     replace hx187_2 := (HB.out.cell (World.block_lt_of_cell? w _ hx187_2)).trans hx187_2
     replace p187 := eq_true p187
     replace q187 := eq_true q187
     obtain ⟨hcz10_0, hcz10_1, hcz10_2⟩ := cl3 BK185.out
     obtain ⟨hfz10_0, hfz10_1, hfz10_2⟩ := fr3 BK185.out
     go_wp2
     refine bodyPost_ret (results_ct rfl _ _ gb185 81 #[.string ((rd_T81 l0_1 x6_1).f0), .string ((rd_T81 l0_1 x6_1).f1), .int .i64 ((rd_T81 l0_1 x6_1).f2)] (0, 0) _ rfl B6x21_ Try.underlying81 rfl B6x26_) rfl ?_
     exact ⟨B6x13_, B6x11_⟩
    ·rw [if_neg c7] at H
     have c7b0 := beq_eq_false_iff_ne.mpr c7
     have c7b1 := bne_iff_ne.mpr c7
     have H' := Aside0.mk H
     clear H
     have hnb11 := NB184_185.out
     have hnc11 := NB185_184.out
     obtain ⟨hcz12_0, hcz12_1⟩ := cl2 BK184.out
     obtain ⟨hfz12_0, hfz12_1⟩ := fr2 BK184.out
     have p186 : 0 ≤ (x6_1 : Int) := of_decide_eq_true B6x24_
     have q186 : x6_1 < (l0_1.length : Int) := of_decide_eq_true B6x24_
     obtain ⟨ad186, e186, hx186_0, hx186_1, hx186_2⟩ := at_T81 HR0_1.out x6_1 p186 q186
     cases e186
     replace hx186_0 := (HB.out.cell (World.block_lt_of_cell? w _ hx186_0)).trans hx186_0
     replace hx186_1 := (HB.out.cell (World.block_lt_of_cell? w _ hx186_1)).trans hx186_1
     replace hx186_2 := (HB.out.cell (World.block_lt_of_cell? w _ hx186_2)).trans hx186_2
     replace p186 := eq_true p186
     replace q186 := eq_true q186
     go_wp2
     go_roundg k1
     case measure => have := HK1.out; omega
     case rel => exact ⟨(wrap64 (x6_1 + 1)), (x186000_1), (x186001_1), (x186002_1), (be_), H', ⟨(by have := HK1.out; omega)⟩, ⟨B6x27_⟩, ⟨B6x28_⟩, ⟨B6x11_⟩⟩
   ·rw [if_neg c5] at H
    have c5b0 : decide (x6_1 < (l0_1.length : Int)) = false := decide_eq_false c5
    clear c5
    simp only [Option.some.injEq, Prod.mk.injEq] at H
    obtain ⟨rfl, rfl, rfl, rfl⟩ := H
    have hnb13 := NB184_185.out
    have hnc13 := NB185_184.out
    obtain ⟨hcz14_0, hcz14_1⟩ := cl2 BK184.out
    obtain ⟨hfz14_0, hfz14_1⟩ := fr2 BK184.out
    obtain ⟨hcz15_0, hcz15_1, hcz15_2⟩ := cl3 BK185.out
    obtain ⟨hfz15_0, hfz15_1, hfz15_2⟩ := fr3 BK185.out
    go_wp2
    refine bodyPost_ret (results_ct rfl _ _ gb185 81 #[.string (⟨#[]⟩ : ByteArray), .string (⟨#[]⟩ : ByteArray), .int .i64 0] (0, 0) _ rfl B6x21_ Try.underlying81 rfl B6x26_) rfl ?_
    exact ⟨B6x13_, B6x11_⟩

/-! ### spec_l15Of: function 105 -/
mutual
def spec_l15Of.j0 : Nat → Bool → Bool → List Int → Int → Int → Int → Int → Int → ByteArray → ByteArray → Int → ByteArray → ByteArray → Int → Option (Int × Int × Int × ByteArray × ByteArray × Int × Int × Int)
 | 0, _, _, _, _, _, _, _, _, _, _, _, _, _, _ => none
 | k + 1, x7, x29, x1000, x1001, x1002, x203000, x203001, x203002, x203003, x203004, x203005, x208000, x208001, x208002 => if x29 = true then ((spec_l01Pick.f x1000 x1001 x1002 (([(⟨#[]⟩ : ByteArray), (⟨#[49]⟩ : ByteArray), (⟨#[116, 119, 111]⟩ : ByteArray), (⟨#[116, 104, 114, 101, 101]⟩ : ByteArray)] : List ByteArray))).bind fun bt211 => (spec_l15Of.j1 k x7 x1000 bt211.2.1 bt211.2.2 x203000 x203001 x203002 x203003 bt211.1 x203005 x208000 x208001 x208002)) else (spec_l15Of.j1 k x7 x1000 x1001 x1002 x203000 x203001 x203002 x203003 x203004 x203005 x208000 x208001 x208002)
def spec_l15Of.j1 : Nat → Bool → List Int → Int → Int → Int → Int → Int → ByteArray → ByteArray → Int → ByteArray → ByteArray → Int → Option (Int × Int × Int × ByteArray × ByteArray × Int × Int × Int)
 | 0, _, _, _, _, _, _, _, _, _, _, _, _, _ => none
 | k + 1, x7, x1000, x1001, x1002, x203000, x203001, x203002, x203003, x203004, x203005, x208000, x208001, x208002 => if x203000 = 5 then ((spec_l01Below.f x1000 x1001 x1002 20).bind fun bt214 => (if x7 = true then ((spec_l01Once.f x1000 bt214.2.1 bt214.2.2 3).bind fun bt217 => (if bt217.1 = true then (some (x203000, x203001, x203002, x203003, x203004, wrap64 (1 + bt214.1), bt217.2.1, bt217.2.2)) else (some (x203000, x203001, x203002, x203003, x203004, x208002, bt217.2.1, bt217.2.2)))) else (some (x203000, x203001, x203002, x203003, x203004, wrap64 (1 + bt214.1), bt214.2.1, bt214.2.2)))) else (some (x203000, x203001, x203002, x203003, x203004, x203005, x1001, x1002))
end
def spec_l15Of.f (k : Nat) (s0_0 : List Int) (s0_1 : Int) (s0_2 : Int) (l1_0 : List (S83)) (l1_1 : List (S81)) : Option (Int × Int × Int × ByteArray × ByteArray × Int × Int × Int) := (spec_l01PickInt.f s0_0 s0_1 s0_2 (([2, 2, 2, 3, 3, 4, 5, 5] : List Int))).bind fun bt193 => ((spec_l01Pick.f s0_0 bt193.2.1 bt193.2.2 (([(⟨#[97]⟩ : ByteArray), (⟨#[98]⟩ : ByteArray), (⟨#[99]⟩ : ByteArray), (⟨#[114, 111, 111, 116]⟩ : ByteArray), (⟨#[120, 49]⟩ : ByteArray)] : List ByteArray))).bind fun bt199 => ((spec_ItemOf.f k l1_0 l1_1 bt199.1).bind fun bt203 => (if bt193.1 = 2 then (spec_l15Of.j0 k bt203.2.2.2 true s0_0 bt199.2.1 bt199.2.2 bt193.1 0 0 bt199.1 (⟨#[]⟩ : ByteArray) 0 bt203.1 bt203.2.1 bt203.2.2.1) else (spec_l15Of.j0 k bt203.2.2.2 (bt193.1 == 5) s0_0 bt199.2.1 bt199.2.2 bt193.1 0 0 bt199.1 (⟨#[]⟩ : ByteArray) 0 bt203.1 bt203.2.1 bt203.2.2.1))))
theorem spec_l15Of.mono_l : ∀ k, (∀ y0 y1 y2 y3 y4 y5 y6 y7 y8 y9 y10 y11 y12 y13, LeO (spec_l15Of.j0 k y0 y1 y2 y3 y4 y5 y6 y7 y8 y9 y10 y11 y12 y13) (spec_l15Of.j0 (k + 1) y0 y1 y2 y3 y4 y5 y6 y7 y8 y9 y10 y11 y12 y13)) ∧ (∀ y0 y1 y2 y3 y4 y5 y6 y7 y8 y9 y10 y11 y12, LeO (spec_l15Of.j1 k y0 y1 y2 y3 y4 y5 y6 y7 y8 y9 y10 y11 y12) (spec_l15Of.j1 (k + 1) y0 y1 y2 y3 y4 y5 y6 y7 y8 y9 y10 y11 y12))
 | 0 => ⟨fun _ _ _ _ _ _ _ _ _ _ _ _ _ _ r h => by simp [spec_l15Of.j0] at h, fun _ _ _ _ _ _ _ _ _ _ _ _ _ r h => by simp [spec_l15Of.j1] at h⟩
 | k + 1 => by
  obtain ⟨ih0, ih1⟩ := spec_l15Of.mono_l k
  refine ⟨?_, ?_⟩
  ·intro y0 y1 y2 y3 y4 y5 y6 y7 y8 y9 y10 y11 y12 y13
   unfold spec_l15Of.j0
   repeat' first
   | (with_reducible exact ih0 _ _ _ _ _ _ _ _ _ _ _ _ _ _)
   | (with_reducible exact ih1 _ _ _ _ _ _ _ _ _ _ _ _ _)
   | (with_reducible exact spec_ItemOf.mono _ _ _ _)
   | (with_reducible first | exact LeO.refl _ | exact LeO.none _ | refine LeO.ite ?_ ?_ | refine LeO.bind ?_ (fun _ => ?_))
   | exact ih0 _ _ _ _ _ _ _ _ _ _ _ _ _ _
   | exact ih1 _ _ _ _ _ _ _ _ _ _ _ _ _
   | exact spec_ItemOf.mono _ _ _ _
  ·intro y0 y1 y2 y3 y4 y5 y6 y7 y8 y9 y10 y11 y12
   unfold spec_l15Of.j1
   repeat' first
   | (with_reducible exact ih0 _ _ _ _ _ _ _ _ _ _ _ _ _ _)
   | (with_reducible exact ih1 _ _ _ _ _ _ _ _ _ _ _ _ _)
   | (with_reducible exact spec_ItemOf.mono _ _ _ _)
   | (with_reducible first | exact LeO.refl _ | exact LeO.none _ | refine LeO.ite ?_ ?_ | refine LeO.bind ?_ (fun _ => ?_))
   | exact ih0 _ _ _ _ _ _ _ _ _ _ _ _ _ _
   | exact ih1 _ _ _ _ _ _ _ _ _ _ _ _ _
   | exact spec_ItemOf.mono _ _ _ _
theorem spec_l15Of.mono : ∀ a0 a1 a2 a3 a4 k, LeO (spec_l15Of.f k a0 a1 a2 a3 a4) (spec_l15Of.f (k + 1) a0 a1 a2 a3 a4) := by
 intro a0 a1 a2 a3 a4 k
 obtain ⟨ih0, ih1⟩ := spec_l15Of.mono_l k
 unfold spec_l15Of.f
 repeat' first
   | (with_reducible exact ih0 _ _ _ _ _ _ _ _ _ _ _ _ _ _)
   | (with_reducible exact ih1 _ _ _ _ _ _ _ _ _ _ _ _ _)
   | (with_reducible exact spec_ItemOf.mono _ _ _ _)
   | (with_reducible first | exact LeO.refl _ | exact LeO.none _ | refine LeO.ite ?_ ?_ | refine LeO.bind ?_ (fun _ => ?_))
   | exact ih0 _ _ _ _ _ _ _ _ _ _ _ _ _ _
   | exact ih1 _ _ _ _ _ _ _ _ _ _ _ _ _
   | exact spec_ItemOf.mono _ _ _ _
set_option maxHeartbeats 8000000 in
set_option maxRecDepth 100000 in
theorem spec_l15Of.calls (k : Nat) (g : Nat) (s0_0 : List Int) (s0_1 : Int) (s0_2 : Int) (A1_0 : Option Addr) (c1_0 : Nat) (l1_0 : List (S83)) (A1_1 : Option Addr) (c1_1 : Nat) (l1_1 : List (S81)) (r1 : Int) (r2 : Int) (r3 : Int) (r4 : ByteArray) (r5 : ByteArray) (r6 : Int) (r7 : Int) (r8 : Int) (w0 w : World) (hI : IsS107 w0 w g s0_0 s0_1 s0_2) (hB : Below w0.heap.size w0 w) (hr1_0 : ∀ W_, KeepBut w W_ g none → Kd.C k83 W_ A1_0 l1_0.length l1_0) (hc1_0 : l1_0.length ≤ c1_0) (hr1_1 : ∀ W_, KeepBut w W_ g none → Kd.C k81 W_ A1_1 l1_1.length l1_1) (hc1_1 : l1_1.length ≤ c1_1) (h : spec_l15Of.f k s0_0 s0_1 s0_2 l1_0 l1_1 = some (r1, r2, r3, r4, r5, r6, r7, r8)) :
  Calls Try.prog 105 #[.pointer (some ⟨g, 0, none⟩), .agg #[.slice A1_0 l1_0.length c1_0, .slice A1_1 l1_1.length c1_1]] w fun e w' => e = .returned (.agg #[.int .i64 r1, .int .i64 r2, .int .i64 r3, .string r4, .string r5, .int .i64 r6]) ∧ IsS107 w0 w' g s0_0 r7 r8 ∧ Below w0.heap.size w0 w' ∧ KeepBut w w' g none := by
 have hu47 := Try.underlying47
 have hu59 := Try.underlying59
 have hu81 := Try.underlying81
 have HR1_0 := Aside0.mk hr1_0
 have HC1_0 := Aside0.mk hc1_0
 clear hr1_0 hc1_0
 have HR1_1 := Aside0.mk hr1_1
 have HC1_1 := Aside0.mk hc1_1
 clear hr1_1 hc1_1
 have HI0 := Aside0.mk hI
 have HK := Aside0.mk (KeepBut.refl w g none)
 have HL := Aside0.mk hB.size
 clear hI
 have HW0 := Aside0.mk hB.size
 have HB := Aside0.mk hB
 clear hB
 have H : ((spec_l01PickInt.f s0_0 s0_1 s0_2 (([2, 2, 2, 3, 3, 4, 5, 5] : List Int))).bind fun bt193 => ((spec_l01Pick.f s0_0 bt193.2.1 bt193.2.2 (([(⟨#[97]⟩ : ByteArray), (⟨#[98]⟩ : ByteArray), (⟨#[99]⟩ : ByteArray), (⟨#[114, 111, 111, 116]⟩ : ByteArray), (⟨#[120, 49]⟩ : ByteArray)] : List ByteArray))).bind fun bt199 => ((spec_ItemOf.f k l1_0 l1_1 bt199.1).bind fun bt203 => (if bt193.1 = 2 then (spec_l15Of.j0 k bt203.2.2.2 true s0_0 bt199.2.1 bt199.2.2 bt193.1 0 0 bt199.1 (⟨#[]⟩ : ByteArray) 0 bt203.1 bt203.2.1 bt203.2.2.1) else (spec_l15Of.j0 k bt203.2.2.2 (bt193.1 == 5) s0_0 bt199.2.1 bt199.2.2 bt193.1 0 0 bt199.1 (⟨#[]⟩ : ByteArray) 0 bt203.1 bt203.2.1 bt203.2.2.1))))) = some (r1, r2, r3, r4, r5, r6, r7, r8) := h
 clear h
 obtain ⟨y190, hy190⟩ : ∃ y_ : List Int, y_ = (([2, 2, 2, 3, 3, 4, 5, 5] : List Int)) := ⟨_, rfl⟩
 replace H : ((spec_l01PickInt.f s0_0 s0_1 s0_2 y190).bind fun bt193 => ((spec_l01Pick.f s0_0 bt193.2.1 bt193.2.2 (([(⟨#[97]⟩ : ByteArray), (⟨#[98]⟩ : ByteArray), (⟨#[99]⟩ : ByteArray), (⟨#[114, 111, 111, 116]⟩ : ByteArray), (⟨#[120, 49]⟩ : ByteArray)] : List ByteArray))).bind fun bt199 => ((spec_ItemOf.f k l1_0 l1_1 bt199.1).bind fun bt203 => (if bt193.1 = 2 then (spec_l15Of.j0 k bt203.2.2.2 true s0_0 bt199.2.1 bt199.2.2 bt193.1 0 0 bt199.1 (⟨#[]⟩ : ByteArray) 0 bt203.1 bt203.2.1 bt203.2.2.1) else (spec_l15Of.j0 k bt203.2.2.2 (bt193.1 == 5) s0_0 bt199.2.1 bt199.2.2 bt193.1 0 0 bt199.1 (⟨#[]⟩ : ByteArray) 0 bt203.1 bt203.2.1 bt203.2.2.1))))) = some (r1, r2, r3, r4, r5, r6, r7, r8) := by first | (rw [hy190]; with_reducible exact H) | (have H2_ := (Option.bind_some _ _).symm.trans H; rw [hy190]; with_reducible exact H2_) | (have H2_ := (Option.bind_some _ _).symm.trans H; with_reducible exact H2_) | with_reducible exact H | (rw [hy190]; exact H) | exact H
 have Ny190 := Aside0.mk hy190
 clear hy190
 replace H := bsi H
 obtain ⟨⟨t193, t194, t195⟩, A3, H⟩ := H
 (try dsimp only at H)
 obtain ⟨y196, hy196⟩ : ∃ y_ : List ByteArray, y_ = (([(⟨#[97]⟩ : ByteArray), (⟨#[98]⟩ : ByteArray), (⟨#[99]⟩ : ByteArray), (⟨#[114, 111, 111, 116]⟩ : ByteArray), (⟨#[120, 49]⟩ : ByteArray)] : List ByteArray)) := ⟨_, rfl⟩
 replace H : ((spec_l01Pick.f s0_0 t194 t195 y196).bind fun bt199 => ((spec_ItemOf.f k l1_0 l1_1 bt199.1).bind fun bt203 => (if t193 = 2 then (spec_l15Of.j0 k bt203.2.2.2 true s0_0 bt199.2.1 bt199.2.2 t193 0 0 bt199.1 (⟨#[]⟩ : ByteArray) 0 bt203.1 bt203.2.1 bt203.2.2.1) else (spec_l15Of.j0 k bt203.2.2.2 (t193 == 5) s0_0 bt199.2.1 bt199.2.2 t193 0 0 bt199.1 (⟨#[]⟩ : ByteArray) 0 bt203.1 bt203.2.1 bt203.2.2.1)))) = some (r1, r2, r3, r4, r5, r6, r7, r8) := by first | (rw [hy196]; with_reducible exact H) | (have H2_ := (Option.bind_some _ _).symm.trans H; rw [hy196]; with_reducible exact H2_) | (have H2_ := (Option.bind_some _ _).symm.trans H; with_reducible exact H2_) | with_reducible exact H | (rw [hy196]; exact H) | exact H
 have Ny196 := Aside0.mk hy196
 clear hy196
 replace H := bsi H
 obtain ⟨⟨t199, t200, t201⟩, A4, H⟩ := H
 (try dsimp only at H)
 replace H := bsi H
 obtain ⟨⟨t203, t204, t205, t206⟩, A5, H⟩ := H
 (try dsimp only at H)
 have HC6 := Aside0.mk H
 clear H
 go_enter Try.func105, Try.ntmps105
 go_upto_region 3 with (first | ((with_reducible refine gate_dst (N := 3) rfl ?_); refine box_event ?hg (N := 3) ?hd (cs := #[.slice A1_0 l1_0.length c1_0, .slice A1_1 l1_1.length c1_1]) (t := 47) ?hr ?_; (case hd => rfl); (case hg => rfl); (case hr => exact B6x15_); intro gb188 hg w7 hbox hb; replace HB := Aside0.mk (below_step (by repeat (first | (with_reducible first | exact HB.out | apply below_alloc | apply pw_below_drewN | apply below_drew1 | refine below_set ?_ (IsS107.ge HI0.out)) | exact HB.out)) hb); have BK188 := Aside0.mk (hbox); have GW188 := Aside0.mk ((bs hg (keep_size HK.out))); have GE188 := Aside0.mk ((Nat.le_trans HW0.out (bs hg (keep_size HK.out)) : w0.heap.size ≤ gb188)); replace HK := Aside0.mk (KeepBut.trans (by repeat (first | (with_reducible first | exact HK.out | apply KeepBut.set_ | apply keep_drewN | apply keep_drew | apply keep_alloc) | exact HK.out)) (KeepBut.of_below hb g none) (.inl rfl)); have NB0_188 := Aside0.mk ((nl hg (IsS107.lt HI0.out))); have NB188_0 := Aside0.mk ((ng hg (IsS107.lt HI0.out))); replace HI0 := Aside0.mk (IsS107.below (by repeat (first | (with_reducible first | exact HI0.out | apply IsS107.alloc | apply IsS107.drewN | apply IsS107.drew | apply IsS107.set_1 | apply IsS107.set_2) | exact HI0.out)) hb); clear hb hbox hg) | ((with_reducible refine gate_dst (N := 4) rfl ?_); refine box_event ?hg (N := 4) ?hd (cs := #[.int .i64 0, .int .i64 0, .int .i64 0, .string (⟨#[]⟩ : ByteArray), .string (⟨#[]⟩ : ByteArray), .int .i64 0]) (t := 59) ?hr ?_; (case hd => rfl); (case hg => rfl); (case hr => exact B6x15_); intro gb189 hg w8 hbox hb; replace HB := Aside0.mk (below_step (by repeat (first | (with_reducible first | exact HB.out | apply below_alloc | apply pw_below_drewN | apply below_drew1 | refine below_set ?_ (IsS107.ge HI0.out) | refine below_set ?_ GE188.out) | exact HB.out)) hb); have BK189 := Aside0.mk (hbox); have GW189 := Aside0.mk ((bs hg (keep_size HK.out))); have GE189 := Aside0.mk ((Nat.le_trans HW0.out (bs hg (keep_size HK.out)) : w0.heap.size ≤ gb189)); replace HK := Aside0.mk (KeepBut.trans (by repeat (first | (with_reducible first | exact HK.out | apply KeepBut.set_ | apply keep_drewN | apply keep_drew | apply keep_alloc | refine keep_far ?_ GW188.out _) | exact HK.out)) (KeepBut.of_below hb g none) (.inl rfl)); have NB188_189 := Aside0.mk ((nl hg (blk_lt BK188.out))); have NB189_188 := Aside0.mk ((ng hg (blk_lt BK188.out))); replace BK188 := Aside0.mk (bb BK188.out hb); have NB0_189 := Aside0.mk ((nl hg (IsS107.lt HI0.out))); have NB189_0 := Aside0.mk ((ng hg (IsS107.lt HI0.out))); replace HI0 := Aside0.mk (IsS107.below (by repeat (first | (with_reducible first | exact HI0.out | apply IsS107.alloc | apply IsS107.drewN | apply IsS107.drew | apply IsS107.set_1 | apply IsS107.set_2 | refine IsS107.far ?_ NB0_188.out _) | exact HI0.out)) hb); clear hb hbox hg) | ((with_reducible refine gate_dst (N := 9) rfl ?_); refine Kd.R_lit (Kd.int .i64) _ 3 ?hg (N := 9) ?hd (xs := ([2, 2, 2, 3, 3, 4, 5, 5] : List Int)) (inner := [.int .i64 2, .int .i64 2, .int .i64 2, .int .i64 3, .int .i64 3, .int .i64 4, .int .i64 5, .int .i64 5]) (ok := fun _ => True) (okp := fun _ => True) ?hr ?hp (fun _ hk => hk) trivial (Below.refl _ _) (Nat.le_refl _) (by simp) ?_; (case hd => rfl); (case hg => rfl); (case hr => exact B6x15_); (case hp => exact (Reps.one (show Kd.M (Kd.int .i64) _ _ _ 2 [.int .i64 2] from rfl) (Reps.one (show Kd.M (Kd.int .i64) _ _ _ 2 [.int .i64 2] from rfl) (Reps.one (show Kd.M (Kd.int .i64) _ _ _ 2 [.int .i64 2] from rfl) (Reps.one (show Kd.M (Kd.int .i64) _ _ _ 3 [.int .i64 3] from rfl) (Reps.one (show Kd.M (Kd.int .i64) _ _ _ 3 [.int .i64 3] from rfl) (Reps.one (show Kd.M (Kd.int .i64) _ _ _ 4 [.int .i64 4] from rfl) (Reps.one (show Kd.M (Kd.int .i64) _ _ _ 5 [.int .i64 5] from rfl) (Reps.one (show Kd.M (Kd.int .i64) _ _ _ 5 [.int .i64 5] from rfl) (Reps.none _ _)))))))))); intro v191 w9 ho10 hb hg_ hnew_; clear hg_ hnew_; (first | rw [← Ny190.out] at ho10 | (simp only [Int.reduceToNat] at ho10; rw [← Ny190.out] at ho10)); have HO192 := Aside0.mk (Kd.R_lower ho10 (keep_size (w := w) (g := g) (row := none) B6x5_)); replace BK188 := Aside0.mk (bb BK188.out hb); replace BK189 := Aside0.mk (bb BK189.out hb); replace HK := Aside0.mk (KeepBut.trans B6x5_ (KeepBut.of_below hb g none) (.inl rfl)); replace HB := Aside0.mk (below_step B6x6_ hb); replace HI0 := Aside0.mk (IsS107.below B6x3_ hb); clear hb ho10; obtain ⟨Ao11, co11, eo11⟩ := Kd.R_slice HO192.out; subst eo11) | ((with_reducible refine gate_callee (f := 80) rfl ?_); refine goesL_ (some 10) rfl rfl Try.func80 B6x26_ rfl #[.pointer (some ⟨g, 0, none⟩), .slice Ao11 y190.length co11] rfl B6x8_ ?_; (with_reducible refine (spec_l01PickInt.calls g s0_0 s0_1 s0_2 _ _ y190 t193 t194 t195 w0 _ ?side1 ?side2 ?side3 ?side4 ?side5 A3.out).mono ?_); (case side1 => exact B6x3_); (case side2 => exact B6x6_); (case side3 => repeat (first | exact (Kd.R_reads' HO192.out).2.2 | (with_reducible refine Kd.C_alloc ?_ _) | (with_reducible refine Kd.C_drewN ?_ _) | (with_reducible refine Kd.C_drew ?_))); (case side4 => exact (Kd.R_reads' HO192.out).2.1); (case side5 => exact far_slice (IsS107.own_ne HI0.out HO192.out (by decide))); rintro e w12 ⟨rfl, hi, hb, hk⟩; refine ⟨_, rfl, ?_⟩; replace BK188 := Aside0.mk (kb hk BK188.out NB188_0.out); replace BK189 := Aside0.mk (kb hk BK189.out NB189_0.out); replace HO192 := Aside0.mk (Kd.R_mono (Kd.R_keep (IsS107.apart (show IsS107 w0 _ g s0_0 s0_1 s0_2 from B6x3_) B6x14_ (by decide)) hk (fun _ h => h.2)) (fun _ h => h.1)); replace HK := Aside0.mk (KeepBut.trans B6x5_ hk (.inl rfl)); replace HB := Aside0.mk (hb); replace HI0 := Aside0.mk (hi); (try clear hb hk hi)) | ((with_reducible refine gate_dst (N := 12) rfl ?_); refine Kd.R_lit Kd.string _ 9 ?hg (N := 12) ?hd (xs := ([(⟨#[97]⟩ : ByteArray), (⟨#[98]⟩ : ByteArray), (⟨#[99]⟩ : ByteArray), (⟨#[114, 111, 111, 116]⟩ : ByteArray), (⟨#[120, 49]⟩ : ByteArray)] : List ByteArray)) (inner := [.string (⟨#[97]⟩ : ByteArray), .string (⟨#[98]⟩ : ByteArray), .string (⟨#[99]⟩ : ByteArray), .string (⟨#[114, 111, 111, 116]⟩ : ByteArray), .string (⟨#[120, 49]⟩ : ByteArray)]) (ok := fun _ => True) (okp := fun _ => True) ?hr ?hp (fun _ hk => hk) trivial (Below.refl _ _) (Nat.le_refl _) (by simp) ?_; (case hd => rfl); (case hg => rfl); (case hr => exact B6x15_); (case hp => exact (Reps.one (show Kd.M Kd.string _ _ _ (⟨#[97]⟩ : ByteArray) [.string (⟨#[97]⟩ : ByteArray)] from rfl) (Reps.one (show Kd.M Kd.string _ _ _ (⟨#[98]⟩ : ByteArray) [.string (⟨#[98]⟩ : ByteArray)] from rfl) (Reps.one (show Kd.M Kd.string _ _ _ (⟨#[99]⟩ : ByteArray) [.string (⟨#[99]⟩ : ByteArray)] from rfl) (Reps.one (show Kd.M Kd.string _ _ _ (⟨#[114, 111, 111, 116]⟩ : ByteArray) [.string (⟨#[114, 111, 111, 116]⟩ : ByteArray)] from rfl) (Reps.one (show Kd.M Kd.string _ _ _ (⟨#[120, 49]⟩ : ByteArray) [.string (⟨#[120, 49]⟩ : ByteArray)] from rfl) (Reps.none _ _))))))); intro v197 w13 ho14 hb hg_ hnew_; clear hg_ hnew_; (first | rw [← Ny196.out] at ho14 | (simp only [Int.reduceToNat] at ho14; rw [← Ny196.out] at ho14)); replace HO192 := Aside0.mk (Kd.R_below B6x14_ hb); have HO198 := Aside0.mk (Kd.R_lower ho14 (keep_size (w := w) (g := g) (row := none) B6x5_)); replace BK188 := Aside0.mk (bb BK188.out hb); replace BK189 := Aside0.mk (bb BK189.out hb); replace HK := Aside0.mk (KeepBut.trans B6x5_ (KeepBut.of_below hb g none) (.inl rfl)); replace HB := Aside0.mk (below_step B6x6_ hb); replace HI0 := Aside0.mk (IsS107.below B6x3_ hb); clear hb ho14; obtain ⟨Ao15, co15, eo15⟩ := Kd.R_slice HO198.out; subst eo15) | ((with_reducible refine gate_callee (f := 88) rfl ?_); refine goesL_ (some 13) rfl rfl Try.func88 B6x26_ rfl #[.pointer (some ⟨g, 0, none⟩), .slice Ao15 y196.length co15] rfl B6x8_ ?_; (with_reducible refine (spec_l01Pick.calls g s0_0 t194 t195 _ _ y196 t199 t200 t201 w0 _ ?side1 ?side2 ?side3 ?side4 ?side5 A4.out).mono ?_); (case side1 => exact B6x3_); (case side2 => exact B6x6_); (case side3 => repeat (first | exact (Kd.R_reads' HO198.out).2.2 | (with_reducible refine Kd.C_alloc ?_ _) | (with_reducible refine Kd.C_drewN ?_ _) | (with_reducible refine Kd.C_drew ?_))); (case side4 => exact (Kd.R_reads' HO198.out).2.1); (case side5 => exact far_slice (IsS107.own_ne HI0.out HO198.out (by decide))); rintro e w16 ⟨rfl, hi, hb, hk⟩; refine ⟨_, rfl, ?_⟩; replace BK188 := Aside0.mk (kb hk BK188.out NB188_0.out); replace BK189 := Aside0.mk (kb hk BK189.out NB189_0.out); replace HO192 := Aside0.mk (Kd.R_mono (Kd.R_keep (IsS107.apart (show IsS107 w0 _ g s0_0 t194 t195 from B6x3_) B6x14_ (by decide)) hk (fun _ h => h.2)) (fun _ h => h.1)); replace HO198 := Aside0.mk (Kd.R_mono (Kd.R_keep (IsS107.apart (show IsS107 w0 _ g s0_0 t194 t195 from B6x3_) B6x25_ (by decide)) hk (fun _ h => h.2)) (fun _ h => h.1)); replace HK := Aside0.mk (KeepBut.trans B6x5_ hk (.inl rfl)); replace HB := Aside0.mk (hb); replace HI0 := Aside0.mk (hi); (try clear hb hk hi)) | ((with_reducible refine gate_dst (N := 5) rfl ?_); refine box_event ?hg (N := 5) ?hd (cs := #[.int .i64 0, .int .i64 0, .int .i64 0, .string (⟨#[]⟩ : ByteArray), .string (⟨#[]⟩ : ByteArray), .int .i64 0]) (t := 59) ?hr ?_; (case hd => rfl); (case hg => rfl); (case hr => exact B6x15_); intro gb202 hg w17 hbox hb; replace HO192 := Aside0.mk (Kd.R_below B6x14_ hb); replace HO198 := Aside0.mk (Kd.R_below B6x25_ hb); replace HB := Aside0.mk (below_step B6x6_ hb); have BK202 := Aside0.mk (hbox); have GW202 := Aside0.mk ((bs hg (keep_size HK.out))); have GE202 := Aside0.mk ((Nat.le_trans HW0.out (bs hg (keep_size HK.out)) : w0.heap.size ≤ gb202)); replace HK := Aside0.mk (KeepBut.trans B6x5_ (KeepBut.of_below hb g none) (.inl rfl)); have NB188_202 := Aside0.mk ((nl hg (blk_lt BK188.out))); have NB202_188 := Aside0.mk ((ng hg (blk_lt BK188.out))); replace BK188 := Aside0.mk (bb BK188.out hb); have NB189_202 := Aside0.mk ((nl hg (blk_lt BK189.out))); have NB202_189 := Aside0.mk ((ng hg (blk_lt BK189.out))); replace BK189 := Aside0.mk (bb BK189.out hb); have NB0_202 := Aside0.mk ((nl hg (IsS107.lt HI0.out))); have NB202_0 := Aside0.mk ((ng hg (IsS107.lt HI0.out))); replace HI0 := Aside0.mk (IsS107.below B6x3_ hb); clear hb hbox hg; have hnb18 := NB202_188.out; have hnc18 := NB188_202.out; have hnb19 := NB202_189.out; have hnc19 := NB189_202.out; have hnb20 := NB202_0.out; have hnc20 := NB0_202.out; obtain ⟨hcz21_0, hcz21_1, hcz21_2, hcz21_3, hcz21_4, hcz21_5⟩ := cl6 BK202.out; obtain ⟨hfz21_0, hfz21_1, hfz21_2, hfz21_3, hfz21_4, hfz21_5⟩ := fr6 BK202.out; have hnb22 := NB188_189.out; have hnc22 := NB189_188.out; have hnb23 := NB188_0.out; have hnc23 := NB0_188.out; obtain ⟨hcz24_0, hcz24_1⟩ := cl2 BK188.out; obtain ⟨hfz24_0, hfz24_1⟩ := fr2 BK188.out) | ((with_reducible refine gate_callee (f := 110) rfl ?_); refine goesL_ (some 19) rfl rfl Try.func110 B6x26_ rfl #[.agg #[.slice A1_0 l1_0.length c1_0, .slice A1_1 l1_1.length c1_1], .string t199] rfl B6x8_ ?_; (with_reducible refine (spec_ItemOf.calls k _ _ l1_0 _ _ l1_1 t199 t203 t204 t205 t206 _ ?side1 ?side2 ?side3 ?side4 A5.out).mono ?_); (case side1 => exact Kd.C_foot_now HR1_0.out B6x10_); (case side2 => exact HC1_0.out); (case side3 => exact Kd.C_foot_now HR1_1.out B6x10_); (case side4 => exact HC1_1.out); rintro e w25 ⟨rfl, hb⟩; refine ⟨_, rfl, ?_⟩; replace HO192 := Aside0.mk (Kd.R_below (by (with_reducible repeat (first | apply Kd.R_alloc | apply Kd.R_drewN | apply Kd.R_drew)); exact (Kd.R_mono (Kd.R_far (p := ⟨gb202, 5, none⟩) (Kd.R_far (p := ⟨gb202, 4, none⟩) (Kd.R_far (p := ⟨gb202, 3, none⟩) (Kd.R_far (p := ⟨gb202, 2, none⟩) (Kd.R_far (p := ⟨gb202, 1, none⟩) (Kd.R_far (p := ⟨gb202, 0, none⟩) (Kd.R_types HO192.out BK202.out (by decide)) (fun _ hk => hk.2) (.int .i64 t193)) (fun _ hk => hk.2) (.int .i64 0)) (fun _ hk => hk.2) (.int .i64 0)) (fun _ hk => hk.2) (.string t199)) (fun _ hk => hk.2) (.string (⟨#[]⟩ : ByteArray))) (fun _ hk => hk.2) (.int .i64 0)) (fun _ h_ => h_.1))) hb); replace HO198 := Aside0.mk (Kd.R_below (by (with_reducible repeat (first | apply Kd.R_alloc | apply Kd.R_drewN | apply Kd.R_drew)); exact (Kd.R_mono (Kd.R_far (p := ⟨gb202, 5, none⟩) (Kd.R_far (p := ⟨gb202, 4, none⟩) (Kd.R_far (p := ⟨gb202, 3, none⟩) (Kd.R_far (p := ⟨gb202, 2, none⟩) (Kd.R_far (p := ⟨gb202, 1, none⟩) (Kd.R_far (p := ⟨gb202, 0, none⟩) (Kd.R_types HO198.out BK202.out (by decide)) (fun _ hk => hk.2) (.int .i64 t193)) (fun _ hk => hk.2) (.int .i64 0)) (fun _ hk => hk.2) (.int .i64 0)) (fun _ hk => hk.2) (.string t199)) (fun _ hk => hk.2) (.string (⟨#[]⟩ : ByteArray))) (fun _ hk => hk.2) (.int .i64 0)) (fun _ h_ => h_.1))) hb); replace BK188 := Aside0.mk (blk_below (g := gb188) (o := .cells #[.slice A1_0 l1_0.length c1_0, .slice A1_1 l1_1.length c1_1] 47 (0, 0)) B6x7_ hb); replace BK189 := Aside0.mk (blk_below (g := gb189) (o := .cells #[.int .i64 0, .int .i64 0, .int .i64 0, .string (⟨#[]⟩ : ByteArray), .string (⟨#[]⟩ : ByteArray), .int .i64 0] 59 (0, 0)) B6x4_ hb); replace BK202 := Aside0.mk (blk_below (g := gb202) (o := .cells #[.int .i64 t193, .int .i64 0, .int .i64 0, .string t199, .string (⟨#[]⟩ : ByteArray), .int .i64 0] 59 (0, 0)) B6x9_ hb); replace HK := Aside0.mk (KeepBut.trans B6x10_ (KeepBut.of_below hb g none) (.inl rfl)); replace HB := Aside0.mk (below_step B6x20_ hb); replace HI0 := Aside0.mk (IsS107.below (show IsS107 w0 ((((((w17.setCell ⟨gb202, 0, none⟩ (.int .i64 t193)).setCell ⟨gb202, 1, none⟩ (.int .i64 0)).setCell ⟨gb202, 2, none⟩ (.int .i64 0)).setCell ⟨gb202, 3, none⟩ (.string t199)).setCell ⟨gb202, 4, none⟩ (.string (⟨#[]⟩ : ByteArray))).setCell ⟨gb202, 5, none⟩ (.int .i64 0)) g s0_0 t200 t201 from B6x19_) hb); (try clear hb)) | ((with_reducible refine gate_dst (N := 6) rfl ?_); refine box_event ?hg (N := 6) ?hd (cs := #[.string (⟨#[]⟩ : ByteArray), .string (⟨#[]⟩ : ByteArray), .int .i64 0]) (t := 81) ?hr ?_; (case hd => rfl); (case hg => rfl); (case hr => exact B6x15_); intro gb207 hg w26 hbox hb; replace HO192 := Aside0.mk (Kd.R_below B6x14_ hb); replace HO198 := Aside0.mk (Kd.R_below B6x25_ hb); replace HB := Aside0.mk (below_step B6x20_ hb); have BK207 := Aside0.mk (hbox); have GW207 := Aside0.mk ((bs hg (keep_size HK.out))); have GE207 := Aside0.mk ((Nat.le_trans HW0.out (bs hg (keep_size HK.out)) : w0.heap.size ≤ gb207)); replace HK := Aside0.mk (KeepBut.trans B6x10_ (KeepBut.of_below hb g none) (.inl rfl)); have NB188_207 := Aside0.mk ((nl hg (blk_lt BK188.out))); have NB207_188 := Aside0.mk ((ng hg (blk_lt BK188.out))); replace BK188 := Aside0.mk (bb BK188.out hb); have NB189_207 := Aside0.mk ((nl hg (blk_lt BK189.out))); have NB207_189 := Aside0.mk ((ng hg (blk_lt BK189.out))); replace BK189 := Aside0.mk (bb BK189.out hb); have NB202_207 := Aside0.mk ((nl hg (blk_lt BK202.out))); have NB207_202 := Aside0.mk ((ng hg (blk_lt BK202.out))); replace BK202 := Aside0.mk (bb BK202.out hb); have NB0_207 := Aside0.mk ((nl hg (IsS107.lt HI0.out))); have NB207_0 := Aside0.mk ((ng hg (IsS107.lt HI0.out))); replace HI0 := Aside0.mk (IsS107.below B6x19_ hb); clear hb hbox hg; have hnb27 := NB207_188.out; have hnc27 := NB188_207.out; have hnb28 := NB207_189.out; have hnc28 := NB189_207.out; have hnb29 := NB207_202.out; have hnc29 := NB202_207.out; have hnb30 := NB207_0.out; have hnc30 := NB0_207.out; obtain ⟨hcz31_0, hcz31_1, hcz31_2⟩ := cl3 BK207.out; obtain ⟨hfz31_0, hfz31_1, hfz31_2⟩ := fr3 BK207.out))
 (try simp only [Act.put, List.setIfInBounds_toArray, List.set_cons_zero, List.set_cons_succ])
 go_cut [29] (fun v29 wc => ∃ (kq : Nat) (x29_5 : Bool), v29 = .bool x29_5 ∧ Aside0 (spec_l15Of.j0 kq t206 x29_5 s0_0 t200 t201 t193 0 0 t199 (⟨#[]⟩ : ByteArray) 0 t203 t204 t205 = some (r1, r2, r3, r4, r5, r6, r7, r8)) ∧ Aside0 (kq ≤ k) ∧ Aside0 (wc.heap[gb188]? = some (.cells #[(.slice A1_0 l1_0.length c1_0), (.slice A1_1 l1_1.length c1_1)] 47 (0, 0))) ∧ Aside0 (wc.heap[gb189]? = some (.cells #[.int .i64 0, .int .i64 0, .int .i64 0, .string (⟨#[]⟩ : ByteArray), .string (⟨#[]⟩ : ByteArray), .int .i64 0] 59 (0, 0))) ∧ Aside0 (wc.heap[gb202]? = some (.cells #[.int .i64 t193, .int .i64 0, .int .i64 0, .string t199, .string (⟨#[]⟩ : ByteArray), .int .i64 0] 59 (0, 0))) ∧ Aside0 (wc.heap[gb207]? = some (.cells #[.string t203, .string t204, .int .i64 t205] 81 (0, 0))) ∧ Aside0 (IsS107 w0 wc g s0_0 t200 t201) ∧ Aside0 (KeepBut w wc g none) ∧ Aside0 (Below w0.heap.size w0 wc))
 case first =>
  have H := HC6.out
  clear HC6
  by_cases c32 : t193 = 2
  ·rw [if_pos c32] at H
   have c32b0 := beq_iff_eq.mpr c32
   have c32b1 := bne_eq_false_iff_eq.mpr c32
   clear c32
   (first | rw [c32b0] | (simp only [i64_w, i32_w]; rw [c32b0]) | skip)
   have H' := Aside0.mk H
   clear H
   have hnb33 := NB202_188.out
   have hnc33 := NB188_202.out
   have hnb34 := NB202_189.out
   have hnc34 := NB189_202.out
   have hnb35 := NB202_207.out
   have hnc35 := NB207_202.out
   have hnb36 := NB202_0.out
   have hnc36 := NB0_202.out
   obtain ⟨hcz37_0, hcz37_1, hcz37_2, hcz37_3, hcz37_4, hcz37_5⟩ := cl6 BK202.out
   obtain ⟨hfz37_0, hfz37_1, hfz37_2, hfz37_3, hfz37_4, hfz37_5⟩ := fr6 BK202.out
   go_wp2
   go_meet
   case rel => exact ⟨_, (true), (be_), H', ⟨(by first | omega | exact Nat.le_refl _)⟩, ⟨B6x16_⟩, ⟨B6x17_⟩, ⟨B6x18_⟩, ⟨B6x23_⟩, ⟨B6x0_⟩, ⟨B6x2_⟩, ⟨B6x1_⟩⟩
  ·rw [if_neg c32] at H
   have c32b0 := beq_eq_false_iff_ne.mpr c32
   have c32b1 := bne_iff_ne.mpr c32
   (first | rw [c32b0] | (simp only [i64_w, i32_w]; rw [c32b0]) | skip)
   have H' := Aside0.mk H
   clear H
   have hnb38 := NB202_188.out
   have hnc38 := NB188_202.out
   have hnb39 := NB202_189.out
   have hnc39 := NB189_202.out
   have hnb40 := NB202_207.out
   have hnc40 := NB207_202.out
   have hnb41 := NB202_0.out
   have hnc41 := NB0_202.out
   obtain ⟨hcz42_0, hcz42_1, hcz42_2, hcz42_3, hcz42_4, hcz42_5⟩ := cl6 BK202.out
   obtain ⟨hfz42_0, hfz42_1, hfz42_2, hfz42_3, hfz42_4, hfz42_5⟩ := fr6 BK202.out
   go_wp2
   go_meet
   case rel => exact ⟨_, ((t193 == 5)), (be_), H', ⟨(by first | omega | exact Nat.le_refl _)⟩, ⟨B6x16_⟩, ⟨B6x17_⟩, ⟨B6x18_⟩, ⟨B6x23_⟩, ⟨B6x0_⟩, ⟨B6x2_⟩, ⟨B6x1_⟩⟩
 case rest =>
  clear HC6
  try clear hcz21_0
  try clear hcz21_1
  try clear hcz21_2
  try clear hcz21_3
  try clear hcz21_4
  try clear hcz21_5
  try clear hcz24_0
  try clear hcz24_1
  try clear hcz31_0
  try clear hcz31_1
  try clear hcz31_2
  try clear hfz21_0
  try clear hfz21_1
  try clear hfz21_2
  try clear hfz21_3
  try clear hfz21_4
  try clear hfz21_5
  try clear hfz24_0
  try clear hfz24_1
  try clear hfz31_0
  try clear hfz31_1
  try clear hfz31_2
  obtain ⟨kq, x29_5, rfl, HA, HJ5, BK188, BK189, BK202, BK207, HI0, HK, HB⟩ := hcut
  cases kq with
  | zero => exact absurd HA.out (by simp [spec_l15Of.j0])
  | succ kj5 =>
   have H := HA.out
   clear HA
   simp only [spec_l15Of.j0] at H
   have HC43 := Aside0.mk H
   clear H
   go_upto_if 29 with (fail)
   go_cut [] (fun wc => ∃ (kq : Nat) (x1001_42 : Int) (x1002_42 : Int) (x203004_42 : ByteArray), Aside0 (spec_l15Of.j1 kq t206 s0_0 x1001_42 x1002_42 t193 0 0 t199 x203004_42 0 t203 t204 t205 = some (r1, r2, r3, r4, r5, r6, r7, r8)) ∧ Aside0 (kq ≤ kj5) ∧ Aside0 (wc.heap[gb188]? = some (.cells #[(.slice A1_0 l1_0.length c1_0), (.slice A1_1 l1_1.length c1_1)] 47 (0, 0))) ∧ Aside0 (wc.heap[gb189]? = some (.cells #[.int .i64 0, .int .i64 0, .int .i64 0, .string (⟨#[]⟩ : ByteArray), .string (⟨#[]⟩ : ByteArray), .int .i64 0] 59 (0, 0))) ∧ Aside0 (wc.heap[gb202]? = some (.cells #[.int .i64 t193, .int .i64 0, .int .i64 0, .string t199, .string x203004_42, .int .i64 0] 59 (0, 0))) ∧ Aside0 (wc.heap[gb207]? = some (.cells #[.string t203, .string t204, .int .i64 t205] 81 (0, 0))) ∧ Aside0 (IsS107 w0 wc g s0_0 x1001_42 x1002_42) ∧ Aside0 (KeepBut w wc g none) ∧ Aside0 (Below w0.heap.size w0 wc))
   case first =>
    have H := HC43.out
    clear HC43
    by_cases c44 : x29_5 = true
    ·subst c44
     rw [if_pos rfl] at H
     obtain ⟨y208, hy208⟩ : ∃ y_ : List ByteArray, y_ = (([(⟨#[]⟩ : ByteArray), (⟨#[49]⟩ : ByteArray), (⟨#[116, 119, 111]⟩ : ByteArray), (⟨#[116, 104, 114, 101, 101]⟩ : ByteArray)] : List ByteArray)) := ⟨_, rfl⟩
     replace H : ((spec_l01Pick.f s0_0 t200 t201 y208).bind fun bt211 => (spec_l15Of.j1 kj5 t206 s0_0 bt211.2.1 bt211.2.2 t193 0 0 t199 bt211.1 0 t203 t204 t205)) = some (r1, r2, r3, r4, r5, r6, r7, r8) := by first | (rw [hy208]; with_reducible exact H) | (have H2_ := (Option.bind_some _ _).symm.trans H; rw [hy208]; with_reducible exact H2_) | (have H2_ := (Option.bind_some _ _).symm.trans H; with_reducible exact H2_) | with_reducible exact H | (rw [hy208]; exact H) | exact H
     have Ny208 := Aside0.mk hy208
     clear hy208
     replace H := bsi H
     obtain ⟨⟨t211, t212, t213⟩, A45, H⟩ := H
     (try dsimp only at H)
     have H' := Aside0.mk H
     clear H
     go_wp2_with (first | ((with_reducible refine gate_dst (N := 31) rfl ?_); refine Kd.R_lit Kd.string _ 9 ?hg (N := 31) ?hd (xs := ([(⟨#[]⟩ : ByteArray), (⟨#[49]⟩ : ByteArray), (⟨#[116, 119, 111]⟩ : ByteArray), (⟨#[116, 104, 114, 101, 101]⟩ : ByteArray)] : List ByteArray)) (inner := [.string (⟨#[]⟩ : ByteArray), .string (⟨#[49]⟩ : ByteArray), .string (⟨#[116, 119, 111]⟩ : ByteArray), .string (⟨#[116, 104, 114, 101, 101]⟩ : ByteArray)]) (ok := fun _ => True) (okp := fun _ => True) ?hr ?hp (fun _ hk => hk) trivial (Below.refl _ _) (Nat.le_refl _) (by simp) ?_; (case hd => rfl); (case hg => rfl); (case hr => exact B6x15_); (case hp => exact (Reps.one (show Kd.M Kd.string _ _ _ (⟨#[]⟩ : ByteArray) [.string (⟨#[]⟩ : ByteArray)] from rfl) (Reps.one (show Kd.M Kd.string _ _ _ (⟨#[49]⟩ : ByteArray) [.string (⟨#[49]⟩ : ByteArray)] from rfl) (Reps.one (show Kd.M Kd.string _ _ _ (⟨#[116, 119, 111]⟩ : ByteArray) [.string (⟨#[116, 119, 111]⟩ : ByteArray)] from rfl) (Reps.one (show Kd.M Kd.string _ _ _ (⟨#[116, 104, 114, 101, 101]⟩ : ByteArray) [.string (⟨#[116, 104, 114, 101, 101]⟩ : ByteArray)] from rfl) (Reps.none _ _)))))); intro v209 w46 ho47 hb hg_ hnew_; clear hg_ hnew_; (first | rw [← Ny208.out] at ho47 | (simp only [Int.reduceToNat] at ho47; rw [← Ny208.out] at ho47)); have HO210 := Aside0.mk (Kd.R_lower ho47 (keep_size (w := w) (g := g) (row := none) B6x2_)); replace BK188 := Aside0.mk (bb BK188.out hb); replace BK189 := Aside0.mk (bb BK189.out hb); replace BK202 := Aside0.mk (bb BK202.out hb); replace BK207 := Aside0.mk (bb BK207.out hb); replace HK := Aside0.mk (KeepBut.trans B6x2_ (KeepBut.of_below hb g none) (.inl rfl)); replace HB := Aside0.mk (below_step B6x1_ hb); replace HI0 := Aside0.mk (IsS107.below B6x0_ hb); clear hb ho47; obtain ⟨Ao48, co48, eo48⟩ := Kd.R_slice HO210.out; subst eo48) | ((with_reducible refine gate_callee (f := 88) rfl ?_); refine goesL_ (some 32) rfl rfl Try.func88 B6x26_ rfl #[.pointer (some ⟨g, 0, none⟩), .slice Ao48 y208.length co48] rfl B6x8_ ?_; (with_reducible refine (spec_l01Pick.calls g s0_0 t200 t201 _ _ y208 t211 t212 t213 w0 _ ?side1 ?side2 ?side3 ?side4 ?side5 A45.out).mono ?_); (case side1 => exact B6x0_); (case side2 => exact B6x1_); (case side3 => repeat (first | exact (Kd.R_reads' HO210.out).2.2 | (with_reducible refine Kd.C_alloc ?_ _) | (with_reducible refine Kd.C_drewN ?_ _) | (with_reducible refine Kd.C_drew ?_))); (case side4 => exact (Kd.R_reads' HO210.out).2.1); (case side5 => exact far_slice (IsS107.own_ne HI0.out HO210.out (by decide))); rintro e w49 ⟨rfl, hi, hb, hk⟩; refine ⟨_, rfl, ?_⟩; replace BK188 := Aside0.mk (kb hk BK188.out NB188_0.out); replace BK189 := Aside0.mk (kb hk BK189.out NB189_0.out); replace BK202 := Aside0.mk (kb hk BK202.out NB202_0.out); replace BK207 := Aside0.mk (kb hk BK207.out NB207_0.out); replace HO210 := Aside0.mk (Kd.R_mono (Kd.R_keep (IsS107.apart (show IsS107 w0 _ g s0_0 t200 t201 from B6x0_) (by (with_reducible repeat (first | apply Kd.R_alloc | apply Kd.R_drewN | apply Kd.R_drew)); exact HO210.out) (by decide)) hk (fun _ h => h.2)) (fun _ h => h.1)); replace HK := Aside0.mk (KeepBut.trans B6x2_ hk (.inl rfl)); replace HB := Aside0.mk (hb); replace HI0 := Aside0.mk (hi); (try clear hb hk hi); have hnb50 := NB202_188.out; have hnc50 := NB188_202.out; have hnb51 := NB202_189.out; have hnc51 := NB189_202.out; have hnb52 := NB202_207.out; have hnc52 := NB207_202.out; have hnb53 := NB202_0.out; have hnc53 := NB0_202.out; obtain ⟨hcz54_0, hcz54_1, hcz54_2, hcz54_3, hcz54_4, hcz54_5⟩ := cl6 BK202.out; obtain ⟨hfz54_0, hfz54_1, hfz54_2, hfz54_3, hfz54_4, hfz54_5⟩ := fr6 BK202.out))
     go_meet
     case rel => exact ⟨_, (t212), (t213), (t211), H', ⟨B6x29_⟩, ⟨B6x7_⟩, ⟨B6x4_⟩, ⟨B6x9_⟩, ⟨B6x12_⟩, ⟨B6x0_⟩, ⟨B6x2_⟩, ⟨B6x1_⟩⟩
    ·replace c44 := Bool.eq_false_iff.mpr c44
     subst c44
     rw [if_neg (show ¬ (false = true) by decide)] at H
     have H' := Aside0.mk H
     clear H
     go_wp2
     go_meet
     case rel => exact ⟨_, (t200), (t201), ((⟨#[]⟩ : ByteArray)), H', ⟨B6x29_⟩, ⟨(by (with_reducible repeat (first | refine blk_drewN ?_ _ | refine blk_drew ?_ | refine blk_alloc ?_ _)); exact BK188.out)⟩, ⟨(by (with_reducible repeat (first | refine blk_drewN ?_ _ | refine blk_drew ?_ | refine blk_alloc ?_ _)); exact BK189.out)⟩, ⟨(by (with_reducible repeat (first | refine blk_drewN ?_ _ | refine blk_drew ?_ | refine blk_alloc ?_ _)); exact BK202.out)⟩, ⟨(by (with_reducible repeat (first | refine blk_drewN ?_ _ | refine blk_drew ?_ | refine blk_alloc ?_ _)); exact BK207.out)⟩, ⟨B6x0_⟩, ⟨B6x2_⟩, ⟨B6x1_⟩⟩
   case rest =>
    clear HC43
    try clear hcz21_0
    try clear hcz21_1
    try clear hcz21_2
    try clear hcz21_3
    try clear hcz21_4
    try clear hcz21_5
    try clear hcz24_0
    try clear hcz24_1
    try clear hcz31_0
    try clear hcz31_1
    try clear hcz31_2
    try clear hfz21_0
    try clear hfz21_1
    try clear hfz21_2
    try clear hfz21_3
    try clear hfz21_4
    try clear hfz21_5
    try clear hfz24_0
    try clear hfz24_1
    try clear hfz31_0
    try clear hfz31_1
    try clear hfz31_2
    obtain ⟨kq, x1001_42, x1002_42, x203004_42, HA, HJ42, BK188, BK189, BK202, BK207, HI0, HK, HB⟩ := hcut
    cases kq with
    | zero => exact absurd HA.out (by simp [spec_l15Of.j1])
    | succ kj42 =>
     have H := HA.out
     clear HA
     simp only [spec_l15Of.j1] at H
     by_cases c55 : t193 = 5
     ·rw [if_pos c55] at H
      have c55b0 := beq_iff_eq.mpr c55
      have c55b1 := bne_eq_false_iff_eq.mpr c55
      clear c55
      replace H := bsi H
      obtain ⟨⟨t214, t215, t216⟩, A56, H⟩ := H
      (try dsimp only at H)
      by_cases c57 : t206 = true
      ·subst c57
       rw [if_pos rfl] at H
       replace H := bsi H
       obtain ⟨⟨t217, t218, t219⟩, A58, H⟩ := H
       (try dsimp only at H)
       by_cases c59 : t217 = true
       ·subst c59
        rw [if_pos rfl] at H
        simp only [Option.some.injEq, Prod.mk.injEq] at H
        obtain ⟨rfl, rfl, rfl, rfl, rfl, rfl, rfl, rfl⟩ := H
        have hnb60 := NB202_188.out
        have hnc60 := NB188_202.out
        have hnb61 := NB202_189.out
        have hnc61 := NB189_202.out
        have hnb62 := NB202_207.out
        have hnc62 := NB207_202.out
        have hnb63 := NB202_0.out
        have hnc63 := NB0_202.out
        obtain ⟨hcz64_0, hcz64_1, hcz64_2, hcz64_3, hcz64_4, hcz64_5⟩ := cl6 BK202.out
        obtain ⟨hfz64_0, hfz64_1, hfz64_2, hfz64_3, hfz64_4, hfz64_5⟩ := fr6 BK202.out
        go_wp2_with (first | ((with_reducible refine gate_callee (f := 41) rfl ?_); refine goesL_ (some 38) rfl rfl Try.func41 B6x26_ rfl #[.pointer (some ⟨g, 0, none⟩), .int .i64 20] rfl B6x8_ ?_; (with_reducible refine (spec_l01Below.calls g s0_0 x1001_42 x1002_42 20 t214 t215 t216 w0 _ ?side1 ?side2 A56.out).mono ?_); (case side1 => exact B6x0_); (case side2 => exact B6x1_); rintro e w65 ⟨rfl, hi, hb, hk⟩; refine ⟨_, rfl, ?_⟩; replace BK188 := Aside0.mk (kb hk BK188.out NB188_0.out); replace BK189 := Aside0.mk (kb hk BK189.out NB189_0.out); replace BK202 := Aside0.mk (kb hk BK202.out NB202_0.out); replace BK207 := Aside0.mk (kb hk BK207.out NB207_0.out); replace HK := Aside0.mk (KeepBut.trans B6x2_ hk (.inl rfl)); replace HB := Aside0.mk (hb); replace HI0 := Aside0.mk (hi); (try clear hb hk hi); obtain ⟨hcz66_0, hcz66_1, hcz66_2, hcz66_3, hcz66_4, hcz66_5⟩ := cl6 BK202.out; obtain ⟨hfz66_0, hfz66_1, hfz66_2, hfz66_3, hfz66_4, hfz66_5⟩ := fr6 BK202.out) | (go_at_call 42; (with_reducible refine (spec_l01Once.calls g s0_0 t215 t216 3 true t218 t219 w0 _ ?side1 ?side2 A58.out).mono ?_); (case side1 => exact B6x0_); (case side2 => exact B6x1_); rintro e w67 ⟨rfl, hi, hb, hk⟩; replace BK188 := Aside0.mk (KeepBut.blk hk (g' := gb188) (o := .cells #[.slice A1_0 l1_0.length c1_0, .slice A1_1 l1_1.length c1_1] 47 (0, 0)) B6x7_ NB188_0.out (by simp)); replace BK189 := Aside0.mk (KeepBut.blk hk (g' := gb189) (o := .cells #[.int .i64 0, .int .i64 0, .int .i64 0, .string (⟨#[]⟩ : ByteArray), .string (⟨#[]⟩ : ByteArray), .int .i64 0] 59 (0, 0)) B6x4_ NB189_0.out (by simp)); replace BK202 := Aside0.mk (KeepBut.blk hk (g' := gb202) (o := .cells #[.int .i64 t193, .int .i64 0, .int .i64 0, .string t199, .string x203004_42, .int .i64 (wrap64 (1 + t214))] 59 (0, 0)) B6x9_ NB202_0.out (by simp)); replace BK207 := Aside0.mk (KeepBut.blk hk (g' := gb207) (o := .cells #[.string t203, .string t204, .int .i64 t205] 81 (0, 0)) B6x12_ NB207_0.out (by simp)); replace HK := Aside0.mk (KeepBut.trans B6x2_ hk (.inl rfl)); replace HB := Aside0.mk (hb); replace HI0 := Aside0.mk (hi); (try clear hb hk hi); obtain ⟨hcz68_0, hcz68_1, hcz68_2, hcz68_3, hcz68_4, hcz68_5⟩ := cl6 BK202.out; obtain ⟨hfz68_0, hfz68_1, hfz68_2, hfz68_3, hfz68_4, hfz68_5⟩ := fr6 BK202.out; have hnb69 := NB189_188.out; have hnc69 := NB188_189.out; have hnb70 := NB189_207.out; have hnc70 := NB207_189.out; have hnb71 := NB189_0.out; have hnc71 := NB0_189.out; obtain ⟨hcz72_0, hcz72_1, hcz72_2, hcz72_3, hcz72_4, hcz72_5⟩ := cl6 BK189.out; obtain ⟨hfz72_0, hfz72_1, hfz72_2, hfz72_3, hfz72_4, hfz72_5⟩ := fr6 BK189.out))
        refine bodyPost_ret (results_cell_row rfl _ _ gb189 59 #[.int .i64 t193, .int .i64 0, .int .i64 0, .string t199, .string x203004_42, .int .i64 (wrap64 (1 + t214))] (0, 0) _ rfl B6x22_ Try.underlying59 rfl B6x26_) rfl ?_
        exact ⟨B6x13_, B6x0_, B6x1_, B6x2_⟩
       ·replace c59 := Bool.eq_false_iff.mpr c59
        subst c59
        rw [if_neg (show ¬ (false = true) by decide)] at H
        simp only [Option.some.injEq, Prod.mk.injEq] at H
        obtain ⟨rfl, rfl, rfl, rfl, rfl, rfl, rfl, rfl⟩ := H
        have hnb73 := NB202_188.out
        have hnc73 := NB188_202.out
        have hnb74 := NB202_189.out
        have hnc74 := NB189_202.out
        have hnb75 := NB202_207.out
        have hnc75 := NB207_202.out
        have hnb76 := NB202_0.out
        have hnc76 := NB0_202.out
        obtain ⟨hcz77_0, hcz77_1, hcz77_2, hcz77_3, hcz77_4, hcz77_5⟩ := cl6 BK202.out
        obtain ⟨hfz77_0, hfz77_1, hfz77_2, hfz77_3, hfz77_4, hfz77_5⟩ := fr6 BK202.out
        go_wp2_with (first | ((with_reducible refine gate_callee (f := 41) rfl ?_); refine goesL_ (some 38) rfl rfl Try.func41 B6x26_ rfl #[.pointer (some ⟨g, 0, none⟩), .int .i64 20] rfl B6x8_ ?_; (with_reducible refine (spec_l01Below.calls g s0_0 x1001_42 x1002_42 20 t214 t215 t216 w0 _ ?side1 ?side2 A56.out).mono ?_); (case side1 => exact B6x0_); (case side2 => exact B6x1_); rintro e w78 ⟨rfl, hi, hb, hk⟩; refine ⟨_, rfl, ?_⟩; replace BK188 := Aside0.mk (kb hk BK188.out NB188_0.out); replace BK189 := Aside0.mk (kb hk BK189.out NB189_0.out); replace BK202 := Aside0.mk (kb hk BK202.out NB202_0.out); replace BK207 := Aside0.mk (kb hk BK207.out NB207_0.out); replace HK := Aside0.mk (KeepBut.trans B6x2_ hk (.inl rfl)); replace HB := Aside0.mk (hb); replace HI0 := Aside0.mk (hi); (try clear hb hk hi); obtain ⟨hcz79_0, hcz79_1, hcz79_2, hcz79_3, hcz79_4, hcz79_5⟩ := cl6 BK202.out; obtain ⟨hfz79_0, hfz79_1, hfz79_2, hfz79_3, hfz79_4, hfz79_5⟩ := fr6 BK202.out) | (go_at_call 42; (with_reducible refine (spec_l01Once.calls g s0_0 t215 t216 3 false t218 t219 w0 _ ?side1 ?side2 A58.out).mono ?_); (case side1 => exact B6x0_); (case side2 => exact B6x1_); rintro e w80 ⟨rfl, hi, hb, hk⟩; replace BK188 := Aside0.mk (KeepBut.blk hk (g' := gb188) (o := .cells #[.slice A1_0 l1_0.length c1_0, .slice A1_1 l1_1.length c1_1] 47 (0, 0)) B6x7_ NB188_0.out (by simp)); replace BK189 := Aside0.mk (KeepBut.blk hk (g' := gb189) (o := .cells #[.int .i64 0, .int .i64 0, .int .i64 0, .string (⟨#[]⟩ : ByteArray), .string (⟨#[]⟩ : ByteArray), .int .i64 0] 59 (0, 0)) B6x4_ NB189_0.out (by simp)); replace BK202 := Aside0.mk (KeepBut.blk hk (g' := gb202) (o := .cells #[.int .i64 t193, .int .i64 0, .int .i64 0, .string t199, .string x203004_42, .int .i64 (wrap64 (1 + t214))] 59 (0, 0)) B6x9_ NB202_0.out (by simp)); replace BK207 := Aside0.mk (KeepBut.blk hk (g' := gb207) (o := .cells #[.string t203, .string t204, .int .i64 t205] 81 (0, 0)) B6x12_ NB207_0.out (by simp)); replace HK := Aside0.mk (KeepBut.trans B6x2_ hk (.inl rfl)); replace HB := Aside0.mk (hb); replace HI0 := Aside0.mk (hi); (try clear hb hk hi); have hnb81 := NB207_188.out; have hnc81 := NB188_207.out; have hnb82 := NB207_189.out; have hnc82 := NB189_207.out; have hnb83 := NB207_0.out; have hnc83 := NB0_207.out; obtain ⟨hcz84_0, hcz84_1, hcz84_2⟩ := cl3 BK207.out; obtain ⟨hfz84_0, hfz84_1, hfz84_2⟩ := fr3 BK207.out; obtain ⟨hcz85_0, hcz85_1, hcz85_2, hcz85_3, hcz85_4, hcz85_5⟩ := cl6 BK202.out; obtain ⟨hfz85_0, hfz85_1, hfz85_2, hfz85_3, hfz85_4, hfz85_5⟩ := fr6 BK202.out; have hnb86 := NB189_188.out; have hnc86 := NB188_189.out; have hnb87 := NB189_0.out; have hnc87 := NB0_189.out; obtain ⟨hcz88_0, hcz88_1, hcz88_2, hcz88_3, hcz88_4, hcz88_5⟩ := cl6 BK189.out; obtain ⟨hfz88_0, hfz88_1, hfz88_2, hfz88_3, hfz88_4, hfz88_5⟩ := fr6 BK189.out))
        refine bodyPost_ret (results_cell_row rfl _ _ gb189 59 #[.int .i64 t193, .int .i64 0, .int .i64 0, .string t199, .string x203004_42, .int .i64 t205] (0, 0) _ rfl B6x4_ Try.underlying59 rfl B6x26_) rfl ?_
        exact ⟨B6x13_, B6x0_, B6x1_, B6x2_⟩
      ·replace c57 := Bool.eq_false_iff.mpr c57
       subst c57
       rw [if_neg (show ¬ (false = true) by decide)] at H
       simp only [Option.some.injEq, Prod.mk.injEq] at H
       obtain ⟨rfl, rfl, rfl, rfl, rfl, rfl, rfl, rfl⟩ := H
       have hnb89 := NB202_188.out
       have hnc89 := NB188_202.out
       have hnb90 := NB202_189.out
       have hnc90 := NB189_202.out
       have hnb91 := NB202_207.out
       have hnc91 := NB207_202.out
       have hnb92 := NB202_0.out
       have hnc92 := NB0_202.out
       obtain ⟨hcz93_0, hcz93_1, hcz93_2, hcz93_3, hcz93_4, hcz93_5⟩ := cl6 BK202.out
       obtain ⟨hfz93_0, hfz93_1, hfz93_2, hfz93_3, hfz93_4, hfz93_5⟩ := fr6 BK202.out
       go_wp2_with (first | ((with_reducible refine gate_callee (f := 41) rfl ?_); refine goesL_ (some 38) rfl rfl Try.func41 B6x26_ rfl #[.pointer (some ⟨g, 0, none⟩), .int .i64 20] rfl B6x8_ ?_; (with_reducible refine (spec_l01Below.calls g s0_0 x1001_42 x1002_42 20 t214 t215 t216 w0 _ ?side1 ?side2 A56.out).mono ?_); (case side1 => exact B6x0_); (case side2 => exact B6x1_); rintro e w94 ⟨rfl, hi, hb, hk⟩; refine ⟨_, rfl, ?_⟩; replace BK188 := Aside0.mk (kb hk BK188.out NB188_0.out); replace BK189 := Aside0.mk (kb hk BK189.out NB189_0.out); replace BK202 := Aside0.mk (kb hk BK202.out NB202_0.out); replace BK207 := Aside0.mk (kb hk BK207.out NB207_0.out); replace HK := Aside0.mk (KeepBut.trans B6x2_ hk (.inl rfl)); replace HB := Aside0.mk (hb); replace HI0 := Aside0.mk (hi); (try clear hb hk hi); obtain ⟨hcz95_0, hcz95_1, hcz95_2, hcz95_3, hcz95_4, hcz95_5⟩ := cl6 BK202.out; obtain ⟨hfz95_0, hfz95_1, hfz95_2, hfz95_3, hfz95_4, hfz95_5⟩ := fr6 BK202.out; have hnb96 := NB189_188.out; have hnc96 := NB188_189.out; have hnb97 := NB189_207.out; have hnc97 := NB207_189.out; have hnb98 := NB189_0.out; have hnc98 := NB0_189.out; obtain ⟨hcz99_0, hcz99_1, hcz99_2, hcz99_3, hcz99_4, hcz99_5⟩ := cl6 BK189.out; obtain ⟨hfz99_0, hfz99_1, hfz99_2, hfz99_3, hfz99_4, hfz99_5⟩ := fr6 BK189.out))
       refine bodyPost_ret (results_cell_row rfl _ _ gb189 59 #[.int .i64 t193, .int .i64 0, .int .i64 0, .string t199, .string x203004_42, .int .i64 (wrap64 (1 + t214))] (0, 0) _ rfl B6x4_ Try.underlying59 rfl B6x26_) rfl ?_
       exact ⟨B6x13_, B6x0_, B6x1_, B6x2_⟩
     ·rw [if_neg c55] at H
      have c55b0 := beq_eq_false_iff_ne.mpr c55
      have c55b1 := bne_iff_ne.mpr c55
      simp only [Option.some.injEq, Prod.mk.injEq] at H
      obtain ⟨rfl, rfl, rfl, rfl, rfl, rfl, rfl, rfl⟩ := H
      have hnb100 := NB202_188.out
      have hnc100 := NB188_202.out
      have hnb101 := NB202_189.out
      have hnc101 := NB189_202.out
      have hnb102 := NB202_207.out
      have hnc102 := NB207_202.out
      have hnb103 := NB202_0.out
      have hnc103 := NB0_202.out
      obtain ⟨hcz104_0, hcz104_1, hcz104_2, hcz104_3, hcz104_4, hcz104_5⟩ := cl6 BK202.out
      obtain ⟨hfz104_0, hfz104_1, hfz104_2, hfz104_3, hfz104_4, hfz104_5⟩ := fr6 BK202.out
      have hnb105 := NB189_188.out
      have hnc105 := NB188_189.out
      have hnb106 := NB189_207.out
      have hnc106 := NB207_189.out
      have hnb107 := NB189_0.out
      have hnc107 := NB0_189.out
      obtain ⟨hcz108_0, hcz108_1, hcz108_2, hcz108_3, hcz108_4, hcz108_5⟩ := cl6 BK189.out
      obtain ⟨hfz108_0, hfz108_1, hfz108_2, hfz108_3, hfz108_4, hfz108_5⟩ := fr6 BK189.out
      go_wp2
      refine bodyPost_ret (results_cell_row rfl _ _ gb189 59 #[.int .i64 t193, .int .i64 0, .int .i64 0, .string t199, .string x203004_42, .int .i64 0] (0, 0) _ rfl B6x22_ Try.underlying59 rfl B6x26_) rfl ?_
      exact ⟨B6x13_, B6x0_, B6x1_, B6x2_⟩

end Go.Proofs.Ytgffdijodnpolaa.QFnLogs
