/- Functions that a law reaches, as functions of Lean, and the walks that show that the calls come to their answers: written by a program of this project out of the translation. No condition. -/
import Derived.Test.YtmknnoeggkgkgaaQFnExactPushx0
import Derived.Test.YtmknnoeggkgkgaaQFnExactPushx1
import Derived.Test.YtmknnoeggkgkgaaQFnExactPushx5
import Derived.Test.YtmknnoeggkgkgaaQFnExactPushx6
import Derived.Test.YtmknnoeggkgkgaaQFnExactPushx10
import Derived.Test.YtmknnoeggkgkgaaQFnExactPushx11
import Derived.Test.YtmknnoeggkgkgaaQFnExactPushx12
import Derived.Test.YtmknnoeggkgkgaaQFnExactPushx13
import Derived.Test.YtmknnoeggkgkgaaVFnExactPushShort4
import Derived.Test.YtmknnoeggkgkgaaVFnExactPushhort3
import Derived.Test.YtmknnoeggkgkgaaVFnExactPushShort2
import Derived.Test.YtmknnoeggkgkgaaVFnExactPushShort
namespace Go.Proofs.Ytmknnoeggkgkgaa.QFnExactPush
open Go.RowKit Go.Proofs.YtmknnoeggkgkgaaW.PrintWords Go.Proofs.YtmknnoeggkgkgaaW.PrintLast Go.Proofs.YtmknnoeggkgkgaaW.PrintMore Go.Proofs.Ytmknnoeggkgkgaa.Short
attribute [local go_sem] max2_int min2_int max_two min_two max_three min_three max_four min_four   -- for this text's walks alone
set_option linter.unusedVariables false
set_option linter.unusedSimpArgs false

theorem B14x0_ {p : Prop} (h : p := by repeat (first | (with_reducible first | exact HB.out | apply below_alloc | apply pw_below_drewN | apply below_drew1 | refine below_set ?_ GE414.out | refine below_set ?_ GE449.out | refine below_set ?_ GE465.out | refine below_set ?_ GE484.out) | exact HB.out)) : p := h
theorem B14x1_ {p : Prop} (h : p := by (try simp only [List.map_toArray, List.map_cons, List.map_nil]); first | done | rfl | (simp only [List.length_drop, List.length_take]; rfl)) : p := h
theorem B14x2_ {p : Prop} (h : p := by repeat (first | (with_reducible first | exact HB.out | apply below_alloc | apply pw_below_drewN | apply below_drew1 | refine below_set ?_ GE414.out | refine below_set ?_ GE449.out | refine below_set ?_ GE465.out | refine below_set ?_ GE484.out | refine below_set ?_ GE546.out) | exact HB.out)) : p := h
theorem B14x3_ {p : Prop} (h : p := by (with_reducible repeat (first | apply Kd.R_alloc | apply Kd.R_drewN | apply Kd.R_drew)); exact HO_10.out) : p := h
theorem B14x4_ {p : Prop} (h : p := by (with_reducible repeat (first | apply Kd.R_alloc | apply Kd.R_drewN | apply Kd.R_drew)); exact HO_450009.out) : p := h
theorem B14x5_ {p : Prop} (h : p := by (with_reducible repeat (first | apply Kd.R_alloc | apply Kd.R_drewN | apply Kd.R_drew)); exact HO_466009.out) : p := h
theorem B14x6_ {p : Prop} (h : p := by (with_reducible repeat (first | apply Kd.R_alloc | apply Kd.R_drewN | apply Kd.R_drew)); exact HO_485009.out) : p := h
theorem B14x7_ {p : Prop} (h : p := by (with_reducible repeat (first | apply Kd.R_alloc | apply Kd.R_drewN | apply Kd.R_drew)); exact HO_7.out) : p := h
theorem B14x8_ {p : Prop} (h : p := by repeat (first | (with_reducible first | exact HB.out | apply below_alloc | apply pw_below_drewN | apply below_drew1 | refine below_set ?_ GE414.out) | exact HB.out)) : p := h
theorem B14x9_ {p : Prop} (h : p := by (with_reducible repeat (first | apply Kd.R_alloc | apply Kd.R_drewN | apply Kd.R_drew)); exact HO427.out) : p := h
theorem B14x10_ {p : Prop} (h : p := by (with_reducible repeat (first | apply Kd.R_alloc | apply Kd.R_drewN | apply Kd.R_drew)); exact HO448.out) : p := h
theorem B14x11_ {p : Prop} (h : p := by (with_reducible repeat (first | apply Kd.R_alloc | apply Kd.R_drewN | apply Kd.R_drew)); exact HO442.out) : p := h
theorem B14x12_ {p : Prop} (h : p := by repeat (first | (with_reducible first | exact HB.out | apply below_alloc | apply pw_below_drewN | apply below_drew1 | refine below_set ?_ GE414.out | refine below_set ?_ GE449.out | refine below_set ?_ GE465.out) | exact HB.out)) : p := h
theorem B14x13_ {p : Prop} (h : p := by repeat (first | exact (Kd.C_below HR0_9.out HB.out) | (with_reducible refine Kd.C_alloc ?_ _) | (with_reducible refine Kd.C_drewN ?_ _) | (with_reducible refine Kd.C_drew ?_))) : p := h
theorem B14x14_ {p : Prop} (h : p := by (with_reducible repeat (first | refine blk_drewN ?_ _ | refine blk_drew ?_ | refine blk_alloc ?_ _)); exact BK414.out) : p := h
theorem B14x15_ {p : Prop} (h : p := by (with_reducible repeat (first | refine blk_drewN ?_ _ | refine blk_drew ?_ | refine blk_alloc ?_ _)); exact BK449.out) : p := h
theorem B14x16_ {p : Prop} (h : p := by (with_reducible repeat (first | refine blk_drewN ?_ _ | refine blk_drew ?_ | refine blk_alloc ?_ _)); exact BK465.out) : p := h
theorem B14x17_ {p : Prop} (h : p := by (with_reducible repeat (first | refine blk_drewN ?_ _ | refine blk_drew ?_ | refine blk_alloc ?_ _)); exact BK484.out) : p := h
theorem B14x18_ {p : Prop} (h : p := by (with_reducible repeat (first | apply Kd.R_alloc | apply Kd.R_drewN | apply Kd.R_drew)); exact HO461.out) : p := h
theorem B14x19_ {p : Prop} (h : p := by repeat (first | (with_reducible first | exact HB.out | apply below_alloc | apply pw_below_drewN | apply below_drew1 | refine below_set ?_ GE414.out | refine below_set ?_ GE449.out) | exact HB.out)) : p := h
theorem B14x20_ {p : Prop} (h : p := by repeat (first | exact (Kd.R_reads' HO_450009.out).2.2 | (with_reducible refine Kd.C_alloc ?_ _) | (with_reducible refine Kd.C_drewN ?_ _) | (with_reducible refine Kd.C_drew ?_))) : p := h
theorem B14x21_ {p : Prop} (h : p := by repeat (first | exact (Kd.R_reads' HO_485009.out).2.2 | (with_reducible refine Kd.C_alloc ?_ _) | (with_reducible refine Kd.C_drewN ?_ _) | (with_reducible refine Kd.C_drew ?_))) : p := h
theorem B14x22_ {p : Prop} (h : p := by (with_reducible repeat (first | apply Kd.R_alloc | apply Kd.R_drewN | apply Kd.R_drew)); exact HO483.out) : p := h
theorem B14x23_ {p : Prop} (h : p := by (with_reducible repeat (first | apply Kd.R_alloc | apply Kd.R_drewN | apply Kd.R_drew)); exact HO524.out) : p := h
theorem B14x24_ {p : Prop} (h : p := by first | (go_simp; done) | (go_simp; rfl)) : p := h
theorem B14x25_ {p : Prop} (h : p := by repeat (first | exact (Kd.R_reads' HO_10.out).2.2 | (with_reducible refine Kd.C_alloc ?_ _) | (with_reducible refine Kd.C_drewN ?_ _) | (with_reducible refine Kd.C_drew ?_))) : p := h
theorem B14x26_ {p : Prop} (h : p := by (with_reducible repeat (first | apply Kd.R_alloc | apply Kd.R_drewN | apply Kd.R_drew)); exact HO477.out) : p := h
theorem B14x27_ {p : Prop} (h : p := by (with_reducible repeat (first | apply Kd.R_alloc | apply Kd.R_drewN | apply Kd.R_drew)); exact HO498.out) : p := h
theorem B14x28_ {p : Prop} (h : p := by (with_reducible repeat (first | apply Kd.R_alloc | apply Kd.R_drewN | apply Kd.R_drew)); exact HO539.out) : p := h
theorem B14x29_ {p : Prop} (h : p := by (with_reducible repeat (first | apply Kd.R_alloc | apply Kd.R_drewN | apply Kd.R_drew)); exact HO545.out) : p := h
theorem B14x30_ {p : Prop} (h : p := by (with_reducible repeat (first | apply Kd.R_alloc | apply Kd.R_drewN | apply Kd.R_drew)); exact Kd.R_mono HO_466009.out (fun _ hk => ⟨hk.1.1, hk.1.2⟩)) : p := h
theorem B14x31_ {p : Prop} (h : p := by (with_reducible repeat (first | apply Kd.R_alloc | apply Kd.R_drewN | apply Kd.R_drew)); exact Kd.R_mono HO_450009.out (fun _ hk => ⟨hk.1, hk.2.1⟩)) : p := h
theorem B14x32_ {p : Prop} (h : p := by (with_reducible repeat (first | apply Kd.R_alloc | apply Kd.R_drewN | apply Kd.R_drew)); exact Kd.R_mono HO_485009.out (fun _ hk => ⟨hk.1, hk.2.1⟩)) : p := h
theorem B14x33_ {p : Prop} (h : p := by kernel_rfl) : p := h
theorem B14x34_ {p : Prop} (h : p := by (try simp only [hl466009_68]); (with_reducible repeat (first | apply Kd.R_alloc | apply Kd.R_drewN | apply Kd.R_drew)); exact Kd.R_mono HO_450009.out (fun _ hk => ⟨hk.1, ⟨hk.2.1, hk.2.2.2⟩⟩)) : p := h
theorem B14x35_ {p : Prop} (h : p := by (try simp only [hl466009_68]); (with_reducible repeat (first | apply Kd.R_alloc | apply Kd.R_drewN | apply Kd.R_drew)); exact Kd.R_mono HO_466009.out (fun _ hk => ⟨hk.1, ⟨hk.2.1, hk.2.2.2⟩⟩)) : p := h
theorem B14x36_ {p : Prop} (h : p := by (try simp only [hl466009_68]); (with_reducible repeat (first | apply Kd.R_alloc | apply Kd.R_drewN | apply Kd.R_drew)); exact Kd.R_mono HO_485009.out (fun _ hk => ⟨hk.1, ⟨hk.2.1, hk.2.2.2⟩⟩)) : p := h
theorem B14x37_ {p : Prop} (h : p := by (try simp only [hl466009_68]); (with_reducible repeat (first | apply Kd.R_alloc | apply Kd.R_drewN | apply Kd.R_drew)); exact Kd.R_mono HO539.out (fun _ hk => ⟨hk.1, ⟨hk.2.1, hk.2.2.1⟩⟩)) : p := h
theorem B14x38_ {p : Prop} (h : p := by repeat (first | exact (Kd.R_reads' HO442.out).2.2 | (with_reducible refine Kd.C_alloc ?_ _) | (with_reducible refine Kd.C_drewN ?_ _) | (with_reducible refine Kd.C_drew ?_))) : p := h
theorem B14x39_ {p : Prop} (h : p := by repeat (first | exact (Kd.R_reads' HO477.out).2.2 | (with_reducible refine Kd.C_alloc ?_ _) | (with_reducible refine Kd.C_drewN ?_ _) | (with_reducible refine Kd.C_drew ?_))) : p := h
theorem B14x40_ {p : Prop} (h : p := by repeat (first | exact (Kd.R_reads' HO539.out).2.2 | (with_reducible refine Kd.C_alloc ?_ _) | (with_reducible refine Kd.C_drewN ?_ _) | (with_reducible refine Kd.C_drew ?_))) : p := h
theorem B14x41_ {p : Prop} (h : p := by repeat (first | exact (Kd.R_reads' HO_7.out).2.2 | (with_reducible refine Kd.C_alloc ?_ _) | (with_reducible refine Kd.C_drewN ?_ _) | (with_reducible refine Kd.C_drew ?_))) : p := h
theorem B14x42_ {p : Prop} (h : p := by (try simp only [hl466009_68]); (with_reducible repeat (first | apply Kd.R_alloc | apply Kd.R_drewN | apply Kd.R_drew)); exact Kd.R_mono HO_10.out (fun _ hk => trivial)) : p := h
theorem B14x43_ {p : Prop} (h : p := by (with_reducible repeat (first | apply Kd.R_alloc | apply Kd.R_drewN | apply Kd.R_drew)); exact Kd.R_mono HO442.out (fun _ hk => ⟨hk.2.1, hk.2.2⟩)) : p := h
theorem B14x44_ {p : Prop} (h : p := by (with_reducible repeat (first | apply Kd.R_alloc | apply Kd.R_drewN | apply Kd.R_drew)); exact Kd.R_mono HO461.out (fun _ hk => ⟨hk.2.1, hk.2.2⟩)) : p := h
theorem B14x45_ {p : Prop} (h : p := by (with_reducible repeat (first | apply Kd.R_alloc | apply Kd.R_drewN | apply Kd.R_drew)); exact Kd.R_mono HO477.out (fun _ hk => ⟨hk.2.1, hk.2.2⟩)) : p := h
theorem B14x46_ {p : Prop} (h : p := by (try simp only [hl466009_68]); (with_reducible repeat (first | refine blk_drewN ?_ _ | refine blk_drew ?_ | refine blk_alloc ?_ _)); exact BK414.out) : p := h
theorem B14x47_ {p : Prop} (h : p := by (try simp only [hl466009_68]); (with_reducible repeat (first | refine blk_drewN ?_ _ | refine blk_drew ?_ | refine blk_alloc ?_ _)); exact BK449.out) : p := h
theorem B14x48_ {p : Prop} (h : p := by (try simp only [hl466009_68]); (with_reducible repeat (first | refine blk_drewN ?_ _ | refine blk_drew ?_ | refine blk_alloc ?_ _)); exact BK465.out) : p := h
theorem B14x49_ {p : Prop} (h : p := by (try simp only [hl466009_68]); (with_reducible repeat (first | refine blk_drewN ?_ _ | refine blk_drew ?_ | refine blk_alloc ?_ _)); exact BK484.out) : p := h
theorem B14x50_ {p : Prop} (h : p := by (try simp only [hl466009_68]); (with_reducible repeat (first | refine blk_drewN ?_ _ | refine blk_drew ?_ | refine blk_alloc ?_ _)); exact BK546.out) : p := h
theorem B14x51_ {p : Prop} (h : p := by repeat (first | (with_reducible first | exact HB.out | apply below_alloc | apply pw_below_drewN | apply below_drew1) | exact HB.out)) : p := h
theorem B14x52_ {p : Prop} (h : p := by (with_reducible repeat (first | apply Kd.R_alloc | apply Kd.R_drewN | apply Kd.R_drew)); exact HO_547009.out) : p := h
theorem B14x53_ {p : Prop} (h : p := by have := HJ11.out; first | omega | exact Nat.le_refl _) : p := h
theorem B14x54_ {p : Prop} (h : p := by first | rfl | (simp [errW_none, errW_some] <;> rfl) | (simp [*, errW_none, errW_some] <;> rfl)) : p := h
theorem B14x55_ {p : Prop} (h : p := by have := HJ11.out; have := HJ68.out; first | omega | exact Nat.le_refl _) : p := h
/-! ### laws_FnExactPush: function 4 -/
mutual
def laws_FnExactPush.j0 : Nat → Int → List (S28) → List (S28) → Bool → Int → Int → Int → Int → ByteArray → Int → Int → Bool → ByteArray → List (S152) → Bool → Int → Int → Int → Int → Int → Int → ByteArray → Int → Int → Bool → ByteArray → List (S143) → Bool → Int → Int → Int → Int → Int → Int → ByteArray → Int → Int → Bool → ByteArray → List (S143) → Bool → Int → Int → Int → Int → Int → Int → ByteArray → Int → Int → Bool → ByteArray → List (S143) → Bool → Int → Int → Option (Bool)
 | 0, _, _, _, _, _, _, _, _, _, _, _, _, _, _, _, _, _, _, _, _, _, _, _, _, _, _, _, _, _, _, _, _, _, _, _, _, _, _, _, _, _, _, _, _, _, _, _, _, _, _, _, _, _, _, _, _ => none
 | k + 1, x1, x7, x10, x45, x415000, x415001, x415002, x415003, x415004, x415005, x415006, x415007, x415008, x415009, x415010, x415011, x415012, x450000, x450001, x450002, x450003, x450004, x450005, x450006, x450007, x450008, x450009, x450010, x450011, x450012, x466000, x466001, x466002, x466003, x466004, x466005, x466006, x466007, x466008, x466009, x466010, x466011, x466012, x485000, x485001, x485002, x485003, x485004, x485005, x485006, x485007, x485008, x485009, x485010, x485011, x485012 => if x45 = true then (some false) else ((laws_toStream.f k x415000 x415001 x415002 x415003 x415004 x415005 x415006 x415007 x415008 x415009 x415010 x415011 x415012).bind fun bt487 => ((laws_eqStream.f k x466000 x466001 x466002 x466003 x466004 x466005 x466006 x466007 x466008 x466009 x466010 x466011 x466012 bt487.1 bt487.2.1 bt487.2.2.1 bt487.2.2.2.1 bt487.2.2.2.2.1 bt487.2.2.2.2.2.1 bt487.2.2.2.2.2.2.1 bt487.2.2.2.2.2.2.2.1 bt487.2.2.2.2.2.2.2.2.1 bt487.2.2.2.2.2.2.2.2.2.1 bt487.2.2.2.2.2.2.2.2.2.2.1 bt487.2.2.2.2.2.2.2.2.2.2.2.1 bt487.2.2.2.2.2.2.2.2.2.2.2.2).bind fun t502 => (if t502 = true then ((laws_markStream.f k x466000 x466001 x466002 x466003 x466004 x466005 x466006 x466007 x466008 x466009 x466010 x466011 x466012 1).bind fun bt503 => (if bt503.1 < 0 then (laws_FnExactPush.j1 k x1 x7 x10 true x415000 x415001 x415002 x415003 x415004 x415005 x415006 x415007 x415008 x415009 x415010 x415011 x415012 x450000 x450001 x450002 x450003 x450004 x450005 x450006 x450007 x450008 x450009 x450010 x450011 x450012 x485000 x485001 x485002 x485003 x485004 x485005 x485006 x485007 x485008 x485009 x485010 x485011 x485012) else ((laws_eqStream.f k x485000 x485001 x485002 x485003 x485004 x485005 x485006 x485007 x485008 x485009 x485010 x485011 x485012 x450000 x450001 x450002 x450003 x450004 x450005 x450006 x450007 x450008 x450009 x450010 x450011 x450012).bind fun t505 => (if t505 = true then ((laws_eqSegS.f k x10 x7).bind fun t506 => (laws_FnExactPush.j1 k x1 x7 x10 (!t506) x415000 x415001 x415002 x415003 x415004 x415005 x415006 x415007 x415008 x415009 x415010 x415011 x415012 x450000 x450001 x450002 x450003 x450004 x450005 x450006 x450007 x450008 x450009 x450010 x450011 x450012 x485000 x485001 x485002 x485003 x485004 x485005 x485006 x485007 x485008 x485009 x485010 x485011 x485012)) else (laws_FnExactPush.j1 k x1 x7 x10 true x415000 x415001 x415002 x415003 x415004 x415005 x415006 x415007 x415008 x415009 x415010 x415011 x415012 x450000 x450001 x450002 x450003 x450004 x450005 x450006 x450007 x450008 x450009 x450010 x450011 x450012 x485000 x485001 x485002 x485003 x485004 x485005 x485006 x485007 x485008 x485009 x485010 x485011 x485012))))) else (some false))))
def laws_FnExactPush.j1 : Nat → Int → List (S28) → List (S28) → Bool → Int → Int → Int → Int → ByteArray → Int → Int → Bool → ByteArray → List (S152) → Bool → Int → Int → Int → Int → Int → Int → ByteArray → Int → Int → Bool → ByteArray → List (S143) → Bool → Int → Int → Int → Int → Int → Int → ByteArray → Int → Int → Bool → ByteArray → List (S143) → Bool → Int → Int → Option (Bool)
 | 0, _, _, _, _, _, _, _, _, _, _, _, _, _, _, _, _, _, _, _, _, _, _, _, _, _, _, _, _, _, _, _, _, _, _, _, _, _, _, _, _, _, _, _ => none
 | k + 1, x1, x7, x10, x67, x415000, x415001, x415002, x415003, x415004, x415005, x415006, x415007, x415008, x415009, x415010, x415011, x415012, x450000, x450001, x450002, x450003, x450004, x450005, x450006, x450007, x450008, x450009, x450010, x450011, x450012, x485000, x485001, x485002, x485003, x485004, x485005, x485006, x485007, x485008, x485009, x485010, x485011, x485012 => if x67 = true then (some false) else ((laws_markStream.f k x485000 x485001 x485002 x485003 x485004 x485005 x485006 x485007 x485008 x485009 x485010 x485011 x485012 1).bind fun bt507 => ((laws_markSegS.f k x10 bt507.1).bind fun bt509 => ((laws_heldStream.f k x485000 x485001 x485002 x485003 x485004 x485005 x485006 x485007 x485008 bt507.2 x485010 x485011 x485012 1).bind fun t511 => (if t511 < 0 then (some false) else ((laws_heldSegS.f k bt509.2 t511).bind fun t512 => (if t512 < 0 then (some false) else (if t512 = bt509.1 then ((laws_toStream.f k x415000 x415001 x415002 x415003 x415004 x415005 x415006 x415007 x415008 x415009 x415010 x415011 x415012).bind fun bt513 => ((impl_Push.f k bt513.1 bt513.2.1 bt513.2.2.1 bt513.2.2.2.1 bt513.2.2.2.2.1 bt513.2.2.2.2.2.1 bt513.2.2.2.2.2.2.1 bt513.2.2.2.2.2.2.2.1 bt513.2.2.2.2.2.2.2.2.1 bt513.2.2.2.2.2.2.2.2.2.1 bt513.2.2.2.2.2.2.2.2.2.2.1 bt513.2.2.2.2.2.2.2.2.2.2.2.1 bt513.2.2.2.2.2.2.2.2.2.2.2.2 x1).bind fun bt528 => ((laws_eqStream.f k bt528.1 bt528.2.1 bt528.2.2.1 bt528.2.2.2.1 bt528.2.2.2.2.1 bt528.2.2.2.2.2.1 bt528.2.2.2.2.2.2.1 bt528.2.2.2.2.2.2.2.1 bt528.2.2.2.2.2.2.2.2.1 bt528.2.2.2.2.2.2.2.2.2.1 bt528.2.2.2.2.2.2.2.2.2.2.1 bt528.2.2.2.2.2.2.2.2.2.2.2.1 bt528.2.2.2.2.2.2.2.2.2.2.2.2.1 x450000 x450001 x450002 x450003 x450004 x450005 x450006 x450007 x450008 x450009 x450010 x450011 x450012).bind fun t547 => (if t547 = true then ((laws_eqSegS.f k bt528.2.2.2.2.2.2.2.2.2.2.2.2.2 x7).bind fun t548 => (laws_FnExactPush.j2 k bt509.2 bt509.1 (!t548) x485000 x485001 x485002 x485003 x485004 x485005 x485006 x485007 x485008 bt507.2 x485010 x485011 x485012)) else (laws_FnExactPush.j2 k bt509.2 bt509.1 true x485000 x485001 x485002 x485003 x485004 x485005 x485006 x485007 x485008 bt507.2 x485010 x485011 x485012))))) else (some false))))))))
def laws_FnExactPush.j2 : Nat → List (S28) → Int → Bool → Int → Int → Int → Int → ByteArray → Int → Int → Bool → ByteArray → List (S143) → Bool → Int → Int → Option (Bool)
 | 0, _, _, _, _, _, _, _, _, _, _, _, _, _, _, _, _ => none
 | k + 1, x10, x12, x103, x485000, x485001, x485002, x485003, x485004, x485005, x485006, x485007, x485008, x485009, x485010, x485011, x485012 => if x103 = true then (some false) else ((laws_heldStream.f k x485000 x485001 x485002 x485003 x485004 x485005 x485006 x485007 x485008 x485009 x485010 x485011 x485012 1).bind fun t549 => (if t549 < 0 then (some false) else ((laws_heldSegS.f k x10 t549).bind fun t550 => (if t550 < 0 then (some false) else (if t550 = x12 then (some true) else (some false))))))
end
def laws_FnExactPush.f (k : Nat) (a0_0 : Int) (a0_1 : Int) (a0_2 : Int) (a0_3 : Int) (a0_4 : ByteArray) (a0_5 : Int) (a0_6 : Int) (a0_7 : Bool) (a0_8 : ByteArray) (l0_9 : List (S152)) (a0_10 : Bool) (a0_11 : Int) (a0_12 : Int) (a1 : Int) : Option (Bool) := (laws_szStream.f k a0_0 a0_1 a0_2 a0_3 a0_4 a0_5 a0_6 a0_7 a0_8 l0_9 a0_10 a0_11 a0_12 1048576).bind fun t415 => (if t415 < 0 then (some true) else ((laws_toStream.f k a0_0 a0_1 a0_2 a0_3 a0_4 a0_5 a0_6 a0_7 a0_8 l0_9 a0_10 a0_11 a0_12).bind fun bt416 => ((spec_Push.f k bt416.1 bt416.2.1 bt416.2.2.1 bt416.2.2.2.1 bt416.2.2.2.2.1 bt416.2.2.2.2.2.1 bt416.2.2.2.2.2.2.1 bt416.2.2.2.2.2.2.2.1 bt416.2.2.2.2.2.2.2.2.1 bt416.2.2.2.2.2.2.2.2.2.1 bt416.2.2.2.2.2.2.2.2.2.2.1 bt416.2.2.2.2.2.2.2.2.2.2.2.1 bt416.2.2.2.2.2.2.2.2.2.2.2.2 a1).bind fun bt431 => ((laws_toStream.f k a0_0 a0_1 a0_2 a0_3 a0_4 a0_5 a0_6 a0_7 a0_8 l0_9 a0_10 a0_11 a0_12).bind fun bt450 => ((impl_Push.f k bt450.1 bt450.2.1 bt450.2.2.1 bt450.2.2.2.1 bt450.2.2.2.2.1 bt450.2.2.2.2.2.1 bt450.2.2.2.2.2.2.1 bt450.2.2.2.2.2.2.2.1 bt450.2.2.2.2.2.2.2.2.1 bt450.2.2.2.2.2.2.2.2.2.1 bt450.2.2.2.2.2.2.2.2.2.2.1 bt450.2.2.2.2.2.2.2.2.2.2.2.1 bt450.2.2.2.2.2.2.2.2.2.2.2.2 a1).bind fun bt466 => ((laws_eqStream.f k bt466.1 bt466.2.1 bt466.2.2.1 bt466.2.2.2.1 bt466.2.2.2.2.1 bt466.2.2.2.2.2.1 bt466.2.2.2.2.2.2.1 bt466.2.2.2.2.2.2.2.1 bt466.2.2.2.2.2.2.2.2.1 bt466.2.2.2.2.2.2.2.2.2.1 bt466.2.2.2.2.2.2.2.2.2.2.1 bt466.2.2.2.2.2.2.2.2.2.2.2.1 bt466.2.2.2.2.2.2.2.2.2.2.2.2.1 bt431.1 bt431.2.1 bt431.2.2.1 bt431.2.2.2.1 bt431.2.2.2.2.1 bt431.2.2.2.2.2.1 bt431.2.2.2.2.2.2.1 bt431.2.2.2.2.2.2.2.1 bt431.2.2.2.2.2.2.2.2.1 bt431.2.2.2.2.2.2.2.2.2.1 bt431.2.2.2.2.2.2.2.2.2.2.1 bt431.2.2.2.2.2.2.2.2.2.2.2.1 bt431.2.2.2.2.2.2.2.2.2.2.2.2.1).bind fun t485 => (if t485 = true then ((laws_eqSegS.f k bt466.2.2.2.2.2.2.2.2.2.2.2.2.2 bt431.2.2.2.2.2.2.2.2.2.2.2.2.2).bind fun t486 => (laws_FnExactPush.j0 k a1 bt431.2.2.2.2.2.2.2.2.2.2.2.2.2 bt466.2.2.2.2.2.2.2.2.2.2.2.2.2 (!t486) a0_0 a0_1 a0_2 a0_3 a0_4 a0_5 a0_6 a0_7 a0_8 l0_9 a0_10 a0_11 a0_12 bt431.1 bt431.2.1 bt431.2.2.1 bt431.2.2.2.1 bt431.2.2.2.2.1 bt431.2.2.2.2.2.1 bt431.2.2.2.2.2.2.1 bt431.2.2.2.2.2.2.2.1 bt431.2.2.2.2.2.2.2.2.1 bt431.2.2.2.2.2.2.2.2.2.1 bt431.2.2.2.2.2.2.2.2.2.2.1 bt431.2.2.2.2.2.2.2.2.2.2.2.1 bt431.2.2.2.2.2.2.2.2.2.2.2.2.1 bt450.1 bt450.2.1 bt450.2.2.1 bt450.2.2.2.1 bt450.2.2.2.2.1 bt450.2.2.2.2.2.1 bt450.2.2.2.2.2.2.1 bt450.2.2.2.2.2.2.2.1 bt450.2.2.2.2.2.2.2.2.1 bt450.2.2.2.2.2.2.2.2.2.1 bt450.2.2.2.2.2.2.2.2.2.2.1 bt450.2.2.2.2.2.2.2.2.2.2.2.1 bt450.2.2.2.2.2.2.2.2.2.2.2.2 bt466.1 bt466.2.1 bt466.2.2.1 bt466.2.2.2.1 bt466.2.2.2.2.1 bt466.2.2.2.2.2.1 bt466.2.2.2.2.2.2.1 bt466.2.2.2.2.2.2.2.1 bt466.2.2.2.2.2.2.2.2.1 bt466.2.2.2.2.2.2.2.2.2.1 bt466.2.2.2.2.2.2.2.2.2.2.1 bt466.2.2.2.2.2.2.2.2.2.2.2.1 bt466.2.2.2.2.2.2.2.2.2.2.2.2.1)) else (laws_FnExactPush.j0 k a1 bt431.2.2.2.2.2.2.2.2.2.2.2.2.2 bt466.2.2.2.2.2.2.2.2.2.2.2.2.2 true a0_0 a0_1 a0_2 a0_3 a0_4 a0_5 a0_6 a0_7 a0_8 l0_9 a0_10 a0_11 a0_12 bt431.1 bt431.2.1 bt431.2.2.1 bt431.2.2.2.1 bt431.2.2.2.2.1 bt431.2.2.2.2.2.1 bt431.2.2.2.2.2.2.1 bt431.2.2.2.2.2.2.2.1 bt431.2.2.2.2.2.2.2.2.1 bt431.2.2.2.2.2.2.2.2.2.1 bt431.2.2.2.2.2.2.2.2.2.2.1 bt431.2.2.2.2.2.2.2.2.2.2.2.1 bt431.2.2.2.2.2.2.2.2.2.2.2.2.1 bt450.1 bt450.2.1 bt450.2.2.1 bt450.2.2.2.1 bt450.2.2.2.2.1 bt450.2.2.2.2.2.1 bt450.2.2.2.2.2.2.1 bt450.2.2.2.2.2.2.2.1 bt450.2.2.2.2.2.2.2.2.1 bt450.2.2.2.2.2.2.2.2.2.1 bt450.2.2.2.2.2.2.2.2.2.2.1 bt450.2.2.2.2.2.2.2.2.2.2.2.1 bt450.2.2.2.2.2.2.2.2.2.2.2.2 bt466.1 bt466.2.1 bt466.2.2.1 bt466.2.2.2.1 bt466.2.2.2.2.1 bt466.2.2.2.2.2.1 bt466.2.2.2.2.2.2.1 bt466.2.2.2.2.2.2.2.1 bt466.2.2.2.2.2.2.2.2.1 bt466.2.2.2.2.2.2.2.2.2.1 bt466.2.2.2.2.2.2.2.2.2.2.1 bt466.2.2.2.2.2.2.2.2.2.2.2.1 bt466.2.2.2.2.2.2.2.2.2.2.2.2.1))))))))
theorem laws_FnExactPush.mono_l : ∀ k, (∀ y0 y1 y2 y3 y4 y5 y6 y7 y8 y9 y10 y11 y12 y13 y14 y15 y16 y17 y18 y19 y20 y21 y22 y23 y24 y25 y26 y27 y28 y29 y30 y31 y32 y33 y34 y35 y36 y37 y38 y39 y40 y41 y42 y43 y44 y45 y46 y47 y48 y49 y50 y51 y52 y53 y54 y55, LeO (laws_FnExactPush.j0 k y0 y1 y2 y3 y4 y5 y6 y7 y8 y9 y10 y11 y12 y13 y14 y15 y16 y17 y18 y19 y20 y21 y22 y23 y24 y25 y26 y27 y28 y29 y30 y31 y32 y33 y34 y35 y36 y37 y38 y39 y40 y41 y42 y43 y44 y45 y46 y47 y48 y49 y50 y51 y52 y53 y54 y55) (laws_FnExactPush.j0 (k + 1) y0 y1 y2 y3 y4 y5 y6 y7 y8 y9 y10 y11 y12 y13 y14 y15 y16 y17 y18 y19 y20 y21 y22 y23 y24 y25 y26 y27 y28 y29 y30 y31 y32 y33 y34 y35 y36 y37 y38 y39 y40 y41 y42 y43 y44 y45 y46 y47 y48 y49 y50 y51 y52 y53 y54 y55)) ∧ (∀ y0 y1 y2 y3 y4 y5 y6 y7 y8 y9 y10 y11 y12 y13 y14 y15 y16 y17 y18 y19 y20 y21 y22 y23 y24 y25 y26 y27 y28 y29 y30 y31 y32 y33 y34 y35 y36 y37 y38 y39 y40 y41 y42, LeO (laws_FnExactPush.j1 k y0 y1 y2 y3 y4 y5 y6 y7 y8 y9 y10 y11 y12 y13 y14 y15 y16 y17 y18 y19 y20 y21 y22 y23 y24 y25 y26 y27 y28 y29 y30 y31 y32 y33 y34 y35 y36 y37 y38 y39 y40 y41 y42) (laws_FnExactPush.j1 (k + 1) y0 y1 y2 y3 y4 y5 y6 y7 y8 y9 y10 y11 y12 y13 y14 y15 y16 y17 y18 y19 y20 y21 y22 y23 y24 y25 y26 y27 y28 y29 y30 y31 y32 y33 y34 y35 y36 y37 y38 y39 y40 y41 y42)) ∧ (∀ y0 y1 y2 y3 y4 y5 y6 y7 y8 y9 y10 y11 y12 y13 y14 y15, LeO (laws_FnExactPush.j2 k y0 y1 y2 y3 y4 y5 y6 y7 y8 y9 y10 y11 y12 y13 y14 y15) (laws_FnExactPush.j2 (k + 1) y0 y1 y2 y3 y4 y5 y6 y7 y8 y9 y10 y11 y12 y13 y14 y15))
 | 0 => ⟨fun _ _ _ _ _ _ _ _ _ _ _ _ _ _ _ _ _ _ _ _ _ _ _ _ _ _ _ _ _ _ _ _ _ _ _ _ _ _ _ _ _ _ _ _ _ _ _ _ _ _ _ _ _ _ _ _ r h => by simp [laws_FnExactPush.j0] at h, fun _ _ _ _ _ _ _ _ _ _ _ _ _ _ _ _ _ _ _ _ _ _ _ _ _ _ _ _ _ _ _ _ _ _ _ _ _ _ _ _ _ _ _ r h => by simp [laws_FnExactPush.j1] at h, fun _ _ _ _ _ _ _ _ _ _ _ _ _ _ _ _ r h => by simp [laws_FnExactPush.j2] at h⟩
 | k + 1 => by
  obtain ⟨ih0, ih1, ih2⟩ := laws_FnExactPush.mono_l k
  refine ⟨?_, ?_, ?_⟩
  ·intro y0 y1 y2 y3 y4 y5 y6 y7 y8 y9 y10 y11 y12 y13 y14 y15 y16 y17 y18 y19 y20 y21 y22 y23 y24 y25 y26 y27 y28 y29 y30 y31 y32 y33 y34 y35 y36 y37 y38 y39 y40 y41 y42 y43 y44 y45 y46 y47 y48 y49 y50 y51 y52 y53 y54 y55
   unfold laws_FnExactPush.j0
   repeat' first
   | (with_reducible exact ih0 _ _ _ _ _ _ _ _ _ _ _ _ _ _ _ _ _ _ _ _ _ _ _ _ _ _ _ _ _ _ _ _ _ _ _ _ _ _ _ _ _ _ _ _ _ _ _ _ _ _ _ _ _ _ _ _)
   | (with_reducible exact ih1 _ _ _ _ _ _ _ _ _ _ _ _ _ _ _ _ _ _ _ _ _ _ _ _ _ _ _ _ _ _ _ _ _ _ _ _ _ _ _ _ _ _ _)
   | (with_reducible exact ih2 _ _ _ _ _ _ _ _ _ _ _ _ _ _ _ _)
   | (with_reducible exact impl_Push.mono _ _ _ _ _ _ _ _ _ _ _ _ _ _ _)
   | (with_reducible exact laws_eqSegS.mono _ _ _)
   | (with_reducible exact laws_eqStream.mono _ _ _ _ _ _ _ _ _ _ _ _ _ _ _ _ _ _ _ _ _ _ _ _ _ _ _)
   | (with_reducible exact laws_heldSegS.mono _ _ _)
   | (with_reducible exact laws_heldStream.mono _ _ _ _ _ _ _ _ _ _ _ _ _ _ _)
   | (with_reducible exact laws_markSegS.mono _ _ _)
   | (with_reducible exact laws_markStream.mono _ _ _ _ _ _ _ _ _ _ _ _ _ _ _)
   | (with_reducible exact laws_szStream.mono _ _ _ _ _ _ _ _ _ _ _ _ _ _ _)
   | (with_reducible exact laws_toStream.mono _ _ _ _ _ _ _ _ _ _ _ _ _ _)
   | (with_reducible exact spec_Push.mono _ _ _ _ _ _ _ _ _ _ _ _ _ _ _)
   | (with_reducible first | exact LeO.refl _ | exact LeO.none _ | refine LeO.ite ?_ ?_ | refine LeO.bind ?_ (fun _ => ?_))
   | exact ih0 _ _ _ _ _ _ _ _ _ _ _ _ _ _ _ _ _ _ _ _ _ _ _ _ _ _ _ _ _ _ _ _ _ _ _ _ _ _ _ _ _ _ _ _ _ _ _ _ _ _ _ _ _ _ _ _
   | exact ih1 _ _ _ _ _ _ _ _ _ _ _ _ _ _ _ _ _ _ _ _ _ _ _ _ _ _ _ _ _ _ _ _ _ _ _ _ _ _ _ _ _ _ _
   | exact ih2 _ _ _ _ _ _ _ _ _ _ _ _ _ _ _ _
   | exact impl_Push.mono _ _ _ _ _ _ _ _ _ _ _ _ _ _ _
   | exact laws_eqSegS.mono _ _ _
   | exact laws_eqStream.mono _ _ _ _ _ _ _ _ _ _ _ _ _ _ _ _ _ _ _ _ _ _ _ _ _ _ _
   | exact laws_heldSegS.mono _ _ _
   | exact laws_heldStream.mono _ _ _ _ _ _ _ _ _ _ _ _ _ _ _
   | exact laws_markSegS.mono _ _ _
   | exact laws_markStream.mono _ _ _ _ _ _ _ _ _ _ _ _ _ _ _
   | exact laws_szStream.mono _ _ _ _ _ _ _ _ _ _ _ _ _ _ _
   | exact laws_toStream.mono _ _ _ _ _ _ _ _ _ _ _ _ _ _
   | exact spec_Push.mono _ _ _ _ _ _ _ _ _ _ _ _ _ _ _
  ·intro y0 y1 y2 y3 y4 y5 y6 y7 y8 y9 y10 y11 y12 y13 y14 y15 y16 y17 y18 y19 y20 y21 y22 y23 y24 y25 y26 y27 y28 y29 y30 y31 y32 y33 y34 y35 y36 y37 y38 y39 y40 y41 y42
   unfold laws_FnExactPush.j1
   repeat' first
   | (with_reducible exact ih0 _ _ _ _ _ _ _ _ _ _ _ _ _ _ _ _ _ _ _ _ _ _ _ _ _ _ _ _ _ _ _ _ _ _ _ _ _ _ _ _ _ _ _ _ _ _ _ _ _ _ _ _ _ _ _ _)
   | (with_reducible exact ih1 _ _ _ _ _ _ _ _ _ _ _ _ _ _ _ _ _ _ _ _ _ _ _ _ _ _ _ _ _ _ _ _ _ _ _ _ _ _ _ _ _ _ _)
   | (with_reducible exact ih2 _ _ _ _ _ _ _ _ _ _ _ _ _ _ _ _)
   | (with_reducible exact impl_Push.mono _ _ _ _ _ _ _ _ _ _ _ _ _ _ _)
   | (with_reducible exact laws_eqSegS.mono _ _ _)
   | (with_reducible exact laws_eqStream.mono _ _ _ _ _ _ _ _ _ _ _ _ _ _ _ _ _ _ _ _ _ _ _ _ _ _ _)
   | (with_reducible exact laws_heldSegS.mono _ _ _)
   | (with_reducible exact laws_heldStream.mono _ _ _ _ _ _ _ _ _ _ _ _ _ _ _)
   | (with_reducible exact laws_markSegS.mono _ _ _)
   | (with_reducible exact laws_markStream.mono _ _ _ _ _ _ _ _ _ _ _ _ _ _ _)
   | (with_reducible exact laws_szStream.mono _ _ _ _ _ _ _ _ _ _ _ _ _ _ _)
   | (with_reducible exact laws_toStream.mono _ _ _ _ _ _ _ _ _ _ _ _ _ _)
   | (with_reducible exact spec_Push.mono _ _ _ _ _ _ _ _ _ _ _ _ _ _ _)
   | (with_reducible first | exact LeO.refl _ | exact LeO.none _ | refine LeO.ite ?_ ?_ | refine LeO.bind ?_ (fun _ => ?_))
   | exact ih0 _ _ _ _ _ _ _ _ _ _ _ _ _ _ _ _ _ _ _ _ _ _ _ _ _ _ _ _ _ _ _ _ _ _ _ _ _ _ _ _ _ _ _ _ _ _ _ _ _ _ _ _ _ _ _ _
   | exact ih1 _ _ _ _ _ _ _ _ _ _ _ _ _ _ _ _ _ _ _ _ _ _ _ _ _ _ _ _ _ _ _ _ _ _ _ _ _ _ _ _ _ _ _
   | exact ih2 _ _ _ _ _ _ _ _ _ _ _ _ _ _ _ _
   | exact impl_Push.mono _ _ _ _ _ _ _ _ _ _ _ _ _ _ _
   | exact laws_eqSegS.mono _ _ _
   | exact laws_eqStream.mono _ _ _ _ _ _ _ _ _ _ _ _ _ _ _ _ _ _ _ _ _ _ _ _ _ _ _
   | exact laws_heldSegS.mono _ _ _
   | exact laws_heldStream.mono _ _ _ _ _ _ _ _ _ _ _ _ _ _ _
   | exact laws_markSegS.mono _ _ _
   | exact laws_markStream.mono _ _ _ _ _ _ _ _ _ _ _ _ _ _ _
   | exact laws_szStream.mono _ _ _ _ _ _ _ _ _ _ _ _ _ _ _
   | exact laws_toStream.mono _ _ _ _ _ _ _ _ _ _ _ _ _ _
   | exact spec_Push.mono _ _ _ _ _ _ _ _ _ _ _ _ _ _ _
  ·intro y0 y1 y2 y3 y4 y5 y6 y7 y8 y9 y10 y11 y12 y13 y14 y15
   unfold laws_FnExactPush.j2
   repeat' first
   | (with_reducible exact ih0 _ _ _ _ _ _ _ _ _ _ _ _ _ _ _ _ _ _ _ _ _ _ _ _ _ _ _ _ _ _ _ _ _ _ _ _ _ _ _ _ _ _ _ _ _ _ _ _ _ _ _ _ _ _ _ _)
   | (with_reducible exact ih1 _ _ _ _ _ _ _ _ _ _ _ _ _ _ _ _ _ _ _ _ _ _ _ _ _ _ _ _ _ _ _ _ _ _ _ _ _ _ _ _ _ _ _)
   | (with_reducible exact ih2 _ _ _ _ _ _ _ _ _ _ _ _ _ _ _ _)
   | (with_reducible exact impl_Push.mono _ _ _ _ _ _ _ _ _ _ _ _ _ _ _)
   | (with_reducible exact laws_eqSegS.mono _ _ _)
   | (with_reducible exact laws_eqStream.mono _ _ _ _ _ _ _ _ _ _ _ _ _ _ _ _ _ _ _ _ _ _ _ _ _ _ _)
   | (with_reducible exact laws_heldSegS.mono _ _ _)
   | (with_reducible exact laws_heldStream.mono _ _ _ _ _ _ _ _ _ _ _ _ _ _ _)
   | (with_reducible exact laws_markSegS.mono _ _ _)
   | (with_reducible exact laws_markStream.mono _ _ _ _ _ _ _ _ _ _ _ _ _ _ _)
   | (with_reducible exact laws_szStream.mono _ _ _ _ _ _ _ _ _ _ _ _ _ _ _)
   | (with_reducible exact laws_toStream.mono _ _ _ _ _ _ _ _ _ _ _ _ _ _)
   | (with_reducible exact spec_Push.mono _ _ _ _ _ _ _ _ _ _ _ _ _ _ _)
   | (with_reducible first | exact LeO.refl _ | exact LeO.none _ | refine LeO.ite ?_ ?_ | refine LeO.bind ?_ (fun _ => ?_))
   | exact ih0 _ _ _ _ _ _ _ _ _ _ _ _ _ _ _ _ _ _ _ _ _ _ _ _ _ _ _ _ _ _ _ _ _ _ _ _ _ _ _ _ _ _ _ _ _ _ _ _ _ _ _ _ _ _ _ _
   | exact ih1 _ _ _ _ _ _ _ _ _ _ _ _ _ _ _ _ _ _ _ _ _ _ _ _ _ _ _ _ _ _ _ _ _ _ _ _ _ _ _ _ _ _ _
   | exact ih2 _ _ _ _ _ _ _ _ _ _ _ _ _ _ _ _
   | exact impl_Push.mono _ _ _ _ _ _ _ _ _ _ _ _ _ _ _
   | exact laws_eqSegS.mono _ _ _
   | exact laws_eqStream.mono _ _ _ _ _ _ _ _ _ _ _ _ _ _ _ _ _ _ _ _ _ _ _ _ _ _ _
   | exact laws_heldSegS.mono _ _ _
   | exact laws_heldStream.mono _ _ _ _ _ _ _ _ _ _ _ _ _ _ _
   | exact laws_markSegS.mono _ _ _
   | exact laws_markStream.mono _ _ _ _ _ _ _ _ _ _ _ _ _ _ _
   | exact laws_szStream.mono _ _ _ _ _ _ _ _ _ _ _ _ _ _ _
   | exact laws_toStream.mono _ _ _ _ _ _ _ _ _ _ _ _ _ _
   | exact spec_Push.mono _ _ _ _ _ _ _ _ _ _ _ _ _ _ _
theorem laws_FnExactPush.mono : ∀ a0 a1 a2 a3 a4 a5 a6 a7 a8 a9 a10 a11 a12 a13 k, LeO (laws_FnExactPush.f k a0 a1 a2 a3 a4 a5 a6 a7 a8 a9 a10 a11 a12 a13) (laws_FnExactPush.f (k + 1) a0 a1 a2 a3 a4 a5 a6 a7 a8 a9 a10 a11 a12 a13) := by
 intro a0 a1 a2 a3 a4 a5 a6 a7 a8 a9 a10 a11 a12 a13 k
 obtain ⟨ih0, ih1, ih2⟩ := laws_FnExactPush.mono_l k
 unfold laws_FnExactPush.f
 repeat' first
   | (with_reducible exact ih0 _ _ _ _ _ _ _ _ _ _ _ _ _ _ _ _ _ _ _ _ _ _ _ _ _ _ _ _ _ _ _ _ _ _ _ _ _ _ _ _ _ _ _ _ _ _ _ _ _ _ _ _ _ _ _ _)
   | (with_reducible exact ih1 _ _ _ _ _ _ _ _ _ _ _ _ _ _ _ _ _ _ _ _ _ _ _ _ _ _ _ _ _ _ _ _ _ _ _ _ _ _ _ _ _ _ _)
   | (with_reducible exact ih2 _ _ _ _ _ _ _ _ _ _ _ _ _ _ _ _)
   | (with_reducible exact impl_Push.mono _ _ _ _ _ _ _ _ _ _ _ _ _ _ _)
   | (with_reducible exact laws_eqSegS.mono _ _ _)
   | (with_reducible exact laws_eqStream.mono _ _ _ _ _ _ _ _ _ _ _ _ _ _ _ _ _ _ _ _ _ _ _ _ _ _ _)
   | (with_reducible exact laws_heldSegS.mono _ _ _)
   | (with_reducible exact laws_heldStream.mono _ _ _ _ _ _ _ _ _ _ _ _ _ _ _)
   | (with_reducible exact laws_markSegS.mono _ _ _)
   | (with_reducible exact laws_markStream.mono _ _ _ _ _ _ _ _ _ _ _ _ _ _ _)
   | (with_reducible exact laws_szStream.mono _ _ _ _ _ _ _ _ _ _ _ _ _ _ _)
   | (with_reducible exact laws_toStream.mono _ _ _ _ _ _ _ _ _ _ _ _ _ _)
   | (with_reducible exact spec_Push.mono _ _ _ _ _ _ _ _ _ _ _ _ _ _ _)
   | (with_reducible first | exact LeO.refl _ | exact LeO.none _ | refine LeO.ite ?_ ?_ | refine LeO.bind ?_ (fun _ => ?_))
   | exact ih0 _ _ _ _ _ _ _ _ _ _ _ _ _ _ _ _ _ _ _ _ _ _ _ _ _ _ _ _ _ _ _ _ _ _ _ _ _ _ _ _ _ _ _ _ _ _ _ _ _ _ _ _ _ _ _ _
   | exact ih1 _ _ _ _ _ _ _ _ _ _ _ _ _ _ _ _ _ _ _ _ _ _ _ _ _ _ _ _ _ _ _ _ _ _ _ _ _ _ _ _ _ _ _
   | exact ih2 _ _ _ _ _ _ _ _ _ _ _ _ _ _ _ _
   | exact impl_Push.mono _ _ _ _ _ _ _ _ _ _ _ _ _ _ _
   | exact laws_eqSegS.mono _ _ _
   | exact laws_eqStream.mono _ _ _ _ _ _ _ _ _ _ _ _ _ _ _ _ _ _ _ _ _ _ _ _ _ _ _
   | exact laws_heldSegS.mono _ _ _
   | exact laws_heldStream.mono _ _ _ _ _ _ _ _ _ _ _ _ _ _ _
   | exact laws_markSegS.mono _ _ _
   | exact laws_markStream.mono _ _ _ _ _ _ _ _ _ _ _ _ _ _ _
   | exact laws_szStream.mono _ _ _ _ _ _ _ _ _ _ _ _ _ _ _
   | exact laws_toStream.mono _ _ _ _ _ _ _ _ _ _ _ _ _ _
   | exact spec_Push.mono _ _ _ _ _ _ _ _ _ _ _ _ _ _ _
set_option maxHeartbeats 8000000 in
set_option maxRecDepth 100000 in
theorem laws_FnExactPush.calls (k : Nat) (a0_0 : Int) (a0_1 : Int) (a0_2 : Int) (a0_3 : Int) (a0_4 : ByteArray) (a0_5 : Int) (a0_6 : Int) (a0_7 : Bool) (a0_8 : ByteArray) (A0_9 : Option Addr) (c0_9 : Nat) (l0_9 : List (S152)) (a0_10 : Bool) (a0_11 : Int) (a0_12 : Int) (a1 : Int) (r : Bool) (w : World) (hr0_9 : Kd.C k152 w A0_9 l0_9.length l0_9) (hc0_9 : l0_9.length ≤ c0_9) (h : laws_FnExactPush.f k a0_0 a0_1 a0_2 a0_3 a0_4 a0_5 a0_6 a0_7 a0_8 l0_9 a0_10 a0_11 a0_12 a1 = some r) (hr_ : Aside0 (r = true)) :
  Calls Try.prog 4 #[.agg #[.int .i64 a0_0, .int .i64 a0_1, .int .i64 a0_2, .int .i64 a0_3, .string a0_4, .int .i64 a0_5, .int .i64 a0_6, .bool a0_7, .string a0_8, .slice A0_9 l0_9.length c0_9, .bool a0_10, .int .i64 a0_11, .int .i64 a0_12], .int .i64 a1] w fun e w' => e = .returned (.bool r) ∧ Below w.heap.size w w' := by
 have hu35 := Try.underlying35
 have hu39 := Try.underlying39
 have HR0_9 := Aside0.mk hr0_9
 have HC0_9 := Aside0.mk hc0_9
 clear hr0_9 hc0_9
 have HB := Aside0.mk (Below.refl w.heap.size w)
 have H : ((laws_szStream.f k a0_0 a0_1 a0_2 a0_3 a0_4 a0_5 a0_6 a0_7 a0_8 l0_9 a0_10 a0_11 a0_12 1048576).bind fun t415 => (if t415 < 0 then (some true) else ((laws_toStream.f k a0_0 a0_1 a0_2 a0_3 a0_4 a0_5 a0_6 a0_7 a0_8 l0_9 a0_10 a0_11 a0_12).bind fun bt416 => ((spec_Push.f k bt416.1 bt416.2.1 bt416.2.2.1 bt416.2.2.2.1 bt416.2.2.2.2.1 bt416.2.2.2.2.2.1 bt416.2.2.2.2.2.2.1 bt416.2.2.2.2.2.2.2.1 bt416.2.2.2.2.2.2.2.2.1 bt416.2.2.2.2.2.2.2.2.2.1 bt416.2.2.2.2.2.2.2.2.2.2.1 bt416.2.2.2.2.2.2.2.2.2.2.2.1 bt416.2.2.2.2.2.2.2.2.2.2.2.2 a1).bind fun bt431 => ((laws_toStream.f k a0_0 a0_1 a0_2 a0_3 a0_4 a0_5 a0_6 a0_7 a0_8 l0_9 a0_10 a0_11 a0_12).bind fun bt450 => ((impl_Push.f k bt450.1 bt450.2.1 bt450.2.2.1 bt450.2.2.2.1 bt450.2.2.2.2.1 bt450.2.2.2.2.2.1 bt450.2.2.2.2.2.2.1 bt450.2.2.2.2.2.2.2.1 bt450.2.2.2.2.2.2.2.2.1 bt450.2.2.2.2.2.2.2.2.2.1 bt450.2.2.2.2.2.2.2.2.2.2.1 bt450.2.2.2.2.2.2.2.2.2.2.2.1 bt450.2.2.2.2.2.2.2.2.2.2.2.2 a1).bind fun bt466 => ((laws_eqStream.f k bt466.1 bt466.2.1 bt466.2.2.1 bt466.2.2.2.1 bt466.2.2.2.2.1 bt466.2.2.2.2.2.1 bt466.2.2.2.2.2.2.1 bt466.2.2.2.2.2.2.2.1 bt466.2.2.2.2.2.2.2.2.1 bt466.2.2.2.2.2.2.2.2.2.1 bt466.2.2.2.2.2.2.2.2.2.2.1 bt466.2.2.2.2.2.2.2.2.2.2.2.1 bt466.2.2.2.2.2.2.2.2.2.2.2.2.1 bt431.1 bt431.2.1 bt431.2.2.1 bt431.2.2.2.1 bt431.2.2.2.2.1 bt431.2.2.2.2.2.1 bt431.2.2.2.2.2.2.1 bt431.2.2.2.2.2.2.2.1 bt431.2.2.2.2.2.2.2.2.1 bt431.2.2.2.2.2.2.2.2.2.1 bt431.2.2.2.2.2.2.2.2.2.2.1 bt431.2.2.2.2.2.2.2.2.2.2.2.1 bt431.2.2.2.2.2.2.2.2.2.2.2.2.1).bind fun t485 => (if t485 = true then ((laws_eqSegS.f k bt466.2.2.2.2.2.2.2.2.2.2.2.2.2 bt431.2.2.2.2.2.2.2.2.2.2.2.2.2).bind fun t486 => (laws_FnExactPush.j0 k a1 bt431.2.2.2.2.2.2.2.2.2.2.2.2.2 bt466.2.2.2.2.2.2.2.2.2.2.2.2.2 (!t486) a0_0 a0_1 a0_2 a0_3 a0_4 a0_5 a0_6 a0_7 a0_8 l0_9 a0_10 a0_11 a0_12 bt431.1 bt431.2.1 bt431.2.2.1 bt431.2.2.2.1 bt431.2.2.2.2.1 bt431.2.2.2.2.2.1 bt431.2.2.2.2.2.2.1 bt431.2.2.2.2.2.2.2.1 bt431.2.2.2.2.2.2.2.2.1 bt431.2.2.2.2.2.2.2.2.2.1 bt431.2.2.2.2.2.2.2.2.2.2.1 bt431.2.2.2.2.2.2.2.2.2.2.2.1 bt431.2.2.2.2.2.2.2.2.2.2.2.2.1 bt450.1 bt450.2.1 bt450.2.2.1 bt450.2.2.2.1 bt450.2.2.2.2.1 bt450.2.2.2.2.2.1 bt450.2.2.2.2.2.2.1 bt450.2.2.2.2.2.2.2.1 bt450.2.2.2.2.2.2.2.2.1 bt450.2.2.2.2.2.2.2.2.2.1 bt450.2.2.2.2.2.2.2.2.2.2.1 bt450.2.2.2.2.2.2.2.2.2.2.2.1 bt450.2.2.2.2.2.2.2.2.2.2.2.2 bt466.1 bt466.2.1 bt466.2.2.1 bt466.2.2.2.1 bt466.2.2.2.2.1 bt466.2.2.2.2.2.1 bt466.2.2.2.2.2.2.1 bt466.2.2.2.2.2.2.2.1 bt466.2.2.2.2.2.2.2.2.1 bt466.2.2.2.2.2.2.2.2.2.1 bt466.2.2.2.2.2.2.2.2.2.2.1 bt466.2.2.2.2.2.2.2.2.2.2.2.1 bt466.2.2.2.2.2.2.2.2.2.2.2.2.1)) else (laws_FnExactPush.j0 k a1 bt431.2.2.2.2.2.2.2.2.2.2.2.2.2 bt466.2.2.2.2.2.2.2.2.2.2.2.2.2 true a0_0 a0_1 a0_2 a0_3 a0_4 a0_5 a0_6 a0_7 a0_8 l0_9 a0_10 a0_11 a0_12 bt431.1 bt431.2.1 bt431.2.2.1 bt431.2.2.2.1 bt431.2.2.2.2.1 bt431.2.2.2.2.2.1 bt431.2.2.2.2.2.2.1 bt431.2.2.2.2.2.2.2.1 bt431.2.2.2.2.2.2.2.2.1 bt431.2.2.2.2.2.2.2.2.2.1 bt431.2.2.2.2.2.2.2.2.2.2.1 bt431.2.2.2.2.2.2.2.2.2.2.2.1 bt431.2.2.2.2.2.2.2.2.2.2.2.2.1 bt450.1 bt450.2.1 bt450.2.2.1 bt450.2.2.2.1 bt450.2.2.2.2.1 bt450.2.2.2.2.2.1 bt450.2.2.2.2.2.2.1 bt450.2.2.2.2.2.2.2.1 bt450.2.2.2.2.2.2.2.2.1 bt450.2.2.2.2.2.2.2.2.2.1 bt450.2.2.2.2.2.2.2.2.2.2.1 bt450.2.2.2.2.2.2.2.2.2.2.2.1 bt450.2.2.2.2.2.2.2.2.2.2.2.2 bt466.1 bt466.2.1 bt466.2.2.1 bt466.2.2.2.1 bt466.2.2.2.2.1 bt466.2.2.2.2.2.1 bt466.2.2.2.2.2.2.1 bt466.2.2.2.2.2.2.2.1 bt466.2.2.2.2.2.2.2.2.1 bt466.2.2.2.2.2.2.2.2.2.1 bt466.2.2.2.2.2.2.2.2.2.2.1 bt466.2.2.2.2.2.2.2.2.2.2.2.1 bt466.2.2.2.2.2.2.2.2.2.2.2.2.1))))))))) = some r := h
 clear h
 replace H := bsi H
 obtain ⟨t415, A3, H⟩ := H
 (try dsimp only at H)
 by_cases c4 : t415 < 0
 ·rw [if_pos c4] at H
  have c4b0 : decide (t415 < 0) = true := decide_eq_true c4
  clear c4
  obtain rfl := Option.some.inj H
  go_enter Try.func4, Try.ntmps4
  go_wp2_with (first | ((with_reducible refine gate_dst (N := 2) rfl ?_); refine box_event ?hg (N := 2) ?hd (cs := #[.int .i64 a0_0, .int .i64 a0_1, .int .i64 a0_2, .int .i64 a0_3, .string a0_4, .int .i64 a0_5, .int .i64 a0_6, .bool a0_7, .string a0_8, .slice A0_9 l0_9.length c0_9, .bool a0_10, .int .i64 a0_11, .int .i64 a0_12]) (t := 35) ?hr ?_; (case hd => rfl); (case hg => rfl); (case hr => exact B14x24_); intro gb414 hg w5 hbox hb; have BK414 := Aside0.mk (hbox); have GW414 := Aside0.mk ((bs hg (below_size HB.out))); have GE414 := Aside0.mk ((bs hg (below_size HB.out))); replace HB := Aside0.mk (below_step B14x51_ hb); clear hb hbox hg; obtain ⟨hcz6_0, hcz6_1, hcz6_2, hcz6_3, hcz6_4, hcz6_5, hcz6_6, hcz6_7, hcz6_8, hcz6_9, hcz6_10, hcz6_11, hcz6_12⟩ := cl13 BK414.out; obtain ⟨hfz6_0, hfz6_1, hfz6_2, hfz6_3, hfz6_4, hfz6_5, hfz6_6, hfz6_7, hfz6_8, hfz6_9, hfz6_10, hfz6_11, hfz6_12⟩ := fr13 BK414.out) | ((with_reducible refine gate_callee (f := 18) rfl ?_); refine goesL_ (some 18) rfl rfl Try.func18 B14x33_ rfl #[.agg #[.int .i64 a0_0, .int .i64 a0_1, .int .i64 a0_2, .int .i64 a0_3, .string a0_4, .int .i64 a0_5, .int .i64 a0_6, .bool a0_7, .string a0_8, .slice A0_9 l0_9.length c0_9, .bool a0_10, .int .i64 a0_11, .int .i64 a0_12], .int .i64 1048576] rfl B14x1_ ?_; (with_reducible refine (laws_szStream.calls k a0_0 a0_1 a0_2 a0_3 a0_4 a0_5 a0_6 a0_7 a0_8 _ _ l0_9 a0_10 a0_11 a0_12 1048576 t415 _ ?side1 ?side2 A3.out).mono ?_); (case side1 => exact B14x13_); (case side2 => exact HC0_9.out); rintro e w7 ⟨rfl, hb⟩; refine ⟨_, rfl, ?_⟩; replace BK414 := Aside0.mk (bb BK414.out hb); replace HB := Aside0.mk (below_step B14x8_ hb); (try clear hb)))
  go_ret
  exact ⟨B14x54_, B14x8_⟩
 ·rw [if_neg c4] at H
  have c4b0 : decide (t415 < 0) = false := decide_eq_false c4
  clear c4
  replace H := bsi H
  obtain ⟨⟨t416, t417, t418, t419, t420, t421, t422, t423, t424, t425, t428, t429, t430⟩, A8, H⟩ := H
  (try dsimp only at H)
  replace H := bsi H
  obtain ⟨⟨t431, t432, t433, t434, t435, t436, t437, t438, t439, t440, t443, t444, t445, t446⟩, A9, H⟩ := H
  (try dsimp only at H)
  replace H := bsi H
  obtain ⟨⟨t450, t451, t452, t453, t454, t455, t456, t457, t458, t459, t462, t463, t464⟩, A10, H⟩ := H
  (try dsimp only at H)
  replace H := bsi H
  obtain ⟨⟨t466, t467, t468, t469, t470, t471, t472, t473, t474, t475, t478, t479, t480, t481⟩, A11, H⟩ := H
  (try dsimp only at H)
  have HC12 := Aside0.mk H
  clear H
  go_enter Try.func4, Try.ntmps4
  go_upto_region 8 with (first | ((with_reducible refine gate_dst (N := 2) rfl ?_); refine box_event ?hg (N := 2) ?hd (cs := #[.int .i64 a0_0, .int .i64 a0_1, .int .i64 a0_2, .int .i64 a0_3, .string a0_4, .int .i64 a0_5, .int .i64 a0_6, .bool a0_7, .string a0_8, .slice A0_9 l0_9.length c0_9, .bool a0_10, .int .i64 a0_11, .int .i64 a0_12]) (t := 35) ?hr ?_; (case hd => rfl); (case hg => rfl); (case hr => exact B14x24_); intro gb414 hg w13 hbox hb; have BK414 := Aside0.mk (hbox); have GW414 := Aside0.mk ((bs hg (below_size HB.out))); have GE414 := Aside0.mk ((bs hg (below_size HB.out))); replace HB := Aside0.mk (below_step B14x51_ hb); clear hb hbox hg; obtain ⟨hcz14_0, hcz14_1, hcz14_2, hcz14_3, hcz14_4, hcz14_5, hcz14_6, hcz14_7, hcz14_8, hcz14_9, hcz14_10, hcz14_11, hcz14_12⟩ := cl13 BK414.out; obtain ⟨hfz14_0, hfz14_1, hfz14_2, hfz14_3, hfz14_4, hfz14_5, hfz14_6, hfz14_7, hfz14_8, hfz14_9, hfz14_10, hfz14_11, hfz14_12⟩ := fr13 BK414.out) | ((with_reducible refine gate_callee (f := 18) rfl ?_); refine goesL_ (some 18) rfl rfl Try.func18 B14x33_ rfl #[.agg #[.int .i64 a0_0, .int .i64 a0_1, .int .i64 a0_2, .int .i64 a0_3, .string a0_4, .int .i64 a0_5, .int .i64 a0_6, .bool a0_7, .string a0_8, .slice A0_9 l0_9.length c0_9, .bool a0_10, .int .i64 a0_11, .int .i64 a0_12], .int .i64 1048576] rfl B14x1_ ?_; (with_reducible refine (laws_szStream.calls k a0_0 a0_1 a0_2 a0_3 a0_4 a0_5 a0_6 a0_7 a0_8 _ _ l0_9 a0_10 a0_11 a0_12 1048576 t415 _ ?side1 ?side2 A3.out).mono ?_); (case side1 => exact B14x13_); (case side2 => exact HC0_9.out); rintro e w15 ⟨rfl, hb⟩; refine ⟨_, rfl, ?_⟩; replace BK414 := Aside0.mk (bb BK414.out hb); replace HB := Aside0.mk (below_step B14x8_ hb); (try clear hb); obtain ⟨hcz16_0, hcz16_1, hcz16_2, hcz16_3, hcz16_4, hcz16_5, hcz16_6, hcz16_7, hcz16_8, hcz16_9, hcz16_10, hcz16_11, hcz16_12⟩ := cl13 BK414.out; obtain ⟨hfz16_0, hfz16_1, hfz16_2, hfz16_3, hfz16_4, hfz16_5, hfz16_6, hfz16_7, hfz16_8, hfz16_9, hfz16_10, hfz16_11, hfz16_12⟩ := fr13 BK414.out) | ((with_reducible refine gate_callee (f := 20) rfl ?_); refine goesL_ (some 23) rfl rfl Try.func20 B14x33_ rfl #[.agg #[.int .i64 a0_0, .int .i64 a0_1, .int .i64 a0_2, .int .i64 a0_3, .string a0_4, .int .i64 a0_5, .int .i64 a0_6, .bool a0_7, .string a0_8, .slice A0_9 l0_9.length c0_9, .bool a0_10, .int .i64 a0_11, .int .i64 a0_12]] rfl B14x1_ ?_; (with_reducible refine (laws_toStream.calls k a0_0 a0_1 a0_2 a0_3 a0_4 a0_5 a0_6 a0_7 a0_8 _ _ l0_9 a0_10 a0_11 a0_12 t416 t417 t418 t419 t420 t421 t422 t423 t424 t425 t428 t429 t430 _ ?side1 ?side2 A8.out).mono ?_); (case side1 => exact B14x13_); (case side2 => exact HC0_9.out); rintro e w17 ⟨v426, rfl, ho0, hb⟩; refine ⟨_, rfl, ?_⟩; have HO427 := Aside0.mk (Kd.R_lower ho0 (below_size B14x8_)); replace BK414 := Aside0.mk (bb BK414.out hb); replace HB := Aside0.mk (below_step B14x8_ hb); (try clear hb); (try clear ho0); obtain ⟨Ao18, co18, eo18⟩ := Kd.R_slice HO427.out; subst eo18) | ((with_reducible refine gate_callee (f := 19) rfl ?_); refine goesL_ (some 25) rfl rfl Try.func19 B14x33_ rfl #[.agg #[.int .i64 t416, .int .i64 t417, .int .i64 t418, .int .i64 t419, .string t420, .int .i64 t421, .int .i64 t422, .bool t423, .string t424, .slice Ao18 t425.length co18, .bool t428, .int .i64 t429, .int .i64 t430], .int .i64 a1] rfl B14x1_ ?_; (with_reducible refine (spec_Push.calls k t416 t417 t418 t419 t420 t421 t422 t423 t424 _ _ t425 t428 t429 t430 a1 t431 t432 t433 t434 t435 t436 t437 t438 t439 t440 t443 t444 t445 t446 _ ?side1 ?side2 A9.out).mono ?_); (case side1 => repeat (first | exact (Kd.R_reads' HO427.out).2.2 | (with_reducible refine Kd.C_alloc ?_ _) | (with_reducible refine Kd.C_drewN ?_ _) | (with_reducible refine Kd.C_drew ?_))); (case side2 => exact (Kd.R_reads' HO427.out).2.1); rintro e w19 ⟨v441, v447, rfl, ho0, ho1, hb⟩; refine ⟨_, rfl, ?_⟩; have HO442 := Aside0.mk (Kd.R_lower (Kd.R_new' ho0 (Kd.R_lt B14x9_)) (below_size B14x8_)); replace HO427 := Aside0.mk (Kd.R_elder' B14x9_ (Kd.R_base ho0) hb); have HO448 := Aside0.mk (Kd.R_lower ho1 (below_size B14x8_)); replace BK414 := Aside0.mk (bb BK414.out hb); replace HB := Aside0.mk (below_step B14x8_ hb); (try clear hb); (try clear ho0); (try clear ho1)) | ((with_reducible refine gate_dst (N := 6) rfl ?_); refine box_event ?hg (N := 6) ?hd (cs := #[.int .i64 0, .int .i64 0, .int .i64 0, .int .i64 0, .string (⟨#[]⟩ : ByteArray), .int .i64 0, .int .i64 0, .bool false, .string (⟨#[]⟩ : ByteArray), .slice none 0 0, .bool false, .int .i64 0, .int .i64 0]) (t := 39) ?hr ?_; (case hd => rfl); (case hg => rfl); (case hr => exact B14x24_); intro gb449 hg w20 hbox hb; replace HO427 := Aside0.mk (Kd.R_below B14x9_ hb); replace HO442 := Aside0.mk (Kd.R_below B14x11_ hb); replace HO448 := Aside0.mk (Kd.R_below B14x10_ hb); have BK449 := Aside0.mk (hbox); have GW449 := Aside0.mk ((bs hg (below_size HB.out))); have GE449 := Aside0.mk ((bs hg (below_size HB.out))); replace HB := Aside0.mk (below_step B14x8_ hb); have NB414_449 := Aside0.mk ((nl hg (blk_lt BK414.out))); have NB449_414 := Aside0.mk ((ng hg (blk_lt BK414.out))); replace BK414 := Aside0.mk (bb BK414.out hb); clear hb hbox hg; have hnb21 := NB449_414.out; have hnc21 := NB414_449.out; obtain ⟨hcz22_0, hcz22_1, hcz22_2, hcz22_3, hcz22_4, hcz22_5, hcz22_6, hcz22_7, hcz22_8, hcz22_9, hcz22_10, hcz22_11, hcz22_12⟩ := cl13 BK449.out; obtain ⟨hfz22_0, hfz22_1, hfz22_2, hfz22_3, hfz22_4, hfz22_5, hfz22_6, hfz22_7, hfz22_8, hfz22_9, hfz22_10, hfz22_11, hfz22_12⟩ := fr13 BK449.out; obtain ⟨Ao23, co23, eo23⟩ := Kd.R_slice HO442.out; subst eo23) | ((with_reducible refine gate_store (t := 39) (p := 6) rfl ?_); refine store_event (t := 39) (p := 6) (v := ?vo_w24) (w1 := (((((((((((((w20.setCell ⟨gb449, 0, none⟩ (.int .i64 t431)).setCell ⟨gb449, 1, none⟩ (.int .i64 t432)).setCell ⟨gb449, 2, none⟩ (.int .i64 t433)).setCell ⟨gb449, 3, none⟩ (.int .i64 t434)).setCell ⟨gb449, 4, none⟩ (.string t435)).setCell ⟨gb449, 5, none⟩ (.int .i64 t436)).setCell ⟨gb449, 6, none⟩ (.int .i64 t437)).setCell ⟨gb449, 7, none⟩ (.bool t438)).setCell ⟨gb449, 8, none⟩ (.string t439)).setCell ⟨gb449, 9, none⟩ (.slice Ao23 t440.length co23)).setCell ⟨gb449, 10, none⟩ (.bool t443)).setCell ⟨gb449, 11, none⟩ (.int .i64 t444)).setCell ⟨gb449, 12, none⟩ (.int .i64 t445))) ?hg ?ho ?hn ?hr ?_; (case ho => rfl); (case hg => rfl); (case hn => rfl); (case hr => exact B14x24_); intro w24 hw; replace HO427 : Aside0 (Kd.R k143 143 w24 w.heap.size (fun k_ => some k_ ≠ (.slice Ao23 t440.length co23 : Value).ownBlock) (.slice Ao18 t425.length co18) t425) := ⟨(by rw [hw]; exact (by (with_reducible repeat (first | apply Kd.R_alloc | apply Kd.R_drewN | apply Kd.R_drew)); exact Kd.R_mono (Kd.R_far (p := ⟨gb449, 12, none⟩) (Kd.R_far (p := ⟨gb449, 11, none⟩) (Kd.R_far (p := ⟨gb449, 10, none⟩) (Kd.R_far (p := ⟨gb449, 9, none⟩) (Kd.R_far (p := ⟨gb449, 8, none⟩) (Kd.R_far (p := ⟨gb449, 7, none⟩) (Kd.R_far (p := ⟨gb449, 6, none⟩) (Kd.R_far (p := ⟨gb449, 5, none⟩) (Kd.R_far (p := ⟨gb449, 4, none⟩) (Kd.R_far (p := ⟨gb449, 3, none⟩) (Kd.R_far (p := ⟨gb449, 2, none⟩) (Kd.R_far (p := ⟨gb449, 1, none⟩) (Kd.R_far (p := ⟨gb449, 0, none⟩) (Kd.R_types HO427.out BK449.out (by decide)) (fun _ hk => hk.2) (.int .i64 t431)) (fun _ hk => hk.2) (.int .i64 t432)) (fun _ hk => hk.2) (.int .i64 t433)) (fun _ hk => hk.2) (.int .i64 t434)) (fun _ hk => hk.2) (.string t435)) (fun _ hk => hk.2) (.int .i64 t436)) (fun _ hk => hk.2) (.int .i64 t437)) (fun _ hk => hk.2) (.bool t438)) (fun _ hk => hk.2) (.string t439)) (fun _ hk => hk.2) (.slice Ao23 t440.length co23)) (fun _ hk => hk.2) (.bool t443)) (fun _ hk => hk.2) (.int .i64 t444)) (fun _ hk => hk.2) (.int .i64 t445)) (fun _ hk => hk.1.2)))⟩; replace HO442 : Aside0 (Kd.R k143 143 w24 w.heap.size (fun k_ => some k_ ≠ (.slice Ao18 t425.length co18 : Value).ownBlock) (.slice Ao23 t440.length co23) t440) := ⟨(by rw [hw]; exact (by (with_reducible repeat (first | apply Kd.R_alloc | apply Kd.R_drewN | apply Kd.R_drew)); exact Kd.R_mono (Kd.R_far (p := ⟨gb449, 12, none⟩) (Kd.R_far (p := ⟨gb449, 11, none⟩) (Kd.R_far (p := ⟨gb449, 10, none⟩) (Kd.R_far (p := ⟨gb449, 9, none⟩) (Kd.R_far (p := ⟨gb449, 8, none⟩) (Kd.R_far (p := ⟨gb449, 7, none⟩) (Kd.R_far (p := ⟨gb449, 6, none⟩) (Kd.R_far (p := ⟨gb449, 5, none⟩) (Kd.R_far (p := ⟨gb449, 4, none⟩) (Kd.R_far (p := ⟨gb449, 3, none⟩) (Kd.R_far (p := ⟨gb449, 2, none⟩) (Kd.R_far (p := ⟨gb449, 1, none⟩) (Kd.R_far (p := ⟨gb449, 0, none⟩) (Kd.R_types HO442.out BK449.out (by decide)) (fun _ hk => hk.2) (.int .i64 t431)) (fun _ hk => hk.2) (.int .i64 t432)) (fun _ hk => hk.2) (.int .i64 t433)) (fun _ hk => hk.2) (.int .i64 t434)) (fun _ hk => hk.2) (.string t435)) (fun _ hk => hk.2) (.int .i64 t436)) (fun _ hk => hk.2) (.int .i64 t437)) (fun _ hk => hk.2) (.bool t438)) (fun _ hk => hk.2) (.string t439)) (fun _ hk => hk.2) (.slice Ao23 t440.length co23)) (fun _ hk => hk.2) (.bool t443)) (fun _ hk => hk.2) (.int .i64 t444)) (fun _ hk => hk.2) (.int .i64 t445)) (fun _ hk => hk.1.2)))⟩; replace HO448 : Aside0 (Kd.R k28 28 w24 w.heap.size (fun _ => True) v447 t446) := ⟨(by rw [hw]; exact (by (with_reducible repeat (first | apply Kd.R_alloc | apply Kd.R_drewN | apply Kd.R_drew)); exact Kd.R_mono (Kd.R_far (p := ⟨gb449, 12, none⟩) (Kd.R_far (p := ⟨gb449, 11, none⟩) (Kd.R_far (p := ⟨gb449, 10, none⟩) (Kd.R_far (p := ⟨gb449, 9, none⟩) (Kd.R_far (p := ⟨gb449, 8, none⟩) (Kd.R_far (p := ⟨gb449, 7, none⟩) (Kd.R_far (p := ⟨gb449, 6, none⟩) (Kd.R_far (p := ⟨gb449, 5, none⟩) (Kd.R_far (p := ⟨gb449, 4, none⟩) (Kd.R_far (p := ⟨gb449, 3, none⟩) (Kd.R_far (p := ⟨gb449, 2, none⟩) (Kd.R_far (p := ⟨gb449, 1, none⟩) (Kd.R_far (p := ⟨gb449, 0, none⟩) (Kd.R_types HO448.out BK449.out (by decide)) (fun _ hk => hk.2) (.int .i64 t431)) (fun _ hk => hk.2) (.int .i64 t432)) (fun _ hk => hk.2) (.int .i64 t433)) (fun _ hk => hk.2) (.int .i64 t434)) (fun _ hk => hk.2) (.string t435)) (fun _ hk => hk.2) (.int .i64 t436)) (fun _ hk => hk.2) (.int .i64 t437)) (fun _ hk => hk.2) (.bool t438)) (fun _ hk => hk.2) (.string t439)) (fun _ hk => hk.2) (.slice Ao23 t440.length co23)) (fun _ hk => hk.2) (.bool t443)) (fun _ hk => hk.2) (.int .i64 t444)) (fun _ hk => hk.2) (.int .i64 t445)) (fun _ hk => trivial)))⟩; replace BK414 : Aside0 (w24.heap[gb414]? = some (.cells #[.int .i64 a0_0, .int .i64 a0_1, .int .i64 a0_2, .int .i64 a0_3, .string a0_4, .int .i64 a0_5, .int .i64 a0_6, .bool a0_7, .string a0_8, .slice A0_9 l0_9.length c0_9, .bool a0_10, .int .i64 a0_11, .int .i64 a0_12] 35 (0, 0))) := ⟨(by rw [hw]; exact (by (repeat (with_reducible (first | exact BK414.out | apply blk_drewN | apply blk_drew | apply blk_alloc | apply blk_put | apply bf NB414_449.out))); repeat (first | exact BK414.out | (simp only [List.setIfInBounds_toArray, List.set_cons_zero, List.set_cons_succ]; with_reducible rfl) | rfl)))⟩; replace BK449 : Aside0 (w24.heap[gb449]? = some (.cells #[.int .i64 t431, .int .i64 t432, .int .i64 t433, .int .i64 t434, .string t435, .int .i64 t436, .int .i64 t437, .bool t438, .string t439, .slice Ao23 t440.length co23, .bool t443, .int .i64 t444, .int .i64 t445] 39 (0, 0))) := ⟨(by rw [hw]; exact (by (repeat (with_reducible (first | exact BK449.out | apply blk_drewN | apply blk_drew | apply blk_alloc | apply blk_put))); repeat (first | exact BK449.out | (simp only [List.setIfInBounds_toArray, List.set_cons_zero, List.set_cons_succ]; with_reducible rfl) | rfl)))⟩; replace HB : Aside0 (Below w.heap.size w w24) := ⟨(by rw [hw]; exact B14x19_)⟩; clear hw; obtain ⟨hcz25_0, hcz25_1, hcz25_2, hcz25_3, hcz25_4, hcz25_5, hcz25_6, hcz25_7, hcz25_8, hcz25_9, hcz25_10, hcz25_11, hcz25_12⟩ := cl13 BK414.out; obtain ⟨hfz25_0, hfz25_1, hfz25_2, hfz25_3, hfz25_4, hfz25_5, hfz25_6, hfz25_7, hfz25_8, hfz25_9, hfz25_10, hfz25_11, hfz25_12⟩ := fr13 BK414.out) | ((with_reducible refine gate_callee (f := 20) rfl ?_); refine goesL_ (some 29) rfl rfl Try.func20 B14x33_ rfl #[.agg #[.int .i64 a0_0, .int .i64 a0_1, .int .i64 a0_2, .int .i64 a0_3, .string a0_4, .int .i64 a0_5, .int .i64 a0_6, .bool a0_7, .string a0_8, .slice A0_9 l0_9.length c0_9, .bool a0_10, .int .i64 a0_11, .int .i64 a0_12]] rfl B14x1_ ?_; (with_reducible refine (laws_toStream.calls k a0_0 a0_1 a0_2 a0_3 a0_4 a0_5 a0_6 a0_7 a0_8 _ _ l0_9 a0_10 a0_11 a0_12 t450 t451 t452 t453 t454 t455 t456 t457 t458 t459 t462 t463 t464 _ ?side1 ?side2 A10.out).mono ?_); (case side1 => exact B14x13_); (case side2 => exact HC0_9.out); rintro e w26 ⟨v460, rfl, ho0, hb⟩; refine ⟨_, rfl, ?_⟩; replace HO448 := Aside0.mk (Kd.R_below B14x10_ hb); have HO461 := Aside0.mk (Kd.R_lower (Kd.R_new' (Kd.R_new' ho0 (Kd.R_lt B14x9_)) (Kd.R_lt B14x11_)) (below_size B14x19_)); replace HO427 := Aside0.mk (Kd.R_elder' B14x9_ (Kd.R_base ho0) hb); replace HO442 := Aside0.mk (Kd.R_elder' B14x11_ (Kd.R_base ho0) hb); replace BK414 := Aside0.mk (bb BK414.out hb); replace BK449 := Aside0.mk (bb BK449.out hb); replace HB := Aside0.mk (below_step B14x19_ hb); (try clear hb); (try clear ho0)) | ((with_reducible refine gate_dst (N := 8) rfl ?_); refine box_event ?hg (N := 8) ?hd (cs := #[.int .i64 0, .int .i64 0, .int .i64 0, .int .i64 0, .string (⟨#[]⟩ : ByteArray), .int .i64 0, .int .i64 0, .bool false, .string (⟨#[]⟩ : ByteArray), .slice none 0 0, .bool false, .int .i64 0, .int .i64 0]) (t := 39) ?hr ?_; (case hd => rfl); (case hg => rfl); (case hr => exact B14x24_); intro gb465 hg w27 hbox hb; replace HO427 := Aside0.mk (Kd.R_below B14x9_ hb); replace HO442 := Aside0.mk (Kd.R_below B14x11_ hb); replace HO448 := Aside0.mk (Kd.R_below B14x10_ hb); replace HO461 := Aside0.mk (Kd.R_below B14x18_ hb); have BK465 := Aside0.mk (hbox); have GW465 := Aside0.mk ((bs hg (below_size HB.out))); have GE465 := Aside0.mk ((bs hg (below_size HB.out))); replace HB := Aside0.mk (below_step B14x19_ hb); have NB414_465 := Aside0.mk ((nl hg (blk_lt BK414.out))); have NB465_414 := Aside0.mk ((ng hg (blk_lt BK414.out))); replace BK414 := Aside0.mk (bb BK414.out hb); have NB449_465 := Aside0.mk ((nl hg (blk_lt BK449.out))); have NB465_449 := Aside0.mk ((ng hg (blk_lt BK449.out))); replace BK449 := Aside0.mk (bb BK449.out hb); clear hb hbox hg; have hnb28 := NB465_414.out; have hnc28 := NB414_465.out; have hnb29 := NB465_449.out; have hnc29 := NB449_465.out; obtain ⟨hcz30_0, hcz30_1, hcz30_2, hcz30_3, hcz30_4, hcz30_5, hcz30_6, hcz30_7, hcz30_8, hcz30_9, hcz30_10, hcz30_11, hcz30_12⟩ := cl13 BK465.out; obtain ⟨hfz30_0, hfz30_1, hfz30_2, hfz30_3, hfz30_4, hfz30_5, hfz30_6, hfz30_7, hfz30_8, hfz30_9, hfz30_10, hfz30_11, hfz30_12⟩ := fr13 BK465.out; obtain ⟨Ao31, co31, eo31⟩ := Kd.R_slice HO461.out; subst eo31) | ((with_reducible refine gate_store (t := 39) (p := 8) rfl ?_); refine store_event (t := 39) (p := 8) (v := ?vo_w32) (w1 := (((((((((((((w27.setCell ⟨gb465, 0, none⟩ (.int .i64 t450)).setCell ⟨gb465, 1, none⟩ (.int .i64 t451)).setCell ⟨gb465, 2, none⟩ (.int .i64 t452)).setCell ⟨gb465, 3, none⟩ (.int .i64 t453)).setCell ⟨gb465, 4, none⟩ (.string t454)).setCell ⟨gb465, 5, none⟩ (.int .i64 t455)).setCell ⟨gb465, 6, none⟩ (.int .i64 t456)).setCell ⟨gb465, 7, none⟩ (.bool t457)).setCell ⟨gb465, 8, none⟩ (.string t458)).setCell ⟨gb465, 9, none⟩ (.slice Ao31 t459.length co31)).setCell ⟨gb465, 10, none⟩ (.bool t462)).setCell ⟨gb465, 11, none⟩ (.int .i64 t463)).setCell ⟨gb465, 12, none⟩ (.int .i64 t464))) ?hg ?ho ?hn ?hr ?_; (case ho => rfl); (case hg => rfl); (case hn => rfl); (case hr => exact B14x24_); intro w32 hw; replace HO427 : Aside0 (Kd.R k143 143 w32 w.heap.size (fun k_ => some k_ ≠ (.slice Ao23 t440.length co23 : Value).ownBlock ∧ some k_ ≠ (.slice Ao31 t459.length co31 : Value).ownBlock) (.slice Ao18 t425.length co18) t425) := ⟨(by rw [hw]; exact (by (with_reducible repeat (first | apply Kd.R_alloc | apply Kd.R_drewN | apply Kd.R_drew)); exact Kd.R_mono (Kd.R_far (p := ⟨gb465, 12, none⟩) (Kd.R_far (p := ⟨gb465, 11, none⟩) (Kd.R_far (p := ⟨gb465, 10, none⟩) (Kd.R_far (p := ⟨gb465, 9, none⟩) (Kd.R_far (p := ⟨gb465, 8, none⟩) (Kd.R_far (p := ⟨gb465, 7, none⟩) (Kd.R_far (p := ⟨gb465, 6, none⟩) (Kd.R_far (p := ⟨gb465, 5, none⟩) (Kd.R_far (p := ⟨gb465, 4, none⟩) (Kd.R_far (p := ⟨gb465, 3, none⟩) (Kd.R_far (p := ⟨gb465, 2, none⟩) (Kd.R_far (p := ⟨gb465, 1, none⟩) (Kd.R_far (p := ⟨gb465, 0, none⟩) (Kd.R_types HO427.out BK465.out (by decide)) (fun _ hk => hk.2) (.int .i64 t450)) (fun _ hk => hk.2) (.int .i64 t451)) (fun _ hk => hk.2) (.int .i64 t452)) (fun _ hk => hk.2) (.int .i64 t453)) (fun _ hk => hk.2) (.string t454)) (fun _ hk => hk.2) (.int .i64 t455)) (fun _ hk => hk.2) (.int .i64 t456)) (fun _ hk => hk.2) (.bool t457)) (fun _ hk => hk.2) (.string t458)) (fun _ hk => hk.2) (.slice Ao31 t459.length co31)) (fun _ hk => hk.2) (.bool t462)) (fun _ hk => hk.2) (.int .i64 t463)) (fun _ hk => hk.2) (.int .i64 t464)) (fun _ hk => ⟨hk.1.1, hk.1.2⟩)))⟩; replace HO442 : Aside0 (Kd.R k143 143 w32 w.heap.size (fun k_ => some k_ ≠ (.slice Ao18 t425.length co18 : Value).ownBlock ∧ some k_ ≠ (.slice Ao31 t459.length co31 : Value).ownBlock) (.slice Ao23 t440.length co23) t440) := ⟨(by rw [hw]; exact (by (with_reducible repeat (first | apply Kd.R_alloc | apply Kd.R_drewN | apply Kd.R_drew)); exact Kd.R_mono (Kd.R_far (p := ⟨gb465, 12, none⟩) (Kd.R_far (p := ⟨gb465, 11, none⟩) (Kd.R_far (p := ⟨gb465, 10, none⟩) (Kd.R_far (p := ⟨gb465, 9, none⟩) (Kd.R_far (p := ⟨gb465, 8, none⟩) (Kd.R_far (p := ⟨gb465, 7, none⟩) (Kd.R_far (p := ⟨gb465, 6, none⟩) (Kd.R_far (p := ⟨gb465, 5, none⟩) (Kd.R_far (p := ⟨gb465, 4, none⟩) (Kd.R_far (p := ⟨gb465, 3, none⟩) (Kd.R_far (p := ⟨gb465, 2, none⟩) (Kd.R_far (p := ⟨gb465, 1, none⟩) (Kd.R_far (p := ⟨gb465, 0, none⟩) (Kd.R_types HO442.out BK465.out (by decide)) (fun _ hk => hk.2) (.int .i64 t450)) (fun _ hk => hk.2) (.int .i64 t451)) (fun _ hk => hk.2) (.int .i64 t452)) (fun _ hk => hk.2) (.int .i64 t453)) (fun _ hk => hk.2) (.string t454)) (fun _ hk => hk.2) (.int .i64 t455)) (fun _ hk => hk.2) (.int .i64 t456)) (fun _ hk => hk.2) (.bool t457)) (fun _ hk => hk.2) (.string t458)) (fun _ hk => hk.2) (.slice Ao31 t459.length co31)) (fun _ hk => hk.2) (.bool t462)) (fun _ hk => hk.2) (.int .i64 t463)) (fun _ hk => hk.2) (.int .i64 t464)) (fun _ hk => ⟨hk.1.1, hk.1.2⟩)))⟩; replace HO448 : Aside0 (Kd.R k28 28 w32 w.heap.size (fun _ => True) v447 t446) := ⟨(by rw [hw]; exact (by (with_reducible repeat (first | apply Kd.R_alloc | apply Kd.R_drewN | apply Kd.R_drew)); exact Kd.R_mono (Kd.R_far (p := ⟨gb465, 12, none⟩) (Kd.R_far (p := ⟨gb465, 11, none⟩) (Kd.R_far (p := ⟨gb465, 10, none⟩) (Kd.R_far (p := ⟨gb465, 9, none⟩) (Kd.R_far (p := ⟨gb465, 8, none⟩) (Kd.R_far (p := ⟨gb465, 7, none⟩) (Kd.R_far (p := ⟨gb465, 6, none⟩) (Kd.R_far (p := ⟨gb465, 5, none⟩) (Kd.R_far (p := ⟨gb465, 4, none⟩) (Kd.R_far (p := ⟨gb465, 3, none⟩) (Kd.R_far (p := ⟨gb465, 2, none⟩) (Kd.R_far (p := ⟨gb465, 1, none⟩) (Kd.R_far (p := ⟨gb465, 0, none⟩) (Kd.R_types HO448.out BK465.out (by decide)) (fun _ hk => hk.2) (.int .i64 t450)) (fun _ hk => hk.2) (.int .i64 t451)) (fun _ hk => hk.2) (.int .i64 t452)) (fun _ hk => hk.2) (.int .i64 t453)) (fun _ hk => hk.2) (.string t454)) (fun _ hk => hk.2) (.int .i64 t455)) (fun _ hk => hk.2) (.int .i64 t456)) (fun _ hk => hk.2) (.bool t457)) (fun _ hk => hk.2) (.string t458)) (fun _ hk => hk.2) (.slice Ao31 t459.length co31)) (fun _ hk => hk.2) (.bool t462)) (fun _ hk => hk.2) (.int .i64 t463)) (fun _ hk => hk.2) (.int .i64 t464)) (fun _ hk => trivial)))⟩; replace HO461 : Aside0 (Kd.R k143 143 w32 w.heap.size (fun k_ => some k_ ≠ (.slice Ao18 t425.length co18 : Value).ownBlock ∧ some k_ ≠ (.slice Ao23 t440.length co23 : Value).ownBlock) (.slice Ao31 t459.length co31) t459) := ⟨(by rw [hw]; exact (by (with_reducible repeat (first | apply Kd.R_alloc | apply Kd.R_drewN | apply Kd.R_drew)); exact Kd.R_mono (Kd.R_far (p := ⟨gb465, 12, none⟩) (Kd.R_far (p := ⟨gb465, 11, none⟩) (Kd.R_far (p := ⟨gb465, 10, none⟩) (Kd.R_far (p := ⟨gb465, 9, none⟩) (Kd.R_far (p := ⟨gb465, 8, none⟩) (Kd.R_far (p := ⟨gb465, 7, none⟩) (Kd.R_far (p := ⟨gb465, 6, none⟩) (Kd.R_far (p := ⟨gb465, 5, none⟩) (Kd.R_far (p := ⟨gb465, 4, none⟩) (Kd.R_far (p := ⟨gb465, 3, none⟩) (Kd.R_far (p := ⟨gb465, 2, none⟩) (Kd.R_far (p := ⟨gb465, 1, none⟩) (Kd.R_far (p := ⟨gb465, 0, none⟩) (Kd.R_types HO461.out BK465.out (by decide)) (fun _ hk => hk.2) (.int .i64 t450)) (fun _ hk => hk.2) (.int .i64 t451)) (fun _ hk => hk.2) (.int .i64 t452)) (fun _ hk => hk.2) (.int .i64 t453)) (fun _ hk => hk.2) (.string t454)) (fun _ hk => hk.2) (.int .i64 t455)) (fun _ hk => hk.2) (.int .i64 t456)) (fun _ hk => hk.2) (.bool t457)) (fun _ hk => hk.2) (.string t458)) (fun _ hk => hk.2) (.slice Ao31 t459.length co31)) (fun _ hk => hk.2) (.bool t462)) (fun _ hk => hk.2) (.int .i64 t463)) (fun _ hk => hk.2) (.int .i64 t464)) (fun _ hk => ⟨hk.1.1.2, hk.1.2⟩)))⟩; replace BK414 : Aside0 (w32.heap[gb414]? = some (.cells #[.int .i64 a0_0, .int .i64 a0_1, .int .i64 a0_2, .int .i64 a0_3, .string a0_4, .int .i64 a0_5, .int .i64 a0_6, .bool a0_7, .string a0_8, .slice A0_9 l0_9.length c0_9, .bool a0_10, .int .i64 a0_11, .int .i64 a0_12] 35 (0, 0))) := ⟨(by rw [hw]; exact (by (repeat (with_reducible (first | exact BK414.out | apply blk_drewN | apply blk_drew | apply blk_alloc | apply blk_put | apply bf NB414_465.out))); repeat (first | exact BK414.out | (simp only [List.setIfInBounds_toArray, List.set_cons_zero, List.set_cons_succ]; with_reducible rfl) | rfl)))⟩; replace BK449 : Aside0 (w32.heap[gb449]? = some (.cells #[.int .i64 t431, .int .i64 t432, .int .i64 t433, .int .i64 t434, .string t435, .int .i64 t436, .int .i64 t437, .bool t438, .string t439, .slice Ao23 t440.length co23, .bool t443, .int .i64 t444, .int .i64 t445] 39 (0, 0))) := ⟨(by rw [hw]; exact (by (repeat (with_reducible (first | exact BK449.out | apply blk_drewN | apply blk_drew | apply blk_alloc | apply blk_put | apply bf NB449_465.out))); repeat (first | exact BK449.out | (simp only [List.setIfInBounds_toArray, List.set_cons_zero, List.set_cons_succ]; with_reducible rfl) | rfl)))⟩; replace BK465 : Aside0 (w32.heap[gb465]? = some (.cells #[.int .i64 t450, .int .i64 t451, .int .i64 t452, .int .i64 t453, .string t454, .int .i64 t455, .int .i64 t456, .bool t457, .string t458, .slice Ao31 t459.length co31, .bool t462, .int .i64 t463, .int .i64 t464] 39 (0, 0))) := ⟨(by rw [hw]; exact (by (repeat (with_reducible (first | exact BK465.out | apply blk_drewN | apply blk_drew | apply blk_alloc | apply blk_put))); repeat (first | exact BK465.out | (simp only [List.setIfInBounds_toArray, List.set_cons_zero, List.set_cons_succ]; with_reducible rfl) | rfl)))⟩; replace HB : Aside0 (Below w.heap.size w w32) := ⟨(by rw [hw]; exact B14x12_)⟩; clear hw; obtain ⟨hcz33_0, hcz33_1, hcz33_2, hcz33_3, hcz33_4, hcz33_5, hcz33_6, hcz33_7, hcz33_8, hcz33_9, hcz33_10, hcz33_11, hcz33_12⟩ := cl13 BK465.out; obtain ⟨hfz33_0, hfz33_1, hfz33_2, hfz33_3, hfz33_4, hfz33_5, hfz33_6, hfz33_7, hfz33_8, hfz33_9, hfz33_10, hfz33_11, hfz33_12⟩ := fr13 BK465.out) | ((with_reducible refine gate_callee (f := 21) rfl ?_); refine goesL_ (some 33) rfl rfl Try.func21 B14x33_ rfl #[.agg #[.int .i64 t450, .int .i64 t451, .int .i64 t452, .int .i64 t453, .string t454, .int .i64 t455, .int .i64 t456, .bool t457, .string t458, .slice Ao31 t459.length co31, .bool t462, .int .i64 t463, .int .i64 t464], .int .i64 a1] rfl B14x1_ ?_; (with_reducible refine (impl_Push.calls k t450 t451 t452 t453 t454 t455 t456 t457 t458 _ _ t459 t462 t463 t464 a1 t466 t467 t468 t469 t470 t471 t472 t473 t474 t475 t478 t479 t480 t481 _ ?side1 ?side2 A11.out).mono ?_); (case side1 => repeat (first | exact (Kd.R_reads' HO461.out).2.2 | (with_reducible refine Kd.C_alloc ?_ _) | (with_reducible refine Kd.C_drewN ?_ _) | (with_reducible refine Kd.C_drew ?_))); (case side2 => exact (Kd.R_reads' HO461.out).2.1); rintro e w34 ⟨v476, v482, rfl, ho0, ho1, hb⟩; refine ⟨_, rfl, ?_⟩; have HO477 := Aside0.mk (Kd.R_lower (Kd.R_new' (Kd.R_new' (Kd.R_new' ho0 (Kd.R_lt B14x9_)) (Kd.R_lt B14x11_)) (Kd.R_lt B14x18_)) (below_size B14x12_)); replace HO427 := Aside0.mk (Kd.R_elder' B14x9_ (Kd.R_base ho0) hb); replace HO442 := Aside0.mk (Kd.R_elder' B14x11_ (Kd.R_base ho0) hb); replace HO461 := Aside0.mk (Kd.R_elder' B14x18_ (Kd.R_base ho0) hb); have HO483 := Aside0.mk (Kd.R_lower (Kd.R_new' ho1 (Kd.R_lt B14x10_)) (below_size B14x12_)); replace HO448 := Aside0.mk (Kd.R_elder' B14x10_ (Kd.R_base ho1) hb); replace BK414 := Aside0.mk (bb BK414.out hb); replace BK449 := Aside0.mk (bb BK449.out hb); replace BK465 := Aside0.mk (bb BK465.out hb); replace HB := Aside0.mk (below_step B14x12_ hb); (try clear hb); (try clear ho0); (try clear ho1)) | ((with_reducible refine gate_dst (N := 9) rfl ?_); refine box_event ?hg (N := 9) ?hd (cs := #[.int .i64 0, .int .i64 0, .int .i64 0, .int .i64 0, .string (⟨#[]⟩ : ByteArray), .int .i64 0, .int .i64 0, .bool false, .string (⟨#[]⟩ : ByteArray), .slice none 0 0, .bool false, .int .i64 0, .int .i64 0]) (t := 39) ?hr ?_; (case hd => rfl); (case hg => rfl); (case hr => exact B14x24_); intro gb484 hg w35 hbox hb; replace HO427 := Aside0.mk (Kd.R_below B14x9_ hb); replace HO442 := Aside0.mk (Kd.R_below B14x11_ hb); replace HO448 := Aside0.mk (Kd.R_below B14x10_ hb); replace HO461 := Aside0.mk (Kd.R_below B14x18_ hb); replace HO477 := Aside0.mk (Kd.R_below B14x26_ hb); replace HO483 := Aside0.mk (Kd.R_below B14x22_ hb); have BK484 := Aside0.mk (hbox); have GW484 := Aside0.mk ((bs hg (below_size HB.out))); have GE484 := Aside0.mk ((bs hg (below_size HB.out))); replace HB := Aside0.mk (below_step B14x12_ hb); have NB414_484 := Aside0.mk ((nl hg (blk_lt BK414.out))); have NB484_414 := Aside0.mk ((ng hg (blk_lt BK414.out))); replace BK414 := Aside0.mk (bb BK414.out hb); have NB449_484 := Aside0.mk ((nl hg (blk_lt BK449.out))); have NB484_449 := Aside0.mk ((ng hg (blk_lt BK449.out))); replace BK449 := Aside0.mk (bb BK449.out hb); have NB465_484 := Aside0.mk ((nl hg (blk_lt BK465.out))); have NB484_465 := Aside0.mk ((ng hg (blk_lt BK465.out))); replace BK465 := Aside0.mk (bb BK465.out hb); clear hb hbox hg; have hnb36 := NB484_414.out; have hnc36 := NB414_484.out; have hnb37 := NB484_449.out; have hnc37 := NB449_484.out; have hnb38 := NB484_465.out; have hnc38 := NB465_484.out; obtain ⟨hcz39_0, hcz39_1, hcz39_2, hcz39_3, hcz39_4, hcz39_5, hcz39_6, hcz39_7, hcz39_8, hcz39_9, hcz39_10, hcz39_11, hcz39_12⟩ := cl13 BK484.out; obtain ⟨hfz39_0, hfz39_1, hfz39_2, hfz39_3, hfz39_4, hfz39_5, hfz39_6, hfz39_7, hfz39_8, hfz39_9, hfz39_10, hfz39_11, hfz39_12⟩ := fr13 BK484.out; obtain ⟨Ao40, co40, eo40⟩ := Kd.R_slice HO477.out; subst eo40) | ((with_reducible refine gate_store (t := 39) (p := 9) rfl ?_); refine store_event (t := 39) (p := 9) (v := ?vo_w41) (w1 := (((((((((((((w35.setCell ⟨gb484, 0, none⟩ (.int .i64 t466)).setCell ⟨gb484, 1, none⟩ (.int .i64 t467)).setCell ⟨gb484, 2, none⟩ (.int .i64 t468)).setCell ⟨gb484, 3, none⟩ (.int .i64 t469)).setCell ⟨gb484, 4, none⟩ (.string t470)).setCell ⟨gb484, 5, none⟩ (.int .i64 t471)).setCell ⟨gb484, 6, none⟩ (.int .i64 t472)).setCell ⟨gb484, 7, none⟩ (.bool t473)).setCell ⟨gb484, 8, none⟩ (.string t474)).setCell ⟨gb484, 9, none⟩ (.slice Ao40 t475.length co40)).setCell ⟨gb484, 10, none⟩ (.bool t478)).setCell ⟨gb484, 11, none⟩ (.int .i64 t479)).setCell ⟨gb484, 12, none⟩ (.int .i64 t480))) ?hg ?ho ?hn ?hr ?_; (case ho => rfl); (case hg => rfl); (case hn => rfl); (case hr => exact B14x24_); intro w41 hw; replace HO427 : Aside0 (Kd.R k143 143 w41 w.heap.size (fun k_ => some k_ ≠ (.slice Ao23 t440.length co23 : Value).ownBlock ∧ some k_ ≠ (.slice Ao31 t459.length co31 : Value).ownBlock ∧ some k_ ≠ (.slice Ao40 t475.length co40 : Value).ownBlock) (.slice Ao18 t425.length co18) t425) := ⟨(by rw [hw]; exact (by (with_reducible repeat (first | apply Kd.R_alloc | apply Kd.R_drewN | apply Kd.R_drew)); exact Kd.R_mono (Kd.R_far (p := ⟨gb484, 12, none⟩) (Kd.R_far (p := ⟨gb484, 11, none⟩) (Kd.R_far (p := ⟨gb484, 10, none⟩) (Kd.R_far (p := ⟨gb484, 9, none⟩) (Kd.R_far (p := ⟨gb484, 8, none⟩) (Kd.R_far (p := ⟨gb484, 7, none⟩) (Kd.R_far (p := ⟨gb484, 6, none⟩) (Kd.R_far (p := ⟨gb484, 5, none⟩) (Kd.R_far (p := ⟨gb484, 4, none⟩) (Kd.R_far (p := ⟨gb484, 3, none⟩) (Kd.R_far (p := ⟨gb484, 2, none⟩) (Kd.R_far (p := ⟨gb484, 1, none⟩) (Kd.R_far (p := ⟨gb484, 0, none⟩) (Kd.R_types HO427.out BK484.out (by decide)) (fun _ hk => hk.2) (.int .i64 t466)) (fun _ hk => hk.2) (.int .i64 t467)) (fun _ hk => hk.2) (.int .i64 t468)) (fun _ hk => hk.2) (.int .i64 t469)) (fun _ hk => hk.2) (.string t470)) (fun _ hk => hk.2) (.int .i64 t471)) (fun _ hk => hk.2) (.int .i64 t472)) (fun _ hk => hk.2) (.bool t473)) (fun _ hk => hk.2) (.string t474)) (fun _ hk => hk.2) (.slice Ao40 t475.length co40)) (fun _ hk => hk.2) (.bool t478)) (fun _ hk => hk.2) (.int .i64 t479)) (fun _ hk => hk.2) (.int .i64 t480)) (fun _ hk => ⟨hk.1.1.1, ⟨hk.1.1.2, hk.1.2⟩⟩)))⟩; replace HO442 : Aside0 (Kd.R k143 143 w41 w.heap.size (fun k_ => some k_ ≠ (.slice Ao18 t425.length co18 : Value).ownBlock ∧ some k_ ≠ (.slice Ao31 t459.length co31 : Value).ownBlock ∧ some k_ ≠ (.slice Ao40 t475.length co40 : Value).ownBlock) (.slice Ao23 t440.length co23) t440) := ⟨(by rw [hw]; exact (by (with_reducible repeat (first | apply Kd.R_alloc | apply Kd.R_drewN | apply Kd.R_drew)); exact Kd.R_mono (Kd.R_far (p := ⟨gb484, 12, none⟩) (Kd.R_far (p := ⟨gb484, 11, none⟩) (Kd.R_far (p := ⟨gb484, 10, none⟩) (Kd.R_far (p := ⟨gb484, 9, none⟩) (Kd.R_far (p := ⟨gb484, 8, none⟩) (Kd.R_far (p := ⟨gb484, 7, none⟩) (Kd.R_far (p := ⟨gb484, 6, none⟩) (Kd.R_far (p := ⟨gb484, 5, none⟩) (Kd.R_far (p := ⟨gb484, 4, none⟩) (Kd.R_far (p := ⟨gb484, 3, none⟩) (Kd.R_far (p := ⟨gb484, 2, none⟩) (Kd.R_far (p := ⟨gb484, 1, none⟩) (Kd.R_far (p := ⟨gb484, 0, none⟩) (Kd.R_types HO442.out BK484.out (by decide)) (fun _ hk => hk.2) (.int .i64 t466)) (fun _ hk => hk.2) (.int .i64 t467)) (fun _ hk => hk.2) (.int .i64 t468)) (fun _ hk => hk.2) (.int .i64 t469)) (fun _ hk => hk.2) (.string t470)) (fun _ hk => hk.2) (.int .i64 t471)) (fun _ hk => hk.2) (.int .i64 t472)) (fun _ hk => hk.2) (.bool t473)) (fun _ hk => hk.2) (.string t474)) (fun _ hk => hk.2) (.slice Ao40 t475.length co40)) (fun _ hk => hk.2) (.bool t478)) (fun _ hk => hk.2) (.int .i64 t479)) (fun _ hk => hk.2) (.int .i64 t480)) (fun _ hk => ⟨hk.1.1.1, ⟨hk.1.1.2, hk.1.2⟩⟩)))⟩; replace HO448 : Aside0 (Kd.R k28 28 w41 w.heap.size (fun k_ => some k_ ≠ (v482 : Value).ownBlock) v447 t446) := ⟨(by rw [hw]; exact (by (with_reducible repeat (first | apply Kd.R_alloc | apply Kd.R_drewN | apply Kd.R_drew)); exact Kd.R_mono (Kd.R_far (p := ⟨gb484, 12, none⟩) (Kd.R_far (p := ⟨gb484, 11, none⟩) (Kd.R_far (p := ⟨gb484, 10, none⟩) (Kd.R_far (p := ⟨gb484, 9, none⟩) (Kd.R_far (p := ⟨gb484, 8, none⟩) (Kd.R_far (p := ⟨gb484, 7, none⟩) (Kd.R_far (p := ⟨gb484, 6, none⟩) (Kd.R_far (p := ⟨gb484, 5, none⟩) (Kd.R_far (p := ⟨gb484, 4, none⟩) (Kd.R_far (p := ⟨gb484, 3, none⟩) (Kd.R_far (p := ⟨gb484, 2, none⟩) (Kd.R_far (p := ⟨gb484, 1, none⟩) (Kd.R_far (p := ⟨gb484, 0, none⟩) (Kd.R_types HO448.out BK484.out (by decide)) (fun _ hk => hk.2) (.int .i64 t466)) (fun _ hk => hk.2) (.int .i64 t467)) (fun _ hk => hk.2) (.int .i64 t468)) (fun _ hk => hk.2) (.int .i64 t469)) (fun _ hk => hk.2) (.string t470)) (fun _ hk => hk.2) (.int .i64 t471)) (fun _ hk => hk.2) (.int .i64 t472)) (fun _ hk => hk.2) (.bool t473)) (fun _ hk => hk.2) (.string t474)) (fun _ hk => hk.2) (.slice Ao40 t475.length co40)) (fun _ hk => hk.2) (.bool t478)) (fun _ hk => hk.2) (.int .i64 t479)) (fun _ hk => hk.2) (.int .i64 t480)) (fun _ hk => hk.1.2)))⟩; replace HO461 : Aside0 (Kd.R k143 143 w41 w.heap.size (fun k_ => some k_ ≠ (.slice Ao18 t425.length co18 : Value).ownBlock ∧ some k_ ≠ (.slice Ao23 t440.length co23 : Value).ownBlock ∧ some k_ ≠ (.slice Ao40 t475.length co40 : Value).ownBlock) (.slice Ao31 t459.length co31) t459) := ⟨(by rw [hw]; exact (by (with_reducible repeat (first | apply Kd.R_alloc | apply Kd.R_drewN | apply Kd.R_drew)); exact Kd.R_mono (Kd.R_far (p := ⟨gb484, 12, none⟩) (Kd.R_far (p := ⟨gb484, 11, none⟩) (Kd.R_far (p := ⟨gb484, 10, none⟩) (Kd.R_far (p := ⟨gb484, 9, none⟩) (Kd.R_far (p := ⟨gb484, 8, none⟩) (Kd.R_far (p := ⟨gb484, 7, none⟩) (Kd.R_far (p := ⟨gb484, 6, none⟩) (Kd.R_far (p := ⟨gb484, 5, none⟩) (Kd.R_far (p := ⟨gb484, 4, none⟩) (Kd.R_far (p := ⟨gb484, 3, none⟩) (Kd.R_far (p := ⟨gb484, 2, none⟩) (Kd.R_far (p := ⟨gb484, 1, none⟩) (Kd.R_far (p := ⟨gb484, 0, none⟩) (Kd.R_types HO461.out BK484.out (by decide)) (fun _ hk => hk.2) (.int .i64 t466)) (fun _ hk => hk.2) (.int .i64 t467)) (fun _ hk => hk.2) (.int .i64 t468)) (fun _ hk => hk.2) (.int .i64 t469)) (fun _ hk => hk.2) (.string t470)) (fun _ hk => hk.2) (.int .i64 t471)) (fun _ hk => hk.2) (.int .i64 t472)) (fun _ hk => hk.2) (.bool t473)) (fun _ hk => hk.2) (.string t474)) (fun _ hk => hk.2) (.slice Ao40 t475.length co40)) (fun _ hk => hk.2) (.bool t478)) (fun _ hk => hk.2) (.int .i64 t479)) (fun _ hk => hk.2) (.int .i64 t480)) (fun _ hk => ⟨hk.1.1.1, ⟨hk.1.1.2, hk.1.2⟩⟩)))⟩; replace HO477 : Aside0 (Kd.R k143 143 w41 w.heap.size (fun k_ => some k_ ≠ (.slice Ao18 t425.length co18 : Value).ownBlock ∧ some k_ ≠ (.slice Ao23 t440.length co23 : Value).ownBlock ∧ some k_ ≠ (.slice Ao31 t459.length co31 : Value).ownBlock) (.slice Ao40 t475.length co40) t475) := ⟨(by rw [hw]; exact (by (with_reducible repeat (first | apply Kd.R_alloc | apply Kd.R_drewN | apply Kd.R_drew)); exact Kd.R_mono (Kd.R_far (p := ⟨gb484, 12, none⟩) (Kd.R_far (p := ⟨gb484, 11, none⟩) (Kd.R_far (p := ⟨gb484, 10, none⟩) (Kd.R_far (p := ⟨gb484, 9, none⟩) (Kd.R_far (p := ⟨gb484, 8, none⟩) (Kd.R_far (p := ⟨gb484, 7, none⟩) (Kd.R_far (p := ⟨gb484, 6, none⟩) (Kd.R_far (p := ⟨gb484, 5, none⟩) (Kd.R_far (p := ⟨gb484, 4, none⟩) (Kd.R_far (p := ⟨gb484, 3, none⟩) (Kd.R_far (p := ⟨gb484, 2, none⟩) (Kd.R_far (p := ⟨gb484, 1, none⟩) (Kd.R_far (p := ⟨gb484, 0, none⟩) (Kd.R_types HO477.out BK484.out (by decide)) (fun _ hk => hk.2) (.int .i64 t466)) (fun _ hk => hk.2) (.int .i64 t467)) (fun _ hk => hk.2) (.int .i64 t468)) (fun _ hk => hk.2) (.int .i64 t469)) (fun _ hk => hk.2) (.string t470)) (fun _ hk => hk.2) (.int .i64 t471)) (fun _ hk => hk.2) (.int .i64 t472)) (fun _ hk => hk.2) (.bool t473)) (fun _ hk => hk.2) (.string t474)) (fun _ hk => hk.2) (.slice Ao40 t475.length co40)) (fun _ hk => hk.2) (.bool t478)) (fun _ hk => hk.2) (.int .i64 t479)) (fun _ hk => hk.2) (.int .i64 t480)) (fun _ hk => ⟨hk.1.1.1.2, ⟨hk.1.1.2, hk.1.2⟩⟩)))⟩; replace HO483 : Aside0 (Kd.R k28 28 w41 w.heap.size (fun k_ => some k_ ≠ (v447 : Value).ownBlock) v482 t481) := ⟨(by rw [hw]; exact (by (with_reducible repeat (first | apply Kd.R_alloc | apply Kd.R_drewN | apply Kd.R_drew)); exact Kd.R_mono (Kd.R_far (p := ⟨gb484, 12, none⟩) (Kd.R_far (p := ⟨gb484, 11, none⟩) (Kd.R_far (p := ⟨gb484, 10, none⟩) (Kd.R_far (p := ⟨gb484, 9, none⟩) (Kd.R_far (p := ⟨gb484, 8, none⟩) (Kd.R_far (p := ⟨gb484, 7, none⟩) (Kd.R_far (p := ⟨gb484, 6, none⟩) (Kd.R_far (p := ⟨gb484, 5, none⟩) (Kd.R_far (p := ⟨gb484, 4, none⟩) (Kd.R_far (p := ⟨gb484, 3, none⟩) (Kd.R_far (p := ⟨gb484, 2, none⟩) (Kd.R_far (p := ⟨gb484, 1, none⟩) (Kd.R_far (p := ⟨gb484, 0, none⟩) (Kd.R_types HO483.out BK484.out (by decide)) (fun _ hk => hk.2) (.int .i64 t466)) (fun _ hk => hk.2) (.int .i64 t467)) (fun _ hk => hk.2) (.int .i64 t468)) (fun _ hk => hk.2) (.int .i64 t469)) (fun _ hk => hk.2) (.string t470)) (fun _ hk => hk.2) (.int .i64 t471)) (fun _ hk => hk.2) (.int .i64 t472)) (fun _ hk => hk.2) (.bool t473)) (fun _ hk => hk.2) (.string t474)) (fun _ hk => hk.2) (.slice Ao40 t475.length co40)) (fun _ hk => hk.2) (.bool t478)) (fun _ hk => hk.2) (.int .i64 t479)) (fun _ hk => hk.2) (.int .i64 t480)) (fun _ hk => hk.1.2)))⟩; replace BK414 : Aside0 (w41.heap[gb414]? = some (.cells #[.int .i64 a0_0, .int .i64 a0_1, .int .i64 a0_2, .int .i64 a0_3, .string a0_4, .int .i64 a0_5, .int .i64 a0_6, .bool a0_7, .string a0_8, .slice A0_9 l0_9.length c0_9, .bool a0_10, .int .i64 a0_11, .int .i64 a0_12] 35 (0, 0))) := ⟨(by rw [hw]; exact (by (repeat (with_reducible (first | exact BK414.out | apply blk_drewN | apply blk_drew | apply blk_alloc | apply blk_put | apply bf NB414_484.out))); repeat (first | exact BK414.out | (simp only [List.setIfInBounds_toArray, List.set_cons_zero, List.set_cons_succ]; with_reducible rfl) | rfl)))⟩; replace BK449 : Aside0 (w41.heap[gb449]? = some (.cells #[.int .i64 t431, .int .i64 t432, .int .i64 t433, .int .i64 t434, .string t435, .int .i64 t436, .int .i64 t437, .bool t438, .string t439, .slice Ao23 t440.length co23, .bool t443, .int .i64 t444, .int .i64 t445] 39 (0, 0))) := ⟨(by rw [hw]; exact (by (repeat (with_reducible (first | exact BK449.out | apply blk_drewN | apply blk_drew | apply blk_alloc | apply blk_put | apply bf NB449_484.out))); repeat (first | exact BK449.out | (simp only [List.setIfInBounds_toArray, List.set_cons_zero, List.set_cons_succ]; with_reducible rfl) | rfl)))⟩; replace BK465 : Aside0 (w41.heap[gb465]? = some (.cells #[.int .i64 t450, .int .i64 t451, .int .i64 t452, .int .i64 t453, .string t454, .int .i64 t455, .int .i64 t456, .bool t457, .string t458, .slice Ao31 t459.length co31, .bool t462, .int .i64 t463, .int .i64 t464] 39 (0, 0))) := ⟨(by rw [hw]; exact (by (repeat (with_reducible (first | exact BK465.out | apply blk_drewN | apply blk_drew | apply blk_alloc | apply blk_put | apply bf NB465_484.out))); repeat (first | exact BK465.out | (simp only [List.setIfInBounds_toArray, List.set_cons_zero, List.set_cons_succ]; with_reducible rfl) | rfl)))⟩; replace BK484 : Aside0 (w41.heap[gb484]? = some (.cells #[.int .i64 t466, .int .i64 t467, .int .i64 t468, .int .i64 t469, .string t470, .int .i64 t471, .int .i64 t472, .bool t473, .string t474, .slice Ao40 t475.length co40, .bool t478, .int .i64 t479, .int .i64 t480] 39 (0, 0))) := ⟨(by rw [hw]; exact (by (repeat (with_reducible (first | exact BK484.out | apply blk_drewN | apply blk_drew | apply blk_alloc | apply blk_put))); repeat (first | exact BK484.out | (simp only [List.setIfInBounds_toArray, List.set_cons_zero, List.set_cons_succ]; with_reducible rfl) | rfl)))⟩; replace HB : Aside0 (Below w.heap.size w w41) := ⟨(by rw [hw]; exact B14x0_)⟩; clear hw))
  (try simp only [Act.put, List.setIfInBounds_toArray, List.set_cons_zero, List.set_cons_succ])
  go_cut [45] (fun v45 wc => ∃ (kq : Nat) (x45_11 : Bool), v45 = .bool x45_11 ∧ Aside0 (laws_FnExactPush.j0 kq a1 t446 t481 x45_11 a0_0 a0_1 a0_2 a0_3 a0_4 a0_5 a0_6 a0_7 a0_8 l0_9 a0_10 a0_11 a0_12 t431 t432 t433 t434 t435 t436 t437 t438 t439 t440 t443 t444 t445 t450 t451 t452 t453 t454 t455 t456 t457 t458 t459 t462 t463 t464 t466 t467 t468 t469 t470 t471 t472 t473 t474 t475 t478 t479 t480 = some r) ∧ Aside0 (kq ≤ k) ∧ Aside0 (Kd.R k28 28 wc w.heap.size (fun k_ => some k_ ≠ (v482 : Value).ownBlock) v447 t446) ∧ Aside0 (Kd.R k28 28 wc w.heap.size (fun k_ => some k_ ≠ (v447 : Value).ownBlock) v482 t481) ∧ Aside0 (Kd.R k143 143 wc w.heap.size (fun k_ => some k_ ≠ ((.slice Ao31 t459.length co31) : Value).ownBlock ∧ some k_ ≠ ((.slice Ao40 t475.length co40) : Value).ownBlock) (.slice Ao23 t440.length co23) t440) ∧ Aside0 (Kd.R k143 143 wc w.heap.size (fun k_ => some k_ ≠ ((.slice Ao23 t440.length co23) : Value).ownBlock ∧ some k_ ≠ ((.slice Ao40 t475.length co40) : Value).ownBlock) (.slice Ao31 t459.length co31) t459) ∧ Aside0 (Kd.R k143 143 wc w.heap.size (fun k_ => some k_ ≠ ((.slice Ao23 t440.length co23) : Value).ownBlock ∧ some k_ ≠ ((.slice Ao31 t459.length co31) : Value).ownBlock) (.slice Ao40 t475.length co40) t475) ∧ Aside0 (wc.heap[gb414]? = some (.cells #[.int .i64 a0_0, .int .i64 a0_1, .int .i64 a0_2, .int .i64 a0_3, .string a0_4, .int .i64 a0_5, .int .i64 a0_6, .bool a0_7, .string a0_8, (.slice A0_9 l0_9.length c0_9), .bool a0_10, .int .i64 a0_11, .int .i64 a0_12] 35 (0, 0))) ∧ Aside0 (wc.heap[gb449]? = some (.cells #[.int .i64 t431, .int .i64 t432, .int .i64 t433, .int .i64 t434, .string t435, .int .i64 t436, .int .i64 t437, .bool t438, .string t439, (.slice Ao23 t440.length co23), .bool t443, .int .i64 t444, .int .i64 t445] 39 (0, 0))) ∧ Aside0 (wc.heap[gb465]? = some (.cells #[.int .i64 t450, .int .i64 t451, .int .i64 t452, .int .i64 t453, .string t454, .int .i64 t455, .int .i64 t456, .bool t457, .string t458, (.slice Ao31 t459.length co31), .bool t462, .int .i64 t463, .int .i64 t464] 39 (0, 0))) ∧ Aside0 (wc.heap[gb484]? = some (.cells #[.int .i64 t466, .int .i64 t467, .int .i64 t468, .int .i64 t469, .string t470, .int .i64 t471, .int .i64 t472, .bool t473, .string t474, (.slice Ao40 t475.length co40), .bool t478, .int .i64 t479, .int .i64 t480] 39 (0, 0))) ∧ Aside0 (Below w.heap.size w wc))
  case first =>
   have H := HC12.out
   clear HC12
   replace H := bsi H
   obtain ⟨t485, A42, H⟩ := H
   (try dsimp only at H)
   by_cases c43 : t485 = true
   ·subst c43
    rw [if_pos rfl] at H
    replace H := bsi H
    obtain ⟨t486, A44, H⟩ := H
    (try dsimp only at H)
    have H' := Aside0.mk H
    clear H
    have hnb45 := NB484_414.out
    have hnc45 := NB414_484.out
    have hnb46 := NB484_449.out
    have hnc46 := NB449_484.out
    have hnb47 := NB484_465.out
    have hnc47 := NB465_484.out
    obtain ⟨hcz48_0, hcz48_1, hcz48_2, hcz48_3, hcz48_4, hcz48_5, hcz48_6, hcz48_7, hcz48_8, hcz48_9, hcz48_10, hcz48_11, hcz48_12⟩ := cl13 BK484.out
    obtain ⟨hfz48_0, hfz48_1, hfz48_2, hfz48_3, hfz48_4, hfz48_5, hfz48_6, hfz48_7, hfz48_8, hfz48_9, hfz48_10, hfz48_11, hfz48_12⟩ := fr13 BK484.out
    have hnb49 := NB449_414.out
    have hnc49 := NB414_449.out
    have hnb50 := NB449_465.out
    have hnc50 := NB465_449.out
    obtain ⟨hcz51_0, hcz51_1, hcz51_2, hcz51_3, hcz51_4, hcz51_5, hcz51_6, hcz51_7, hcz51_8, hcz51_9, hcz51_10, hcz51_11, hcz51_12⟩ := cl13 BK449.out
    obtain ⟨hfz51_0, hfz51_1, hfz51_2, hfz51_3, hfz51_4, hfz51_5, hfz51_6, hfz51_7, hfz51_8, hfz51_9, hfz51_10, hfz51_11, hfz51_12⟩ := fr13 BK449.out
    go_wp2_with (first | ((with_reducible refine gate_callee (f := 22) rfl ?_); refine goesL_ (some 38) rfl rfl Try.func22 B14x33_ rfl #[.agg #[.int .i64 t466, .int .i64 t467, .int .i64 t468, .int .i64 t469, .string t470, .int .i64 t471, .int .i64 t472, .bool t473, .string t474, .slice Ao40 t475.length co40, .bool t478, .int .i64 t479, .int .i64 t480], .agg #[.int .i64 t431, .int .i64 t432, .int .i64 t433, .int .i64 t434, .string t435, .int .i64 t436, .int .i64 t437, .bool t438, .string t439, .slice Ao23 t440.length co23, .bool t443, .int .i64 t444, .int .i64 t445]] rfl B14x1_ ?_; (with_reducible refine (laws_eqStream.calls k t466 t467 t468 t469 t470 t471 t472 t473 t474 _ _ t475 t478 t479 t480 t431 t432 t433 t434 t435 t436 t437 t438 t439 _ _ t440 t443 t444 t445 true _ ?side1 ?side2 ?side3 ?side4 A42.out).mono ?_); (case side1 => exact B14x39_); (case side2 => exact (Kd.R_reads' HO477.out).2.1); (case side3 => exact B14x38_); (case side4 => exact (Kd.R_reads' HO442.out).2.1); rintro e w52 ⟨rfl, hb⟩; refine ⟨_, rfl, ?_⟩; replace HO427 := Aside0.mk (Kd.R_below B14x9_ hb); replace HO442 := Aside0.mk (Kd.R_below B14x11_ hb); replace HO448 := Aside0.mk (Kd.R_below B14x10_ hb); replace HO461 := Aside0.mk (Kd.R_below B14x18_ hb); replace HO477 := Aside0.mk (Kd.R_below B14x26_ hb); replace HO483 := Aside0.mk (Kd.R_below B14x22_ hb); replace BK414 := Aside0.mk (bb BK414.out hb); replace BK449 := Aside0.mk (bb BK449.out hb); replace BK465 := Aside0.mk (bb BK465.out hb); replace BK484 := Aside0.mk (bb BK484.out hb); replace HB := Aside0.mk (below_step B14x0_ hb); (try clear hb); obtain ⟨Ao53, co53, eo53⟩ := Kd.R_slice HO483.out; subst eo53; obtain ⟨Ao54, co54, eo54⟩ := Kd.R_slice HO448.out; subst eo54) | (go_at_call 23; (with_reducible refine (laws_eqSegS.calls k _ _ t481 _ _ t446 t486 _ ?side1 ?side2 ?side3 ?side4 A44.out).mono ?_); (case side1 => repeat (first | exact (Kd.R_reads' HO483.out).2.2 | (with_reducible refine Kd.C_alloc ?_ _) | (with_reducible refine Kd.C_drewN ?_ _) | (with_reducible refine Kd.C_drew ?_))); (case side2 => exact (Kd.R_reads' HO483.out).2.1); (case side3 => repeat (first | exact (Kd.R_reads' HO448.out).2.2 | (with_reducible refine Kd.C_alloc ?_ _) | (with_reducible refine Kd.C_drewN ?_ _) | (with_reducible refine Kd.C_drew ?_))); (case side4 => exact (Kd.R_reads' HO448.out).2.1); rintro e w55 ⟨rfl, hb⟩; replace HO427 := Aside0.mk (Kd.R_below B14x9_ hb); replace HO442 := Aside0.mk (Kd.R_below B14x11_ hb); replace HO448 := Aside0.mk (Kd.R_below B14x10_ hb); replace HO461 := Aside0.mk (Kd.R_below B14x18_ hb); replace HO477 := Aside0.mk (Kd.R_below B14x26_ hb); replace HO483 := Aside0.mk (Kd.R_below B14x22_ hb); replace BK414 := Aside0.mk (bb BK414.out hb); replace BK449 := Aside0.mk (bb BK449.out hb); replace BK465 := Aside0.mk (bb BK465.out hb); replace BK484 := Aside0.mk (bb BK484.out hb); replace HB := Aside0.mk (below_step B14x0_ hb); (try clear hb)))
    go_meet
    case rel => exact ⟨_, (!t486), (be_), H', ⟨(by first | omega | exact Nat.le_refl _)⟩, ⟨B14x10_⟩, ⟨B14x22_⟩, ⟨B14x43_⟩, ⟨B14x44_⟩, ⟨B14x45_⟩, ⟨B14x14_⟩, ⟨B14x15_⟩, ⟨B14x16_⟩, ⟨B14x17_⟩, ⟨B14x0_⟩⟩
   ·replace c43 := Bool.eq_false_iff.mpr c43
    subst c43
    rw [if_neg (show ¬ (false = true) by decide)] at H
    have H' := Aside0.mk H
    clear H
    have hnb56 := NB484_414.out
    have hnc56 := NB414_484.out
    have hnb57 := NB484_449.out
    have hnc57 := NB449_484.out
    have hnb58 := NB484_465.out
    have hnc58 := NB465_484.out
    obtain ⟨hcz59_0, hcz59_1, hcz59_2, hcz59_3, hcz59_4, hcz59_5, hcz59_6, hcz59_7, hcz59_8, hcz59_9, hcz59_10, hcz59_11, hcz59_12⟩ := cl13 BK484.out
    obtain ⟨hfz59_0, hfz59_1, hfz59_2, hfz59_3, hfz59_4, hfz59_5, hfz59_6, hfz59_7, hfz59_8, hfz59_9, hfz59_10, hfz59_11, hfz59_12⟩ := fr13 BK484.out
    have hnb60 := NB449_414.out
    have hnc60 := NB414_449.out
    have hnb61 := NB449_465.out
    have hnc61 := NB465_449.out
    obtain ⟨hcz62_0, hcz62_1, hcz62_2, hcz62_3, hcz62_4, hcz62_5, hcz62_6, hcz62_7, hcz62_8, hcz62_9, hcz62_10, hcz62_11, hcz62_12⟩ := cl13 BK449.out
    obtain ⟨hfz62_0, hfz62_1, hfz62_2, hfz62_3, hfz62_4, hfz62_5, hfz62_6, hfz62_7, hfz62_8, hfz62_9, hfz62_10, hfz62_11, hfz62_12⟩ := fr13 BK449.out
    go_wp2_with (first | ((with_reducible refine gate_callee (f := 22) rfl ?_); refine goesL_ (some 38) rfl rfl Try.func22 B14x33_ rfl #[.agg #[.int .i64 t466, .int .i64 t467, .int .i64 t468, .int .i64 t469, .string t470, .int .i64 t471, .int .i64 t472, .bool t473, .string t474, .slice Ao40 t475.length co40, .bool t478, .int .i64 t479, .int .i64 t480], .agg #[.int .i64 t431, .int .i64 t432, .int .i64 t433, .int .i64 t434, .string t435, .int .i64 t436, .int .i64 t437, .bool t438, .string t439, .slice Ao23 t440.length co23, .bool t443, .int .i64 t444, .int .i64 t445]] rfl B14x1_ ?_; (with_reducible refine (laws_eqStream.calls k t466 t467 t468 t469 t470 t471 t472 t473 t474 _ _ t475 t478 t479 t480 t431 t432 t433 t434 t435 t436 t437 t438 t439 _ _ t440 t443 t444 t445 false _ ?side1 ?side2 ?side3 ?side4 A42.out).mono ?_); (case side1 => exact B14x39_); (case side2 => exact (Kd.R_reads' HO477.out).2.1); (case side3 => exact B14x38_); (case side4 => exact (Kd.R_reads' HO442.out).2.1); rintro e w63 ⟨rfl, hb⟩; refine ⟨_, rfl, ?_⟩; replace HO427 := Aside0.mk (Kd.R_below B14x9_ hb); replace HO442 := Aside0.mk (Kd.R_below B14x11_ hb); replace HO448 := Aside0.mk (Kd.R_below B14x10_ hb); replace HO461 := Aside0.mk (Kd.R_below B14x18_ hb); replace HO477 := Aside0.mk (Kd.R_below B14x26_ hb); replace HO483 := Aside0.mk (Kd.R_below B14x22_ hb); replace BK414 := Aside0.mk (bb BK414.out hb); replace BK449 := Aside0.mk (bb BK449.out hb); replace BK465 := Aside0.mk (bb BK465.out hb); replace BK484 := Aside0.mk (bb BK484.out hb); replace HB := Aside0.mk (below_step B14x0_ hb); (try clear hb)))
    go_meet
    case rel => exact ⟨_, (true), (be_), H', ⟨(by first | omega | exact Nat.le_refl _)⟩, ⟨B14x10_⟩, ⟨B14x22_⟩, ⟨B14x43_⟩, ⟨B14x44_⟩, ⟨B14x45_⟩, ⟨B14x14_⟩, ⟨B14x15_⟩, ⟨B14x16_⟩, ⟨B14x17_⟩, ⟨B14x0_⟩⟩
  case rest =>
   clear HC12
   try clear c4
   try clear c4b0
   try clear hcz14_0
   try clear hcz14_1
   try clear hcz14_10
   try clear hcz14_11
   try clear hcz14_12
   try clear hcz14_2
   try clear hcz14_3
   try clear hcz14_4
   try clear hcz14_5
   try clear hcz14_6
   try clear hcz14_7
   try clear hcz14_8
   try clear hcz14_9
   try clear hcz16_0
   try clear hcz16_1
   try clear hcz16_10
   try clear hcz16_11
   try clear hcz16_12
   try clear hcz16_2
   try clear hcz16_3
   try clear hcz16_4
   try clear hcz16_5
   try clear hcz16_6
   try clear hcz16_7
   try clear hcz16_8
   try clear hcz16_9
   try clear hcz22_0
   try clear hcz22_1
   try clear hcz22_10
   try clear hcz22_11
   try clear hcz22_12
   try clear hcz22_2
   try clear hcz22_3
   try clear hcz22_4
   try clear hcz22_5
   try clear hcz22_6
   try clear hcz22_7
   try clear hcz22_8
   try clear hcz22_9
   try clear hcz25_0
   try clear hcz25_1
   try clear hcz25_10
   try clear hcz25_11
   try clear hcz25_12
   try clear hcz25_2
   try clear hcz25_3
   try clear hcz25_4
   try clear hcz25_5
   try clear hcz25_6
   try clear hcz25_7
   try clear hcz25_8
   try clear hcz25_9
   try clear hcz30_0
   try clear hcz30_1
   try clear hcz30_10
   try clear hcz30_11
   try clear hcz30_12
   try clear hcz30_2
   try clear hcz30_3
   try clear hcz30_4
   try clear hcz30_5
   try clear hcz30_6
   try clear hcz30_7
   try clear hcz30_8
   try clear hcz30_9
   try clear hcz33_0
   try clear hcz33_1
   try clear hcz33_10
   try clear hcz33_11
   try clear hcz33_12
   try clear hcz33_2
   try clear hcz33_3
   try clear hcz33_4
   try clear hcz33_5
   try clear hcz33_6
   try clear hcz33_7
   try clear hcz33_8
   try clear hcz33_9
   try clear hcz39_0
   try clear hcz39_1
   try clear hcz39_10
   try clear hcz39_11
   try clear hcz39_12
   try clear hcz39_2
   try clear hcz39_3
   try clear hcz39_4
   try clear hcz39_5
   try clear hcz39_6
   try clear hcz39_7
   try clear hcz39_8
   try clear hcz39_9
   try clear hfz14_0
   try clear hfz14_1
   try clear hfz14_10
   try clear hfz14_11
   try clear hfz14_12
   try clear hfz14_2
   try clear hfz14_3
   try clear hfz14_4
   try clear hfz14_5
   try clear hfz14_6
   try clear hfz14_7
   try clear hfz14_8
   try clear hfz14_9
   try clear hfz16_0
   try clear hfz16_1
   try clear hfz16_10
   try clear hfz16_11
   try clear hfz16_12
   try clear hfz16_2
   try clear hfz16_3
   try clear hfz16_4
   try clear hfz16_5
   try clear hfz16_6
   try clear hfz16_7
   try clear hfz16_8
   try clear hfz16_9
   try clear hfz22_0
   try clear hfz22_1
   try clear hfz22_10
   try clear hfz22_11
   try clear hfz22_12
   try clear hfz22_2
   try clear hfz22_3
   try clear hfz22_4
   try clear hfz22_5
   try clear hfz22_6
   try clear hfz22_7
   try clear hfz22_8
   try clear hfz22_9
   try clear hfz25_0
   try clear hfz25_1
   try clear hfz25_10
   try clear hfz25_11
   try clear hfz25_12
   try clear hfz25_2
   try clear hfz25_3
   try clear hfz25_4
   try clear hfz25_5
   try clear hfz25_6
   try clear hfz25_7
   try clear hfz25_8
   try clear hfz25_9
   try clear hfz30_0
   try clear hfz30_1
   try clear hfz30_10
   try clear hfz30_11
   try clear hfz30_12
   try clear hfz30_2
   try clear hfz30_3
   try clear hfz30_4
   try clear hfz30_5
   try clear hfz30_6
   try clear hfz30_7
   try clear hfz30_8
   try clear hfz30_9
   try clear hfz33_0
   try clear hfz33_1
   try clear hfz33_10
   try clear hfz33_11
   try clear hfz33_12
   try clear hfz33_2
   try clear hfz33_3
   try clear hfz33_4
   try clear hfz33_5
   try clear hfz33_6
   try clear hfz33_7
   try clear hfz33_8
   try clear hfz33_9
   try clear hfz39_0
   try clear hfz39_1
   try clear hfz39_10
   try clear hfz39_11
   try clear hfz39_12
   try clear hfz39_2
   try clear hfz39_3
   try clear hfz39_4
   try clear hfz39_5
   try clear hfz39_6
   try clear hfz39_7
   try clear hfz39_8
   try clear hfz39_9
   obtain ⟨kq, x45_11, rfl, HA, HJ11, HO_7, HO_10, HO_450009, HO_466009, HO_485009, BK414, BK449, BK465, BK484, HB⟩ := hcut
   cases kq with
   | zero => exact absurd HA.out (by simp [laws_FnExactPush.j0])
   | succ kj11 =>
    have H := HA.out
    clear HA
    simp only [laws_FnExactPush.j0] at H
    by_cases c64 : x45_11 = true
    ·subst c64
     rw [if_pos rfl] at H
     exact absurd ((Option.some.inj H).trans hr_.out) (by decide)
    replace c64 := Bool.eq_false_iff.mpr c64
    subst c64
    rw [if_neg (show ¬ (false = true) by decide)] at H
    replace H := bsi H
    obtain ⟨⟨t487, t488, t489, t490, t491, t492, t493, t494, t495, t496, t499, t500, t501⟩, A65, H⟩ := H
    (try dsimp only at H)
    replace H := bsi H
    obtain ⟨t502, A66, H⟩ := H
    (try dsimp only at H)
    by_cases c67 : t502 = true
    rotate_left
    ·replace c67 := Bool.eq_false_iff.mpr c67
     subst c67
     rw [if_neg (show ¬ (false = true) by decide)] at H
     exact absurd ((Option.some.inj H).trans hr_.out) (by decide)
    subst c67
    rw [if_pos rfl] at H
    replace H := bsi H
    obtain ⟨⟨t503, t504⟩, A68, H⟩ := H
    (try dsimp only at H)
    have HC69 := Aside0.mk H
    clear H
    try go_wp2
    replace HO_7 := Aside0.mk (Kd.R_drew HO_7.out)
    replace HO_10 := Aside0.mk (Kd.R_drew HO_10.out)
    replace HO_450009 := Aside0.mk (Kd.R_drew HO_450009.out)
    replace HO_466009 := Aside0.mk (Kd.R_drew HO_466009.out)
    replace HO_485009 := Aside0.mk (Kd.R_drew HO_485009.out)
    replace BK414 := Aside0.mk (blk_drew BK414.out)
    replace BK449 := Aside0.mk (blk_drew BK449.out)
    replace BK465 := Aside0.mk (blk_drew BK465.out)
    replace BK484 := Aside0.mk (blk_drew BK484.out)
    replace HB := Aside0.mk (below_drew1 HB.out)
    refine start_ (n := 5) (S := fun w' => w'.cell? ⟨gb465, 0, none⟩ = some (.int .i64 t450) ∧ w'.cell? ⟨gb465, 1, none⟩ = some (.int .i64 t451) ∧ w'.cell? ⟨gb465, 2, none⟩ = some (.int .i64 t452) ∧ w'.cell? ⟨gb465, 3, none⟩ = some (.int .i64 t453) ∧ w'.cell? ⟨gb465, 4, none⟩ = some (.string t454) ∧ w'.cell? ⟨gb465, 5, none⟩ = some (.int .i64 t455) ∧ w'.cell? ⟨gb465, 6, none⟩ = some (.int .i64 t456) ∧ w'.cell? ⟨gb465, 7, none⟩ = some (.bool t457) ∧ w'.cell? ⟨gb465, 8, none⟩ = some (.string t458) ∧ w'.cell? ⟨gb465, 9, none⟩ = some (.slice Ao31 t459.length co31) ∧ w'.cell? ⟨gb465, 10, none⟩ = some (.bool t462) ∧ w'.cell? ⟨gb465, 11, none⟩ = some (.int .i64 t463) ∧ w'.cell? ⟨gb465, 12, none⟩ = some (.int .i64 t464) ∧ w'.cell? ⟨gb414, 0, none⟩ = some (.int .i64 a0_0) ∧ w'.cell? ⟨gb414, 1, none⟩ = some (.int .i64 a0_1) ∧ w'.cell? ⟨gb414, 2, none⟩ = some (.int .i64 a0_2) ∧ w'.cell? ⟨gb414, 3, none⟩ = some (.int .i64 a0_3) ∧ w'.cell? ⟨gb414, 4, none⟩ = some (.string a0_4) ∧ w'.cell? ⟨gb414, 5, none⟩ = some (.int .i64 a0_5) ∧ w'.cell? ⟨gb414, 6, none⟩ = some (.int .i64 a0_6) ∧ w'.cell? ⟨gb414, 7, none⟩ = some (.bool a0_7) ∧ w'.cell? ⟨gb414, 8, none⟩ = some (.string a0_8) ∧ w'.cell? ⟨gb414, 9, none⟩ = some (.slice A0_9 l0_9.length c0_9) ∧ w'.cell? ⟨gb414, 10, none⟩ = some (.bool a0_10) ∧ w'.cell? ⟨gb414, 11, none⟩ = some (.int .i64 a0_11) ∧ w'.cell? ⟨gb414, 12, none⟩ = some (.int .i64 a0_12)) (ds := []) #[false, false, false, false, false] B14x33_ rfl rfl ⟨(blk_cell BK465.out 0).trans rfl, (blk_cell BK465.out 1).trans rfl, (blk_cell BK465.out 2).trans rfl, (blk_cell BK465.out 3).trans rfl, (blk_cell BK465.out 4).trans rfl, (blk_cell BK465.out 5).trans rfl, (blk_cell BK465.out 6).trans rfl, (blk_cell BK465.out 7).trans rfl, (blk_cell BK465.out 8).trans rfl, (blk_cell BK465.out 9).trans rfl, (blk_cell BK465.out 10).trans rfl, (blk_cell BK465.out 11).trans rfl, (blk_cell BK465.out 12).trans rfl, (blk_cell BK414.out 0).trans rfl, (blk_cell BK414.out 1).trans rfl, (blk_cell BK414.out 2).trans rfl, (blk_cell BK414.out 3).trans rfl, (blk_cell BK414.out 4).trans rfl, (blk_cell BK414.out 5).trans rfl, (blk_cell BK414.out 6).trans rfl, (blk_cell BK414.out 7).trans rfl, (blk_cell BK414.out 8).trans rfl, (blk_cell BK414.out 9).trans rfl, (blk_cell BK414.out 10).trans rfl, (blk_cell BK414.out 11).trans rfl, (blk_cell BK414.out 12).trans rfl⟩ (fun hHeld => ?_)
    generalize wc.drew = w70 at HO_7 HO_10 HO_450009 HO_466009 HO_485009 BK414 BK449 BK465 BK484 HB hHeld ⊢
    refine take_ (i := 0) (N := some 46) (v := ?_) (a' := ?_) #[true, false, false, false, false] rfl rfl B14x33_ (fun _ _ _ h => h) (Or.inl ⟨by rfl, ?_⟩) hHeld ?_ ?_
    rotate_left
    ·rintro w' ⟨s0, s1, s2, s3, s4, s5, s6, s7, s8, s9, s10, s11, s12, s13, s14, s15, s16, s17, s18, s19, s20, s21, s22, s23, s24, s25⟩
     go_simp
     with_reducible rfl
    rotate_left
    ·simp only [Act.put, List.setIfInBounds_toArray, List.set_cons_zero, List.set_cons_succ, i64_w, i32_w]
     rfl
    refine take_ (i := 1) (N := some 47) (v := ?_) (a' := ?_) #[true, true, false, false, false] rfl rfl B14x33_ (fun _ _ _ h => h) (Or.inl ⟨by rfl, ?_⟩) hHeld ?_ ?_
    rotate_left
    ·rintro w' ⟨s0, s1, s2, s3, s4, s5, s6, s7, s8, s9, s10, s11, s12, s13, s14, s15, s16, s17, s18, s19, s20, s21, s22, s23, s24, s25⟩
     go_simp
     with_reducible rfl
    rotate_left
    ·simp only [Act.put, List.setIfInBounds_toArray, List.set_cons_zero, List.set_cons_succ, i64_w, i32_w]
     rfl
    refine one_ (i := 2) (N := some 48) #[true, true, true, false, false] rfl rfl B14x33_ (by decide) (fun K hK => ?_)
    refine goes_ Try.func20 B14x33_ rfl #[.agg #[.int .i64 a0_0, .int .i64 a0_1, .int .i64 a0_2, .int .i64 a0_3, .string a0_4, .int .i64 a0_5, .int .i64 a0_6, .bool a0_7, .string a0_8, .slice A0_9 l0_9.length c0_9, .bool a0_10, .int .i64 a0_11, .int .i64 a0_12]] (by rfl) rfl rfl B14x1_ ?_
    with_reducible refine (laws_toStream.calls kj11 a0_0 a0_1 a0_2 a0_3 a0_4 a0_5 a0_6 a0_7 a0_8 _ _ l0_9 a0_10 a0_11 a0_12 t487 t488 t489 t490 t491 t492 t493 t494 t495 t496 t499 t500 t501 _ ?side1 ?side2 A65.out).mono ?_
    (case side1 => exact B14x13_)
    (case side2 => exact HC0_9.out)
    rintro e w71 ⟨v497, rfl, ho0, hb⟩
    refine ⟨_, rfl, ?_⟩
    replace HO_7 := Aside0.mk (Kd.R_below B14x7_ hb)
    replace HO_10 := Aside0.mk (Kd.R_below B14x3_ hb)
    have HO498 := Aside0.mk (Kd.R_lower (Kd.R_new' (Kd.R_new' (Kd.R_new' ho0 (Kd.R_lt B14x4_)) (Kd.R_lt B14x5_)) (Kd.R_lt B14x6_)) (below_size B14x0_))
    replace HO_450009 := Aside0.mk (Kd.R_elder' B14x4_ (Kd.R_base ho0) hb)
    replace HO_466009 := Aside0.mk (Kd.R_elder' B14x5_ (Kd.R_base ho0) hb)
    replace HO_485009 := Aside0.mk (Kd.R_elder' B14x6_ (Kd.R_base ho0) hb)
    replace BK414 := Aside0.mk (bb BK414.out hb)
    replace BK449 := Aside0.mk (bb BK449.out hb)
    replace BK465 := Aside0.mk (bb BK465.out hb)
    replace BK484 := Aside0.mk (bb BK484.out hb)
    replace HB := Aside0.mk (below_step B14x0_ hb)
    (try clear hb)
    (try clear hb2)
    (try clear hk)
    (try clear hi)
    (try clear ho0)
    obtain ⟨Ao72, co72, eo72⟩ := Kd.R_slice HO498.out
    (first | subst eo72 | (injection eo72 with f1_ f2_ f3_; have f4_ := f1_.symm; have f5_ := f3_.symm; clear f1_ f2_ f3_; subst f4_; subst f5_))
    refine hK.out _ _ ⟨(blk_cell BK465.out 0).trans rfl, (blk_cell BK465.out 1).trans rfl, (blk_cell BK465.out 2).trans rfl, (blk_cell BK465.out 3).trans rfl, (blk_cell BK465.out 4).trans rfl, (blk_cell BK465.out 5).trans rfl, (blk_cell BK465.out 6).trans rfl, (blk_cell BK465.out 7).trans rfl, (blk_cell BK465.out 8).trans rfl, (blk_cell BK465.out 9).trans rfl, (blk_cell BK465.out 10).trans rfl, (blk_cell BK465.out 11).trans rfl, (blk_cell BK465.out 12).trans rfl, (blk_cell BK414.out 0).trans rfl, (blk_cell BK414.out 1).trans rfl, (blk_cell BK414.out 2).trans rfl, (blk_cell BK414.out 3).trans rfl, (blk_cell BK414.out 4).trans rfl, (blk_cell BK414.out 5).trans rfl, (blk_cell BK414.out 6).trans rfl, (blk_cell BK414.out 7).trans rfl, (blk_cell BK414.out 8).trans rfl, (blk_cell BK414.out 9).trans rfl, (blk_cell BK414.out 10).trans rfl, (blk_cell BK414.out 11).trans rfl, (blk_cell BK414.out 12).trans rfl⟩ (fun hHeld => ?_)
    clear hK K
    refine norm_ (a' := ?_) ?_ ?_
    rotate_left
    ·show Act.put _ (some 48) _ = _
     simp only [Act.put, List.setIfInBounds_toArray, List.set_cons_zero, List.set_cons_succ, i64_w, i32_w]
     rfl
    refine one_ (i := 3) (N := some 49) #[true, true, true, true, false] rfl rfl B14x33_ (by decide) (fun K hK => ?_)
    refine goes_ Try.func22 B14x33_ rfl #[.agg #[.int .i64 t450, .int .i64 t451, .int .i64 t452, .int .i64 t453, .string t454, .int .i64 t455, .int .i64 t456, .bool t457, .string t458, .slice Ao31 t459.length co31, .bool t462, .int .i64 t463, .int .i64 t464], .agg #[.int .i64 t487, .int .i64 t488, .int .i64 t489, .int .i64 t490, .string t491, .int .i64 t492, .int .i64 t493, .bool t494, .string t495, .slice Ao72 t496.length co72, .bool t499, .int .i64 t500, .int .i64 t501]] (by rfl) rfl rfl B14x1_ ?_
    with_reducible refine (laws_eqStream.calls kj11 t450 t451 t452 t453 t454 t455 t456 t457 t458 _ _ t459 t462 t463 t464 t487 t488 t489 t490 t491 t492 t493 t494 t495 _ _ t496 t499 t500 t501 true _ ?side1 ?side2 ?side3 ?side4 A66.out).mono ?_
    (case side1 => repeat (first | exact (Kd.R_reads' HO_466009.out).2.2 | (with_reducible refine Kd.C_alloc ?_ _) | (with_reducible refine Kd.C_drewN ?_ _) | (with_reducible refine Kd.C_drew ?_)))
    (case side2 => exact (Kd.R_reads' HO_466009.out).2.1)
    (case side3 => repeat (first | exact (Kd.R_reads' HO498.out).2.2 | (with_reducible refine Kd.C_alloc ?_ _) | (with_reducible refine Kd.C_drewN ?_ _) | (with_reducible refine Kd.C_drew ?_)))
    (case side4 => exact (Kd.R_reads' HO498.out).2.1)
    rintro e w73 ⟨rfl, hb⟩
    refine ⟨_, rfl, ?_⟩
    replace HO_7 := Aside0.mk (Kd.R_below B14x7_ hb)
    replace HO_10 := Aside0.mk (Kd.R_below B14x3_ hb)
    replace HO_450009 := Aside0.mk (Kd.R_below B14x4_ hb)
    replace HO_466009 := Aside0.mk (Kd.R_below B14x5_ hb)
    replace HO_485009 := Aside0.mk (Kd.R_below B14x6_ hb)
    replace HO498 := Aside0.mk (Kd.R_below B14x27_ hb)
    replace BK414 := Aside0.mk (bb BK414.out hb)
    replace BK449 := Aside0.mk (bb BK449.out hb)
    replace BK465 := Aside0.mk (bb BK465.out hb)
    replace BK484 := Aside0.mk (bb BK484.out hb)
    replace HB := Aside0.mk (below_step B14x0_ hb)
    (try clear hb)
    (try clear hb2)
    (try clear hk)
    (try clear hi)
    refine hK.out _ _ ⟨(blk_cell BK465.out 0).trans rfl, (blk_cell BK465.out 1).trans rfl, (blk_cell BK465.out 2).trans rfl, (blk_cell BK465.out 3).trans rfl, (blk_cell BK465.out 4).trans rfl, (blk_cell BK465.out 5).trans rfl, (blk_cell BK465.out 6).trans rfl, (blk_cell BK465.out 7).trans rfl, (blk_cell BK465.out 8).trans rfl, (blk_cell BK465.out 9).trans rfl, (blk_cell BK465.out 10).trans rfl, (blk_cell BK465.out 11).trans rfl, (blk_cell BK465.out 12).trans rfl, (blk_cell BK414.out 0).trans rfl, (blk_cell BK414.out 1).trans rfl, (blk_cell BK414.out 2).trans rfl, (blk_cell BK414.out 3).trans rfl, (blk_cell BK414.out 4).trans rfl, (blk_cell BK414.out 5).trans rfl, (blk_cell BK414.out 6).trans rfl, (blk_cell BK414.out 7).trans rfl, (blk_cell BK414.out 8).trans rfl, (blk_cell BK414.out 9).trans rfl, (blk_cell BK414.out 10).trans rfl, (blk_cell BK414.out 11).trans rfl, (blk_cell BK414.out 12).trans rfl⟩ (fun hHeld => ?_)
    clear hK K
    refine norm_ (a' := ?_) ?_ ?_
    rotate_left
    ·show Act.put _ (some 49) _ = _
     simp only [Act.put, List.setIfInBounds_toArray, List.set_cons_zero, List.set_cons_succ, i64_w, i32_w]
     rfl
    refine pure_ (i := 4) (N := some 50) (v := ?_) (a' := ?_) #[true, true, true, true, true] rfl rfl B14x33_ (fun _ _ _ h => h) (Or.inl ⟨by rfl, ?_⟩) ?_ ?_
    rotate_left
    ·intro w'
     go_simp
     with_reducible rfl
    rotate_left
    ·simp only [Act.put, List.setIfInBounds_toArray, List.set_cons_zero, List.set_cons_succ, i64_w, i32_w]
     rfl
    refine done_ B14x33_ ?_
    have hnb74 := NB465_414.out
    have hnc74 := NB414_465.out
    have hnb75 := NB465_449.out
    have hnc75 := NB449_465.out
    have hnb76 := NB465_484.out
    have hnc76 := NB484_465.out
    obtain ⟨hcz77_0, hcz77_1, hcz77_2, hcz77_3, hcz77_4, hcz77_5, hcz77_6, hcz77_7, hcz77_8, hcz77_9, hcz77_10, hcz77_11, hcz77_12⟩ := cl13 BK465.out
    obtain ⟨hfz77_0, hfz77_1, hfz77_2, hfz77_3, hfz77_4, hfz77_5, hfz77_6, hfz77_7, hfz77_8, hfz77_9, hfz77_10, hfz77_11, hfz77_12⟩ := fr13 BK465.out
    go_upto_region 14 with (first | ((with_reducible refine gate_callee (f := 24) rfl ?_); refine goesL_ (some 53) rfl rfl Try.func24 B14x33_ rfl #[.agg #[.int .i64 t450, .int .i64 t451, .int .i64 t452, .int .i64 t453, .string t454, .int .i64 t455, .int .i64 t456, .bool t457, .string t458, .slice Ao31 t459.length co31, .bool t462, .int .i64 t463, .int .i64 t464], .int .i64 1] rfl B14x1_ ?_; (with_reducible refine (laws_markStream.calls kj11 t450 t451 t452 t453 t454 t455 t456 t457 t458 (fun k_ => some k_ = (.slice Ao31 t459.length co31 : Value).ownBlock) (.slice Ao31 t459.length co31) t459 t462 t463 t464 1 t503 t504 w _ ?side1 ?side2 A68.out).mono ?_); (case side1 => exact B14x0_); (case side2 => exact Kd.R_tight rfl HO_466009.out); rintro e w78 ⟨rfl, hy0, hb, hkp⟩; refine ⟨_, rfl, ?_⟩; replace HO_7 := Aside0.mk (Kd.R_mono (ok' := fun k_ => some k_ ≠ (v482 : Value).ownBlock) (Kd.R_keptB ((Kd.R_apart' HO_7.out (Kd.R_typed HO_466009.out) (by decide))) hkp (fun k_ hk_ hs_ => (hk_.2) hs_)) (fun k_ hk_ => hk_.1.1)); replace HO_10 := Aside0.mk (Kd.R_mono (ok' := fun k_ => some k_ ≠ (v447 : Value).ownBlock) (Kd.R_keptB ((Kd.R_apart' HO_10.out (Kd.R_typed HO_466009.out) (by decide))) hkp (fun k_ hk_ hs_ => (hk_.2) hs_)) (fun k_ hk_ => hk_.1.1)); replace HO_450009 := Aside0.mk (Kd.R_mono (ok' := fun k_ => some k_ ≠ (.slice Ao31 t459.length co31 : Value).ownBlock ∧ some k_ ≠ (.slice Ao40 t475.length co40 : Value).ownBlock ∧ some k_ ≠ (.slice Ao72 t496.length co72 : Value).ownBlock) (Kd.R_keptB (HO_450009.out) hkp (fun k_ hk_ hs_ => (hk_.1.1) hs_)) (fun k_ hk_ => ⟨hk_.1.1.1, hk_.1.1.2, hk_.1.2⟩)); replace HO_485009 := Aside0.mk (Kd.R_mono (ok' := fun k_ => some k_ ≠ (.slice Ao23 t440.length co23 : Value).ownBlock ∧ some k_ ≠ (.slice Ao31 t459.length co31 : Value).ownBlock ∧ some k_ ≠ (.slice Ao72 t496.length co72 : Value).ownBlock) (Kd.R_keptB (HO_485009.out) hkp (fun k_ hk_ hs_ => (hk_.1.2) hs_)) (fun k_ hk_ => ⟨hk_.1.1.1, hk_.1.1.2, hk_.1.2⟩)); replace BK414 := Aside0.mk (blk_kept B14x14_ hkp (fun hs_ => (fun e_ => (Kd.R_ne HO_466009.out BK414.out (by decide)) e_) hs_)); replace BK449 := Aside0.mk (blk_kept B14x15_ hkp (fun hs_ => (fun e_ => (Kd.R_ne HO_466009.out BK449.out (by decide)) e_) hs_)); replace BK465 := Aside0.mk (blk_kept B14x16_ hkp (fun hs_ => (fun e_ => (Kd.R_ne HO_466009.out BK465.out (by decide)) e_) hs_)); replace BK484 := Aside0.mk (blk_kept B14x17_ hkp (fun hs_ => (fun e_ => (Kd.R_ne HO_466009.out BK484.out (by decide)) e_) hs_)); replace HO_466009 := Aside0.mk (Kd.R_reok rfl hy0 (fun k_ e_ => HO_466009.out.1 k_ e_)); replace HO498 := Aside0.mk (Kd.R_mono (ok' := fun k_ => some k_ ≠ (.slice Ao23 t440.length co23 : Value).ownBlock ∧ some k_ ≠ (.slice Ao31 t459.length co31 : Value).ownBlock ∧ some k_ ≠ (.slice Ao40 t475.length co40 : Value).ownBlock) (Kd.R_keptB (HO498.out) hkp (fun k_ hk_ hs_ => (hk_.1.2) hs_)) (fun k_ hk_ => ⟨hk_.1.1.1.2, hk_.1.1.2, hk_.1.2⟩)); replace HB := Aside0.mk (hb); (try clear hb); (try clear hkp); (try clear hy0)))
    (try simp only [Act.put, List.setIfInBounds_toArray, List.set_cons_zero, List.set_cons_succ])
    go_cut [67] (fun v67 wc => ∃ (kq : Nat) (x67_68 : Bool), v67 = .bool x67_68 ∧ Aside0 (laws_FnExactPush.j1 kq a1 t446 t481 x67_68 a0_0 a0_1 a0_2 a0_3 a0_4 a0_5 a0_6 a0_7 a0_8 l0_9 a0_10 a0_11 a0_12 t431 t432 t433 t434 t435 t436 t437 t438 t439 t440 t443 t444 t445 t466 t467 t468 t469 t470 t471 t472 t473 t474 t475 t478 t479 t480 = some r) ∧ Aside0 (kq ≤ kj11) ∧ Aside0 (Kd.R k28 28 wc w.heap.size (fun k_ => some k_ ≠ (v482 : Value).ownBlock) v447 t446) ∧ Aside0 (Kd.R k28 28 wc w.heap.size (fun k_ => some k_ ≠ (v447 : Value).ownBlock) v482 t481) ∧ Aside0 (Kd.R k143 143 wc w.heap.size (fun k_ => some k_ ≠ ((.slice Ao31 t459.length co31) : Value).ownBlock ∧ some k_ ≠ ((.slice Ao40 t475.length co40) : Value).ownBlock) (.slice Ao23 t440.length co23) t440) ∧ Aside0 (Kd.R k143 143 wc w.heap.size (fun k_ => some k_ ≠ ((.slice Ao23 t440.length co23) : Value).ownBlock ∧ some k_ ≠ ((.slice Ao40 t475.length co40) : Value).ownBlock) (.slice Ao31 t459.length co31) t504) ∧ Aside0 (Kd.R k143 143 wc w.heap.size (fun k_ => some k_ ≠ ((.slice Ao23 t440.length co23) : Value).ownBlock ∧ some k_ ≠ ((.slice Ao31 t459.length co31) : Value).ownBlock) (.slice Ao40 t475.length co40) t475) ∧ Aside0 (wc.heap[gb414]? = some (.cells #[.int .i64 a0_0, .int .i64 a0_1, .int .i64 a0_2, .int .i64 a0_3, .string a0_4, .int .i64 a0_5, .int .i64 a0_6, .bool a0_7, .string a0_8, (.slice A0_9 l0_9.length c0_9), .bool a0_10, .int .i64 a0_11, .int .i64 a0_12] 35 (0, 0))) ∧ Aside0 (wc.heap[gb449]? = some (.cells #[.int .i64 t431, .int .i64 t432, .int .i64 t433, .int .i64 t434, .string t435, .int .i64 t436, .int .i64 t437, .bool t438, .string t439, (.slice Ao23 t440.length co23), .bool t443, .int .i64 t444, .int .i64 t445] 39 (0, 0))) ∧ Aside0 (wc.heap[gb465]? = some (.cells #[.int .i64 t450, .int .i64 t451, .int .i64 t452, .int .i64 t453, .string t454, .int .i64 t455, .int .i64 t456, .bool t457, .string t458, (.slice Ao31 t459.length co31), .bool t462, .int .i64 t463, .int .i64 t464] 39 (0, 0))) ∧ Aside0 (wc.heap[gb484]? = some (.cells #[.int .i64 t466, .int .i64 t467, .int .i64 t468, .int .i64 t469, .string t470, .int .i64 t471, .int .i64 t472, .bool t473, .string t474, (.slice Ao40 t475.length co40), .bool t478, .int .i64 t479, .int .i64 t480] 39 (0, 0))) ∧ Aside0 (Below w.heap.size w wc))
    case first =>
     have H := HC69.out
     clear HC69
     by_cases c79 : t503 < 0
     ·rw [if_pos c79] at H
      have c79b0 : decide (t503 < 0) = true := decide_eq_true c79
      clear c79
      (first | rw [c79b0] | (simp only [i64_w, i32_w]; rw [c79b0]) | skip)
      have H' := Aside0.mk H
      clear H
      go_wp2
      go_meet
      case rel => exact ⟨_, (true), (be_), H', ⟨B14x53_⟩, ⟨B14x7_⟩, ⟨B14x3_⟩, ⟨B14x31_⟩, ⟨B14x30_⟩, ⟨B14x32_⟩, ⟨B14x14_⟩, ⟨B14x15_⟩, ⟨B14x16_⟩, ⟨B14x17_⟩, ⟨B14x0_⟩⟩
     ·rw [if_neg c79] at H
      have c79b0 : decide (t503 < 0) = false := decide_eq_false c79
      clear c79
      (first | rw [c79b0] | (simp only [i64_w, i32_w]; rw [c79b0]) | skip)
      replace H := bsi H
      obtain ⟨t505, A80, H⟩ := H
      (try dsimp only at H)
      by_cases c81 : t505 = true
      ·subst c81
       rw [if_pos rfl] at H
       replace H := bsi H
       obtain ⟨t506, A82, H⟩ := H
       (try dsimp only at H)
       have H' := Aside0.mk H
       clear H
       have hnb83 := NB484_414.out
       have hnc83 := NB414_484.out
       have hnb84 := NB484_449.out
       have hnc84 := NB449_484.out
       have hnb85 := NB484_465.out
       have hnc85 := NB465_484.out
       obtain ⟨hcz86_0, hcz86_1, hcz86_2, hcz86_3, hcz86_4, hcz86_5, hcz86_6, hcz86_7, hcz86_8, hcz86_9, hcz86_10, hcz86_11, hcz86_12⟩ := cl13 BK484.out
       obtain ⟨hfz86_0, hfz86_1, hfz86_2, hfz86_3, hfz86_4, hfz86_5, hfz86_6, hfz86_7, hfz86_8, hfz86_9, hfz86_10, hfz86_11, hfz86_12⟩ := fr13 BK484.out
       have hnb87 := NB449_414.out
       have hnc87 := NB414_449.out
       have hnb88 := NB449_465.out
       have hnc88 := NB465_449.out
       obtain ⟨hcz89_0, hcz89_1, hcz89_2, hcz89_3, hcz89_4, hcz89_5, hcz89_6, hcz89_7, hcz89_8, hcz89_9, hcz89_10, hcz89_11, hcz89_12⟩ := cl13 BK449.out
       obtain ⟨hfz89_0, hfz89_1, hfz89_2, hfz89_3, hfz89_4, hfz89_5, hfz89_6, hfz89_7, hfz89_8, hfz89_9, hfz89_10, hfz89_11, hfz89_12⟩ := fr13 BK449.out
       go_wp2_with (first | (go_at_call 22; (with_reducible refine (laws_eqStream.calls kj11 t466 t467 t468 t469 t470 t471 t472 t473 t474 _ _ t475 t478 t479 t480 t431 t432 t433 t434 t435 t436 t437 t438 t439 _ _ t440 t443 t444 t445 true _ ?side1 ?side2 ?side3 ?side4 A80.out).mono ?_); (case side1 => exact B14x21_); (case side2 => exact (Kd.R_reads' HO_485009.out).2.1); (case side3 => exact B14x20_); (case side4 => exact (Kd.R_reads' HO_450009.out).2.1); rintro e w90 ⟨rfl, hb⟩; replace HO_7 := Aside0.mk (Kd.R_below B14x7_ hb); replace HO_10 := Aside0.mk (Kd.R_below B14x3_ hb); replace HO_450009 := Aside0.mk (Kd.R_below B14x4_ hb); replace HO_466009 := Aside0.mk (Kd.R_below B14x5_ hb); replace HO_485009 := Aside0.mk (Kd.R_below B14x6_ hb); replace HO498 := Aside0.mk (Kd.R_below B14x27_ hb); replace BK414 := Aside0.mk (bb BK414.out hb); replace BK449 := Aside0.mk (bb BK449.out hb); replace BK465 := Aside0.mk (bb BK465.out hb); replace BK484 := Aside0.mk (bb BK484.out hb); replace HB := Aside0.mk (below_step B14x0_ hb); (try clear hb); obtain ⟨Ao91, co91, eo91⟩ := Kd.R_slice HO_10.out; subst eo91; obtain ⟨Ao92, co92, eo92⟩ := Kd.R_slice HO_7.out; subst eo92) | (go_at_call 23; (with_reducible refine (laws_eqSegS.calls kj11 _ _ t481 _ _ t446 t506 _ ?side1 ?side2 ?side3 ?side4 A82.out).mono ?_); (case side1 => exact B14x25_); (case side2 => exact (Kd.R_reads' HO_10.out).2.1); (case side3 => exact B14x41_); (case side4 => exact (Kd.R_reads' HO_7.out).2.1); rintro e w93 ⟨rfl, hb⟩; replace HO_7 := Aside0.mk (Kd.R_below B14x7_ hb); replace HO_10 := Aside0.mk (Kd.R_below B14x3_ hb); replace HO_450009 := Aside0.mk (Kd.R_below B14x4_ hb); replace HO_466009 := Aside0.mk (Kd.R_below B14x5_ hb); replace HO_485009 := Aside0.mk (Kd.R_below B14x6_ hb); replace HO498 := Aside0.mk (Kd.R_below B14x27_ hb); replace BK414 := Aside0.mk (bb BK414.out hb); replace BK449 := Aside0.mk (bb BK449.out hb); replace BK465 := Aside0.mk (bb BK465.out hb); replace BK484 := Aside0.mk (bb BK484.out hb); replace HB := Aside0.mk (below_step B14x0_ hb); (try clear hb)))
       go_meet
       case rel => exact ⟨_, (!t506), (be_), H', ⟨B14x53_⟩, ⟨B14x7_⟩, ⟨B14x3_⟩, ⟨B14x31_⟩, ⟨B14x30_⟩, ⟨B14x32_⟩, ⟨B14x14_⟩, ⟨B14x15_⟩, ⟨B14x16_⟩, ⟨B14x17_⟩, ⟨B14x0_⟩⟩
      ·replace c81 := Bool.eq_false_iff.mpr c81
       subst c81
       rw [if_neg (show ¬ (false = true) by decide)] at H
       have H' := Aside0.mk H
       clear H
       have hnb94 := NB484_414.out
       have hnc94 := NB414_484.out
       have hnb95 := NB484_449.out
       have hnc95 := NB449_484.out
       have hnb96 := NB484_465.out
       have hnc96 := NB465_484.out
       obtain ⟨hcz97_0, hcz97_1, hcz97_2, hcz97_3, hcz97_4, hcz97_5, hcz97_6, hcz97_7, hcz97_8, hcz97_9, hcz97_10, hcz97_11, hcz97_12⟩ := cl13 BK484.out
       obtain ⟨hfz97_0, hfz97_1, hfz97_2, hfz97_3, hfz97_4, hfz97_5, hfz97_6, hfz97_7, hfz97_8, hfz97_9, hfz97_10, hfz97_11, hfz97_12⟩ := fr13 BK484.out
       have hnb98 := NB449_414.out
       have hnc98 := NB414_449.out
       have hnb99 := NB449_465.out
       have hnc99 := NB465_449.out
       obtain ⟨hcz100_0, hcz100_1, hcz100_2, hcz100_3, hcz100_4, hcz100_5, hcz100_6, hcz100_7, hcz100_8, hcz100_9, hcz100_10, hcz100_11, hcz100_12⟩ := cl13 BK449.out
       obtain ⟨hfz100_0, hfz100_1, hfz100_2, hfz100_3, hfz100_4, hfz100_5, hfz100_6, hfz100_7, hfz100_8, hfz100_9, hfz100_10, hfz100_11, hfz100_12⟩ := fr13 BK449.out
       go_wp2_with (first | (go_at_call 22; (with_reducible refine (laws_eqStream.calls kj11 t466 t467 t468 t469 t470 t471 t472 t473 t474 _ _ t475 t478 t479 t480 t431 t432 t433 t434 t435 t436 t437 t438 t439 _ _ t440 t443 t444 t445 false _ ?side1 ?side2 ?side3 ?side4 A80.out).mono ?_); (case side1 => exact B14x21_); (case side2 => exact (Kd.R_reads' HO_485009.out).2.1); (case side3 => exact B14x20_); (case side4 => exact (Kd.R_reads' HO_450009.out).2.1); rintro e w101 ⟨rfl, hb⟩; replace HO_7 := Aside0.mk (Kd.R_below B14x7_ hb); replace HO_10 := Aside0.mk (Kd.R_below B14x3_ hb); replace HO_450009 := Aside0.mk (Kd.R_below B14x4_ hb); replace HO_466009 := Aside0.mk (Kd.R_below B14x5_ hb); replace HO_485009 := Aside0.mk (Kd.R_below B14x6_ hb); replace HO498 := Aside0.mk (Kd.R_below B14x27_ hb); replace BK414 := Aside0.mk (bb BK414.out hb); replace BK449 := Aside0.mk (bb BK449.out hb); replace BK465 := Aside0.mk (bb BK465.out hb); replace BK484 := Aside0.mk (bb BK484.out hb); replace HB := Aside0.mk (below_step B14x0_ hb); (try clear hb)))
       go_meet
       case rel => exact ⟨_, (true), (be_), H', ⟨B14x53_⟩, ⟨B14x7_⟩, ⟨B14x3_⟩, ⟨B14x31_⟩, ⟨B14x30_⟩, ⟨B14x32_⟩, ⟨B14x14_⟩, ⟨B14x15_⟩, ⟨B14x16_⟩, ⟨B14x17_⟩, ⟨B14x0_⟩⟩
    case rest =>
     clear HC69
     try clear c64
     try clear c67
     try clear hcz77_0
     try clear hcz77_1
     try clear hcz77_10
     try clear hcz77_11
     try clear hcz77_12
     try clear hcz77_2
     try clear hcz77_3
     try clear hcz77_4
     try clear hcz77_5
     try clear hcz77_6
     try clear hcz77_7
     try clear hcz77_8
     try clear hcz77_9
     try clear hfz14_0
     try clear hfz14_1
     try clear hfz14_10
     try clear hfz14_11
     try clear hfz14_12
     try clear hfz14_2
     try clear hfz14_3
     try clear hfz14_4
     try clear hfz14_5
     try clear hfz14_6
     try clear hfz14_7
     try clear hfz14_8
     try clear hfz14_9
     try clear hfz16_0
     try clear hfz16_1
     try clear hfz16_10
     try clear hfz16_11
     try clear hfz16_12
     try clear hfz16_2
     try clear hfz16_3
     try clear hfz16_4
     try clear hfz16_5
     try clear hfz16_6
     try clear hfz16_7
     try clear hfz16_8
     try clear hfz16_9
     try clear hfz22_0
     try clear hfz22_1
     try clear hfz22_10
     try clear hfz22_11
     try clear hfz22_12
     try clear hfz22_2
     try clear hfz22_3
     try clear hfz22_4
     try clear hfz22_5
     try clear hfz22_6
     try clear hfz22_7
     try clear hfz22_8
     try clear hfz22_9
     try clear hfz25_0
     try clear hfz25_1
     try clear hfz25_10
     try clear hfz25_11
     try clear hfz25_12
     try clear hfz25_2
     try clear hfz25_3
     try clear hfz25_4
     try clear hfz25_5
     try clear hfz25_6
     try clear hfz25_7
     try clear hfz25_8
     try clear hfz25_9
     try clear hfz30_0
     try clear hfz30_1
     try clear hfz30_10
     try clear hfz30_11
     try clear hfz30_12
     try clear hfz30_2
     try clear hfz30_3
     try clear hfz30_4
     try clear hfz30_5
     try clear hfz30_6
     try clear hfz30_7
     try clear hfz30_8
     try clear hfz30_9
     try clear hfz33_0
     try clear hfz33_1
     try clear hfz33_10
     try clear hfz33_11
     try clear hfz33_12
     try clear hfz33_2
     try clear hfz33_3
     try clear hfz33_4
     try clear hfz33_5
     try clear hfz33_6
     try clear hfz33_7
     try clear hfz33_8
     try clear hfz33_9
     try clear hfz39_0
     try clear hfz39_1
     try clear hfz39_10
     try clear hfz39_11
     try clear hfz39_12
     try clear hfz39_2
     try clear hfz39_3
     try clear hfz39_4
     try clear hfz39_5
     try clear hfz39_6
     try clear hfz39_7
     try clear hfz39_8
     try clear hfz39_9
     try clear hfz77_0
     try clear hfz77_1
     try clear hfz77_10
     try clear hfz77_11
     try clear hfz77_12
     try clear hfz77_2
     try clear hfz77_3
     try clear hfz77_4
     try clear hfz77_5
     try clear hfz77_6
     try clear hfz77_7
     try clear hfz77_8
     try clear hfz77_9
     obtain ⟨kq, x67_68, rfl, HA, HJ68, HO_7, HO_10, HO_450009, HO_466009, HO_485009, BK414, BK449, BK465, BK484, HB⟩ := hcut
     have hl466009_68 := (Kd.R_reads' HO_466009.out).1
     rw [hl466009_68] at HO_466009
     (try simp only [hl466009_68])
     (try simp only [hl466009_68] at BK414)
     (try simp only [hl466009_68] at BK449)
     (try simp only [hl466009_68] at BK465)
     (try simp only [hl466009_68] at BK484)
     (try simp only [hl466009_68] at HO_7)
     (try simp only [hl466009_68] at HO_10)
     (try simp only [hl466009_68] at HO_450009)
     (try simp only [hl466009_68] at HO_485009)
     cases kq with
     | zero => exact absurd HA.out (by simp [laws_FnExactPush.j1])
     | succ kj68 =>
      have H := HA.out
      clear HA
      simp only [laws_FnExactPush.j1] at H
      by_cases c102 : x67_68 = true
      ·subst c102
       rw [if_pos rfl] at H
       exact absurd ((Option.some.inj H).trans hr_.out) (by decide)
      replace c102 := Bool.eq_false_iff.mpr c102
      subst c102
      rw [if_neg (show ¬ (false = true) by decide)] at H
      replace H := bsi H
      obtain ⟨⟨t507, t508⟩, A103, H⟩ := H
      (try dsimp only at H)
      replace H := bsi H
      obtain ⟨⟨t509, t510⟩, A104, H⟩ := H
      (try dsimp only at H)
      replace H := bsi H
      obtain ⟨t511, A105, H⟩ := H
      (try dsimp only at H)
      by_cases c106 : t511 < 0
      ·rw [if_pos c106] at H
       have c106b0 : decide (t511 < 0) = true := decide_eq_true c106
       clear c106
       exact absurd ((Option.some.inj H).trans hr_.out) (by decide)
      rw [if_neg c106] at H
      have c106b0 : decide (t511 < 0) = false := decide_eq_false c106
      clear c106
      replace H := bsi H
      obtain ⟨t512, A107, H⟩ := H
      (try dsimp only at H)
      by_cases c108 : t512 < 0
      ·rw [if_pos c108] at H
       have c108b0 : decide (t512 < 0) = true := decide_eq_true c108
       clear c108
       exact absurd ((Option.some.inj H).trans hr_.out) (by decide)
      rw [if_neg c108] at H
      have c108b0 : decide (t512 < 0) = false := decide_eq_false c108
      clear c108
      by_cases c109 : t512 = t509
      rotate_left
      ·rw [if_neg c109] at H
       have c109b0 := beq_eq_false_iff_ne.mpr c109
       have c109b1 := bne_iff_ne.mpr c109
       exact absurd ((Option.some.inj H).trans hr_.out) (by decide)
      rw [if_pos c109] at H
      have c109b0 := beq_iff_eq.mpr c109
      have c109b1 := bne_eq_false_iff_eq.mpr c109
      clear c109
      replace H := bsi H
      obtain ⟨⟨t513, t514, t515, t516, t517, t518, t519, t520, t521, t522, t525, t526, t527⟩, A110, H⟩ := H
      (try dsimp only at H)
      replace H := bsi H
      obtain ⟨⟨t528, t529, t530, t531, t532, t533, t534, t535, t536, t537, t540, t541, t542, t543⟩, A111, H⟩ := H
      (try dsimp only at H)
      have HC112 := Aside0.mk H
      clear H
      have hnb113 := NB484_414.out
      have hnc113 := NB414_484.out
      have hnb114 := NB484_449.out
      have hnc114 := NB449_484.out
      have hnb115 := NB484_465.out
      have hnc115 := NB465_484.out
      obtain ⟨hcz116_0, hcz116_1, hcz116_2, hcz116_3, hcz116_4, hcz116_5, hcz116_6, hcz116_7, hcz116_8, hcz116_9, hcz116_10, hcz116_11, hcz116_12⟩ := cl13 BK484.out
      obtain ⟨hfz116_0, hfz116_1, hfz116_2, hfz116_3, hfz116_4, hfz116_5, hfz116_6, hfz116_7, hfz116_8, hfz116_9, hfz116_10, hfz116_11, hfz116_12⟩ := fr13 BK484.out
      go_upto_region 29 with (first | ((with_reducible refine gate_callee (f := 24) rfl ?_); refine goesL_ (some 70) rfl rfl Try.func24 B14x33_ rfl #[.agg #[.int .i64 t466, .int .i64 t467, .int .i64 t468, .int .i64 t469, .string t470, .int .i64 t471, .int .i64 t472, .bool t473, .string t474, .slice Ao40 t475.length co40, .bool t478, .int .i64 t479, .int .i64 t480], .int .i64 1] rfl B14x1_ ?_; (with_reducible refine (laws_markStream.calls kj68 t466 t467 t468 t469 t470 t471 t472 t473 t474 (fun k_ => some k_ = (.slice Ao40 t475.length co40 : Value).ownBlock) (.slice Ao40 t475.length co40) t475 t478 t479 t480 1 t507 t508 w _ ?side1 ?side2 A103.out).mono ?_); (case side1 => exact B14x0_); (case side2 => exact Kd.R_tight rfl HO_485009.out); rintro e w117 ⟨rfl, hy0, hb, hkp⟩; refine ⟨_, rfl, ?_⟩; replace HO_7 := Aside0.mk (Kd.R_mono (ok' := fun k_ => some k_ ≠ (v482 : Value).ownBlock) (Kd.R_keptB ((Kd.R_apart' HO_7.out (Kd.R_typed HO_485009.out) (by decide))) hkp (fun k_ hk_ hs_ => (hk_.2) hs_)) (fun k_ hk_ => hk_.1.1)); replace HO_10 := Aside0.mk (Kd.R_mono (ok' := fun k_ => some k_ ≠ (v447 : Value).ownBlock) (Kd.R_keptB ((Kd.R_apart' HO_10.out (Kd.R_typed HO_485009.out) (by decide))) hkp (fun k_ hk_ hs_ => (hk_.2) hs_)) (fun k_ hk_ => hk_.1.1)); replace HO_450009 := Aside0.mk (Kd.R_mono (ok' := fun k_ => some k_ ≠ (.slice Ao31 t504.length co31 : Value).ownBlock ∧ some k_ ≠ (.slice Ao40 t475.length co40 : Value).ownBlock) (Kd.R_keptB (HO_450009.out) hkp (fun k_ hk_ hs_ => (hk_.2) hs_)) (fun k_ hk_ => ⟨hk_.1.1, hk_.1.2⟩)); replace HO_466009 := Aside0.mk (Kd.R_mono (ok' := fun k_ => some k_ ≠ (.slice Ao23 t440.length co23 : Value).ownBlock ∧ some k_ ≠ (.slice Ao40 t475.length co40 : Value).ownBlock) (Kd.R_keptB (HO_466009.out) hkp (fun k_ hk_ hs_ => (hk_.2) hs_)) (fun k_ hk_ => ⟨hk_.1.1, hk_.1.2⟩)); replace BK414 := Aside0.mk (blk_kept B14x14_ hkp (fun hs_ => (fun e_ => (Kd.R_ne HO_485009.out BK414.out (by decide)) e_) hs_)); replace BK449 := Aside0.mk (blk_kept B14x15_ hkp (fun hs_ => (fun e_ => (Kd.R_ne HO_485009.out BK449.out (by decide)) e_) hs_)); replace BK465 := Aside0.mk (blk_kept B14x16_ hkp (fun hs_ => (fun e_ => (Kd.R_ne HO_485009.out BK465.out (by decide)) e_) hs_)); replace BK484 := Aside0.mk (blk_kept B14x17_ hkp (fun hs_ => (fun e_ => (Kd.R_ne HO_485009.out BK484.out (by decide)) e_) hs_)); replace HO_485009 := Aside0.mk (Kd.R_reok rfl hy0 (fun k_ e_ => HO_485009.out.1 k_ e_)); replace HB := Aside0.mk (hb); (try clear hb); (try clear hkp); (try clear hy0); obtain ⟨Ao118, co118, eo118⟩ := Kd.R_slice HO_10.out; subst eo118) | ((with_reducible refine gate_callee (f := 25) rfl ?_); refine goesL_ (some 73) rfl rfl Try.func25 B14x33_ rfl #[.slice Ao118 t481.length co118, .int .i64 t507] rfl B14x1_ ?_; (with_reducible refine (laws_markSegS.calls kj68 (fun k_ => some k_ = (.slice Ao118 t481.length co118 : Value).ownBlock) (.slice Ao118 t481.length co118) t481 t507 t509 t510 w _ ?side1 ?side2 A104.out).mono ?_); (case side1 => exact B14x0_); (case side2 => exact Kd.R_tight rfl HO_10.out); rintro e w119 ⟨rfl, hy0, hb, hkp⟩; refine ⟨_, rfl, ?_⟩; replace HO_7 := Aside0.mk (Kd.R_mono (ok' := fun k_ => some k_ ≠ (.slice Ao118 t481.length co118 : Value).ownBlock) (Kd.R_keptB (HO_7.out) hkp (fun k_ hk_ hs_ => (hk_) hs_)) (fun k_ hk_ => hk_.1)); replace HO_450009 := Aside0.mk (Kd.R_mono (ok' := fun k_ => some k_ ≠ (.slice Ao31 t504.length co31 : Value).ownBlock ∧ some k_ ≠ (.slice Ao40 t475.length co40 : Value).ownBlock) (Kd.R_keptB ((Kd.R_apart' HO_450009.out (Kd.R_typed HO_10.out) (by decide))) hkp (fun k_ hk_ hs_ => (hk_.2) hs_)) (fun k_ hk_ => ⟨hk_.1.1.1, hk_.1.1.2⟩)); replace HO_466009 := Aside0.mk (Kd.R_mono (ok' := fun k_ => some k_ ≠ (.slice Ao23 t440.length co23 : Value).ownBlock ∧ some k_ ≠ (.slice Ao40 t475.length co40 : Value).ownBlock) (Kd.R_keptB ((Kd.R_apart' HO_466009.out (Kd.R_typed HO_10.out) (by decide))) hkp (fun k_ hk_ hs_ => (hk_.2) hs_)) (fun k_ hk_ => ⟨hk_.1.1.1, hk_.1.1.2⟩)); replace HO_485009 := Aside0.mk (Kd.R_mono (ok' := fun k_ => some k_ ≠ (.slice Ao23 t440.length co23 : Value).ownBlock ∧ some k_ ≠ (.slice Ao31 t504.length co31 : Value).ownBlock) (Kd.R_keptB ((Kd.R_apart' HO_485009.out (Kd.R_typed HO_10.out) (by decide))) hkp (fun k_ hk_ hs_ => (hk_.2) hs_)) (fun k_ hk_ => ⟨hk_.1.1.1, hk_.1.1.2⟩)); replace BK414 := Aside0.mk (blk_kept B14x14_ hkp (fun hs_ => (fun e_ => (Kd.R_ne HO_10.out BK414.out (by decide)) e_) hs_)); replace BK449 := Aside0.mk (blk_kept B14x15_ hkp (fun hs_ => (fun e_ => (Kd.R_ne HO_10.out BK449.out (by decide)) e_) hs_)); replace BK465 := Aside0.mk (blk_kept B14x16_ hkp (fun hs_ => (fun e_ => (Kd.R_ne HO_10.out BK465.out (by decide)) e_) hs_)); replace BK484 := Aside0.mk (blk_kept B14x17_ hkp (fun hs_ => (fun e_ => (Kd.R_ne HO_10.out BK484.out (by decide)) e_) hs_)); replace HO_10 := Aside0.mk (Kd.R_reok rfl hy0 (fun k_ e_ => HO_10.out.1 k_ e_)); replace HB := Aside0.mk (hb); (try clear hb); (try clear hkp); (try clear hy0); obtain ⟨hcz120_0, hcz120_1, hcz120_2, hcz120_3, hcz120_4, hcz120_5, hcz120_6, hcz120_7, hcz120_8, hcz120_9, hcz120_10, hcz120_11, hcz120_12⟩ := cl13 BK484.out; obtain ⟨hfz120_0, hfz120_1, hfz120_2, hfz120_3, hfz120_4, hfz120_5, hfz120_6, hfz120_7, hfz120_8, hfz120_9, hfz120_10, hfz120_11, hfz120_12⟩ := fr13 BK484.out) | ((with_reducible refine gate_callee (f := 26) rfl ?_); refine goesL_ (some 76) rfl rfl Try.func26 B14x33_ rfl #[.agg #[.int .i64 t466, .int .i64 t467, .int .i64 t468, .int .i64 t469, .string t470, .int .i64 t471, .int .i64 t472, .bool t473, .string t474, .slice Ao40 t508.length co40, .bool t478, .int .i64 t479, .int .i64 t480], .int .i64 1] rfl (by (try simp only [List.map_toArray, List.map_cons, List.map_nil]); first | done | (rw [show t508.length = t475.length from (Kd.R_reads' HO_485009.out).1.symm] <;> rfl) | rfl | (simp only [List.length_drop, List.length_take]; rfl)) ?_; (with_reducible refine (laws_heldStream.calls kj68 t466 t467 t468 t469 t470 t471 t472 t473 t474 _ _ t508 t478 t479 t480 1 t511 _ ?side1 ?side2 A105.out).mono ?_); (case side1 => exact B14x21_); (case side2 => rw [show t508.length = t475.length from (Kd.R_reads' HO_485009.out).1.symm]; exact (Kd.R_reads' HO_485009.out).2.1); rintro e w121 ⟨rfl, hb⟩; refine ⟨_, rfl, ?_⟩; replace HO_7 := Aside0.mk (Kd.R_below B14x7_ hb); replace HO_10 := Aside0.mk (Kd.R_below B14x3_ hb); replace HO_450009 := Aside0.mk (Kd.R_below B14x4_ hb); replace HO_466009 := Aside0.mk (Kd.R_below B14x5_ hb); replace HO_485009 := Aside0.mk (Kd.R_below B14x6_ hb); replace BK414 := Aside0.mk (bb BK414.out hb); replace BK449 := Aside0.mk (bb BK449.out hb); replace BK465 := Aside0.mk (bb BK465.out hb); replace BK484 := Aside0.mk (bb BK484.out hb); replace HB := Aside0.mk (below_step B14x0_ hb); (try clear hb)) | ((with_reducible refine gate_callee (f := 27) rfl ?_); refine goesL_ (some 81) rfl rfl Try.func27 B14x33_ rfl #[.slice Ao118 t510.length co118, .int .i64 t511] rfl (by (try simp only [List.map_toArray, List.map_cons, List.map_nil]); first | done | (rw [show t510.length = t481.length from (Kd.R_reads' HO_10.out).1.symm] <;> rfl) | rfl | (simp only [List.length_drop, List.length_take]; rfl)) ?_; (with_reducible refine (laws_heldSegS.calls kj68 _ _ t510 t511 t512 _ ?side1 ?side2 A107.out).mono ?_); (case side1 => exact B14x25_); (case side2 => rw [show t510.length = t481.length from (Kd.R_reads' HO_10.out).1.symm]; exact (Kd.R_reads' HO_10.out).2.1); rintro e w122 ⟨rfl, hb⟩; refine ⟨_, rfl, ?_⟩; replace HO_7 := Aside0.mk (Kd.R_below B14x7_ hb); replace HO_10 := Aside0.mk (Kd.R_below B14x3_ hb); replace HO_450009 := Aside0.mk (Kd.R_below B14x4_ hb); replace HO_466009 := Aside0.mk (Kd.R_below B14x5_ hb); replace HO_485009 := Aside0.mk (Kd.R_below B14x6_ hb); replace BK414 := Aside0.mk (bb BK414.out hb); replace BK449 := Aside0.mk (bb BK449.out hb); replace BK465 := Aside0.mk (bb BK465.out hb); replace BK484 := Aside0.mk (bb BK484.out hb); replace HB := Aside0.mk (below_step B14x0_ hb); (try clear hb); have hnb123 := NB414_449.out; have hnc123 := NB449_414.out; have hnb124 := NB414_465.out; have hnc124 := NB465_414.out; obtain ⟨hcz125_0, hcz125_1, hcz125_2, hcz125_3, hcz125_4, hcz125_5, hcz125_6, hcz125_7, hcz125_8, hcz125_9, hcz125_10, hcz125_11, hcz125_12⟩ := cl13 BK414.out; obtain ⟨hfz125_0, hfz125_1, hfz125_2, hfz125_3, hfz125_4, hfz125_5, hfz125_6, hfz125_7, hfz125_8, hfz125_9, hfz125_10, hfz125_11, hfz125_12⟩ := fr13 BK414.out) | ((with_reducible refine gate_callee (f := 20) rfl ?_); refine goesL_ (some 89) rfl rfl Try.func20 B14x33_ rfl #[.agg #[.int .i64 a0_0, .int .i64 a0_1, .int .i64 a0_2, .int .i64 a0_3, .string a0_4, .int .i64 a0_5, .int .i64 a0_6, .bool a0_7, .string a0_8, .slice A0_9 l0_9.length c0_9, .bool a0_10, .int .i64 a0_11, .int .i64 a0_12]] rfl B14x1_ ?_; (with_reducible refine (laws_toStream.calls kj68 a0_0 a0_1 a0_2 a0_3 a0_4 a0_5 a0_6 a0_7 a0_8 _ _ l0_9 a0_10 a0_11 a0_12 t513 t514 t515 t516 t517 t518 t519 t520 t521 t522 t525 t526 t527 _ ?side1 ?side2 A110.out).mono ?_); (case side1 => exact B14x13_); (case side2 => exact HC0_9.out); rintro e w126 ⟨v523, rfl, ho0, hb⟩; refine ⟨_, rfl, ?_⟩; replace HO_7 := Aside0.mk (Kd.R_below B14x7_ hb); replace HO_10 := Aside0.mk (Kd.R_below B14x3_ hb); have HO524 := Aside0.mk (Kd.R_lower (Kd.R_new' (Kd.R_new' (Kd.R_new' ho0 (Kd.R_lt B14x4_)) (Kd.R_lt B14x5_)) (Kd.R_lt B14x6_)) (below_size B14x0_)); replace HO_450009 := Aside0.mk (Kd.R_elder' B14x4_ (Kd.R_base ho0) hb); replace HO_466009 := Aside0.mk (Kd.R_elder' B14x5_ (Kd.R_base ho0) hb); replace HO_485009 := Aside0.mk (Kd.R_elder' B14x6_ (Kd.R_base ho0) hb); replace BK414 := Aside0.mk (bb BK414.out hb); replace BK449 := Aside0.mk (bb BK449.out hb); replace BK465 := Aside0.mk (bb BK465.out hb); replace BK484 := Aside0.mk (bb BK484.out hb); replace HB := Aside0.mk (below_step B14x0_ hb); (try clear hb); (try clear ho0); obtain ⟨Ao127, co127, eo127⟩ := Kd.R_slice HO524.out; subst eo127) | ((with_reducible refine gate_callee (f := 21) rfl ?_); refine goesL_ (some 91) rfl rfl Try.func21 B14x33_ rfl #[.agg #[.int .i64 t513, .int .i64 t514, .int .i64 t515, .int .i64 t516, .string t517, .int .i64 t518, .int .i64 t519, .bool t520, .string t521, .slice Ao127 t522.length co127, .bool t525, .int .i64 t526, .int .i64 t527], .int .i64 a1] rfl B14x1_ ?_; (with_reducible refine (impl_Push.calls kj68 t513 t514 t515 t516 t517 t518 t519 t520 t521 _ _ t522 t525 t526 t527 a1 t528 t529 t530 t531 t532 t533 t534 t535 t536 t537 t540 t541 t542 t543 _ ?side1 ?side2 A111.out).mono ?_); (case side1 => repeat (first | exact (Kd.R_reads' HO524.out).2.2 | (with_reducible refine Kd.C_alloc ?_ _) | (with_reducible refine Kd.C_drewN ?_ _) | (with_reducible refine Kd.C_drew ?_))); (case side2 => exact (Kd.R_reads' HO524.out).2.1); rintro e w128 ⟨v538, v544, rfl, ho0, ho1, hb⟩; refine ⟨_, rfl, ?_⟩; have HO539 := Aside0.mk (Kd.R_lower (Kd.R_new' (Kd.R_new' (Kd.R_new' (Kd.R_new' ho0 (Kd.R_lt B14x4_)) (Kd.R_lt B14x5_)) (Kd.R_lt B14x6_)) (Kd.R_lt B14x23_)) (below_size B14x0_)); replace HO_450009 := Aside0.mk (Kd.R_elder' B14x4_ (Kd.R_base ho0) hb); replace HO_466009 := Aside0.mk (Kd.R_elder' B14x5_ (Kd.R_base ho0) hb); replace HO_485009 := Aside0.mk (Kd.R_elder' B14x6_ (Kd.R_base ho0) hb); replace HO524 := Aside0.mk (Kd.R_elder' B14x23_ (Kd.R_base ho0) hb); have HO545 := Aside0.mk (Kd.R_lower (Kd.R_new' (Kd.R_new' ho1 (Kd.R_lt B14x7_)) (Kd.R_lt B14x3_)) (below_size B14x0_)); replace HO_7 := Aside0.mk (Kd.R_elder' B14x7_ (Kd.R_base ho1) hb); replace HO_10 := Aside0.mk (Kd.R_elder' B14x3_ (Kd.R_base ho1) hb); replace BK414 := Aside0.mk (bb BK414.out hb); replace BK449 := Aside0.mk (bb BK449.out hb); replace BK465 := Aside0.mk (bb BK465.out hb); replace BK484 := Aside0.mk (bb BK484.out hb); replace HB := Aside0.mk (below_step B14x0_ hb); (try clear hb); (try clear ho0); (try clear ho1)) | ((with_reducible refine gate_dst (N := 14) rfl ?_); refine box_event ?hg (N := 14) ?hd (cs := #[.int .i64 0, .int .i64 0, .int .i64 0, .int .i64 0, .string (⟨#[]⟩ : ByteArray), .int .i64 0, .int .i64 0, .bool false, .string (⟨#[]⟩ : ByteArray), .slice none 0 0, .bool false, .int .i64 0, .int .i64 0]) (t := 39) ?hr ?_; (case hd => rfl); (case hg => rfl); (case hr => exact B14x24_); intro gb546 hg w129 hbox hb; replace HO_7 := Aside0.mk (Kd.R_below B14x7_ hb); replace HO_10 := Aside0.mk (Kd.R_below B14x3_ hb); replace HO_450009 := Aside0.mk (Kd.R_below B14x4_ hb); replace HO_466009 := Aside0.mk (Kd.R_below B14x5_ hb); replace HO_485009 := Aside0.mk (Kd.R_below B14x6_ hb); replace HO524 := Aside0.mk (Kd.R_below B14x23_ hb); replace HO539 := Aside0.mk (Kd.R_below B14x28_ hb); replace HO545 := Aside0.mk (Kd.R_below B14x29_ hb); have BK546 := Aside0.mk (hbox); have GW546 := Aside0.mk ((bs hg (below_size HB.out))); have GE546 := Aside0.mk ((bs hg (below_size HB.out))); replace HB := Aside0.mk (below_step B14x0_ hb); have NB414_546 := Aside0.mk ((nl hg (blk_lt BK414.out))); have NB546_414 := Aside0.mk ((ng hg (blk_lt BK414.out))); replace BK414 := Aside0.mk (bb BK414.out hb); have NB449_546 := Aside0.mk ((nl hg (blk_lt BK449.out))); have NB546_449 := Aside0.mk ((ng hg (blk_lt BK449.out))); replace BK449 := Aside0.mk (bb BK449.out hb); have NB465_546 := Aside0.mk ((nl hg (blk_lt BK465.out))); have NB546_465 := Aside0.mk ((ng hg (blk_lt BK465.out))); replace BK465 := Aside0.mk (bb BK465.out hb); have NB484_546 := Aside0.mk ((nl hg (blk_lt BK484.out))); have NB546_484 := Aside0.mk ((ng hg (blk_lt BK484.out))); replace BK484 := Aside0.mk (bb BK484.out hb); clear hb hbox hg; have hnb130 := NB546_414.out; have hnc130 := NB414_546.out; have hnb131 := NB546_449.out; have hnc131 := NB449_546.out; have hnb132 := NB546_465.out; have hnc132 := NB465_546.out; have hnb133 := NB546_484.out; have hnc133 := NB484_546.out; obtain ⟨hcz134_0, hcz134_1, hcz134_2, hcz134_3, hcz134_4, hcz134_5, hcz134_6, hcz134_7, hcz134_8, hcz134_9, hcz134_10, hcz134_11, hcz134_12⟩ := cl13 BK546.out; obtain ⟨hfz134_0, hfz134_1, hfz134_2, hfz134_3, hfz134_4, hfz134_5, hfz134_6, hfz134_7, hfz134_8, hfz134_9, hfz134_10, hfz134_11, hfz134_12⟩ := fr13 BK546.out; obtain ⟨Ao135, co135, eo135⟩ := Kd.R_slice HO539.out; subst eo135) | ((with_reducible refine gate_store (t := 39) (p := 14) rfl ?_); refine store_event (t := 39) (p := 14) (v := ?vo_w136) (w1 := (((((((((((((w129.setCell ⟨gb546, 0, none⟩ (.int .i64 t528)).setCell ⟨gb546, 1, none⟩ (.int .i64 t529)).setCell ⟨gb546, 2, none⟩ (.int .i64 t530)).setCell ⟨gb546, 3, none⟩ (.int .i64 t531)).setCell ⟨gb546, 4, none⟩ (.string t532)).setCell ⟨gb546, 5, none⟩ (.int .i64 t533)).setCell ⟨gb546, 6, none⟩ (.int .i64 t534)).setCell ⟨gb546, 7, none⟩ (.bool t535)).setCell ⟨gb546, 8, none⟩ (.string t536)).setCell ⟨gb546, 9, none⟩ (.slice Ao135 t537.length co135)).setCell ⟨gb546, 10, none⟩ (.bool t540)).setCell ⟨gb546, 11, none⟩ (.int .i64 t541)).setCell ⟨gb546, 12, none⟩ (.int .i64 t542))) ?hg ?ho ?hn ?hr ?_; (case ho => rfl); (case hg => rfl); (case hn => rfl); (case hr => exact B14x24_); intro w136 hw; replace HO_7 : Aside0 (Kd.R k28 28 w136 w.heap.size (fun k_ => some k_ ≠ (.slice Ao118 t481.length co118 : Value).ownBlock ∧ some k_ ≠ (v544 : Value).ownBlock) v447 t446) := ⟨(by rw [hw]; exact (by (with_reducible repeat (first | apply Kd.R_alloc | apply Kd.R_drewN | apply Kd.R_drew)); exact Kd.R_mono (Kd.R_far (p := ⟨gb546, 12, none⟩) (Kd.R_far (p := ⟨gb546, 11, none⟩) (Kd.R_far (p := ⟨gb546, 10, none⟩) (Kd.R_far (p := ⟨gb546, 9, none⟩) (Kd.R_far (p := ⟨gb546, 8, none⟩) (Kd.R_far (p := ⟨gb546, 7, none⟩) (Kd.R_far (p := ⟨gb546, 6, none⟩) (Kd.R_far (p := ⟨gb546, 5, none⟩) (Kd.R_far (p := ⟨gb546, 4, none⟩) (Kd.R_far (p := ⟨gb546, 3, none⟩) (Kd.R_far (p := ⟨gb546, 2, none⟩) (Kd.R_far (p := ⟨gb546, 1, none⟩) (Kd.R_far (p := ⟨gb546, 0, none⟩) (Kd.R_types HO_7.out BK546.out (by decide)) (fun _ hk => hk.2) (.int .i64 t528)) (fun _ hk => hk.2) (.int .i64 t529)) (fun _ hk => hk.2) (.int .i64 t530)) (fun _ hk => hk.2) (.int .i64 t531)) (fun _ hk => hk.2) (.string t532)) (fun _ hk => hk.2) (.int .i64 t533)) (fun _ hk => hk.2) (.int .i64 t534)) (fun _ hk => hk.2) (.bool t535)) (fun _ hk => hk.2) (.string t536)) (fun _ hk => hk.2) (.slice Ao135 t537.length co135)) (fun _ hk => hk.2) (.bool t540)) (fun _ hk => hk.2) (.int .i64 t541)) (fun _ hk => hk.2) (.int .i64 t542)) (fun _ hk => ⟨hk.1.1, hk.1.2⟩)))⟩; replace HO_10 : Aside0 (Kd.R k28 28 w136 w.heap.size (fun k_ => some k_ ≠ (v447 : Value).ownBlock ∧ some k_ ≠ (v544 : Value).ownBlock) (.slice Ao118 t481.length co118) t510) := ⟨(by rw [hw]; exact (by (with_reducible repeat (first | apply Kd.R_alloc | apply Kd.R_drewN | apply Kd.R_drew)); exact Kd.R_mono (Kd.R_far (p := ⟨gb546, 12, none⟩) (Kd.R_far (p := ⟨gb546, 11, none⟩) (Kd.R_far (p := ⟨gb546, 10, none⟩) (Kd.R_far (p := ⟨gb546, 9, none⟩) (Kd.R_far (p := ⟨gb546, 8, none⟩) (Kd.R_far (p := ⟨gb546, 7, none⟩) (Kd.R_far (p := ⟨gb546, 6, none⟩) (Kd.R_far (p := ⟨gb546, 5, none⟩) (Kd.R_far (p := ⟨gb546, 4, none⟩) (Kd.R_far (p := ⟨gb546, 3, none⟩) (Kd.R_far (p := ⟨gb546, 2, none⟩) (Kd.R_far (p := ⟨gb546, 1, none⟩) (Kd.R_far (p := ⟨gb546, 0, none⟩) (Kd.R_types HO_10.out BK546.out (by decide)) (fun _ hk => hk.2) (.int .i64 t528)) (fun _ hk => hk.2) (.int .i64 t529)) (fun _ hk => hk.2) (.int .i64 t530)) (fun _ hk => hk.2) (.int .i64 t531)) (fun _ hk => hk.2) (.string t532)) (fun _ hk => hk.2) (.int .i64 t533)) (fun _ hk => hk.2) (.int .i64 t534)) (fun _ hk => hk.2) (.bool t535)) (fun _ hk => hk.2) (.string t536)) (fun _ hk => hk.2) (.slice Ao135 t537.length co135)) (fun _ hk => hk.2) (.bool t540)) (fun _ hk => hk.2) (.int .i64 t541)) (fun _ hk => hk.2) (.int .i64 t542)) (fun _ hk => ⟨hk.1.1, hk.1.2⟩)))⟩; replace HO_450009 : Aside0 (Kd.R k143 143 w136 w.heap.size (fun k_ => some k_ ≠ (.slice Ao31 t504.length co31 : Value).ownBlock ∧ some k_ ≠ (.slice Ao40 t475.length co40 : Value).ownBlock ∧ some k_ ≠ (.slice Ao127 t522.length co127 : Value).ownBlock ∧ some k_ ≠ (.slice Ao135 t537.length co135 : Value).ownBlock) (.slice Ao23 t440.length co23) t440) := ⟨(by rw [hw]; exact (by (with_reducible repeat (first | apply Kd.R_alloc | apply Kd.R_drewN | apply Kd.R_drew)); exact Kd.R_mono (Kd.R_far (p := ⟨gb546, 12, none⟩) (Kd.R_far (p := ⟨gb546, 11, none⟩) (Kd.R_far (p := ⟨gb546, 10, none⟩) (Kd.R_far (p := ⟨gb546, 9, none⟩) (Kd.R_far (p := ⟨gb546, 8, none⟩) (Kd.R_far (p := ⟨gb546, 7, none⟩) (Kd.R_far (p := ⟨gb546, 6, none⟩) (Kd.R_far (p := ⟨gb546, 5, none⟩) (Kd.R_far (p := ⟨gb546, 4, none⟩) (Kd.R_far (p := ⟨gb546, 3, none⟩) (Kd.R_far (p := ⟨gb546, 2, none⟩) (Kd.R_far (p := ⟨gb546, 1, none⟩) (Kd.R_far (p := ⟨gb546, 0, none⟩) (Kd.R_types HO_450009.out BK546.out (by decide)) (fun _ hk => hk.2) (.int .i64 t528)) (fun _ hk => hk.2) (.int .i64 t529)) (fun _ hk => hk.2) (.int .i64 t530)) (fun _ hk => hk.2) (.int .i64 t531)) (fun _ hk => hk.2) (.string t532)) (fun _ hk => hk.2) (.int .i64 t533)) (fun _ hk => hk.2) (.int .i64 t534)) (fun _ hk => hk.2) (.bool t535)) (fun _ hk => hk.2) (.string t536)) (fun _ hk => hk.2) (.slice Ao135 t537.length co135)) (fun _ hk => hk.2) (.bool t540)) (fun _ hk => hk.2) (.int .i64 t541)) (fun _ hk => hk.2) (.int .i64 t542)) (fun _ hk => ⟨hk.1.1.1.1, ⟨hk.1.1.1.2, ⟨hk.1.1.2, hk.1.2⟩⟩⟩)))⟩; replace HO_466009 : Aside0 (Kd.R k143 143 w136 w.heap.size (fun k_ => some k_ ≠ (.slice Ao23 t440.length co23 : Value).ownBlock ∧ some k_ ≠ (.slice Ao40 t475.length co40 : Value).ownBlock ∧ some k_ ≠ (.slice Ao127 t522.length co127 : Value).ownBlock ∧ some k_ ≠ (.slice Ao135 t537.length co135 : Value).ownBlock) (.slice Ao31 t504.length co31) t504) := ⟨(by rw [hw]; exact (by (with_reducible repeat (first | apply Kd.R_alloc | apply Kd.R_drewN | apply Kd.R_drew)); exact Kd.R_mono (Kd.R_far (p := ⟨gb546, 12, none⟩) (Kd.R_far (p := ⟨gb546, 11, none⟩) (Kd.R_far (p := ⟨gb546, 10, none⟩) (Kd.R_far (p := ⟨gb546, 9, none⟩) (Kd.R_far (p := ⟨gb546, 8, none⟩) (Kd.R_far (p := ⟨gb546, 7, none⟩) (Kd.R_far (p := ⟨gb546, 6, none⟩) (Kd.R_far (p := ⟨gb546, 5, none⟩) (Kd.R_far (p := ⟨gb546, 4, none⟩) (Kd.R_far (p := ⟨gb546, 3, none⟩) (Kd.R_far (p := ⟨gb546, 2, none⟩) (Kd.R_far (p := ⟨gb546, 1, none⟩) (Kd.R_far (p := ⟨gb546, 0, none⟩) (Kd.R_types HO_466009.out BK546.out (by decide)) (fun _ hk => hk.2) (.int .i64 t528)) (fun _ hk => hk.2) (.int .i64 t529)) (fun _ hk => hk.2) (.int .i64 t530)) (fun _ hk => hk.2) (.int .i64 t531)) (fun _ hk => hk.2) (.string t532)) (fun _ hk => hk.2) (.int .i64 t533)) (fun _ hk => hk.2) (.int .i64 t534)) (fun _ hk => hk.2) (.bool t535)) (fun _ hk => hk.2) (.string t536)) (fun _ hk => hk.2) (.slice Ao135 t537.length co135)) (fun _ hk => hk.2) (.bool t540)) (fun _ hk => hk.2) (.int .i64 t541)) (fun _ hk => hk.2) (.int .i64 t542)) (fun _ hk => ⟨hk.1.1.1.1, ⟨hk.1.1.1.2, ⟨hk.1.1.2, hk.1.2⟩⟩⟩)))⟩; replace HO_485009 : Aside0 (Kd.R k143 143 w136 w.heap.size (fun k_ => some k_ ≠ (.slice Ao23 t440.length co23 : Value).ownBlock ∧ some k_ ≠ (.slice Ao31 t504.length co31 : Value).ownBlock ∧ some k_ ≠ (.slice Ao127 t522.length co127 : Value).ownBlock ∧ some k_ ≠ (.slice Ao135 t537.length co135 : Value).ownBlock) (.slice Ao40 t475.length co40) t508) := ⟨(by rw [hw]; exact (by (with_reducible repeat (first | apply Kd.R_alloc | apply Kd.R_drewN | apply Kd.R_drew)); exact Kd.R_mono (Kd.R_far (p := ⟨gb546, 12, none⟩) (Kd.R_far (p := ⟨gb546, 11, none⟩) (Kd.R_far (p := ⟨gb546, 10, none⟩) (Kd.R_far (p := ⟨gb546, 9, none⟩) (Kd.R_far (p := ⟨gb546, 8, none⟩) (Kd.R_far (p := ⟨gb546, 7, none⟩) (Kd.R_far (p := ⟨gb546, 6, none⟩) (Kd.R_far (p := ⟨gb546, 5, none⟩) (Kd.R_far (p := ⟨gb546, 4, none⟩) (Kd.R_far (p := ⟨gb546, 3, none⟩) (Kd.R_far (p := ⟨gb546, 2, none⟩) (Kd.R_far (p := ⟨gb546, 1, none⟩) (Kd.R_far (p := ⟨gb546, 0, none⟩) (Kd.R_types HO_485009.out BK546.out (by decide)) (fun _ hk => hk.2) (.int .i64 t528)) (fun _ hk => hk.2) (.int .i64 t529)) (fun _ hk => hk.2) (.int .i64 t530)) (fun _ hk => hk.2) (.int .i64 t531)) (fun _ hk => hk.2) (.string t532)) (fun _ hk => hk.2) (.int .i64 t533)) (fun _ hk => hk.2) (.int .i64 t534)) (fun _ hk => hk.2) (.bool t535)) (fun _ hk => hk.2) (.string t536)) (fun _ hk => hk.2) (.slice Ao135 t537.length co135)) (fun _ hk => hk.2) (.bool t540)) (fun _ hk => hk.2) (.int .i64 t541)) (fun _ hk => hk.2) (.int .i64 t542)) (fun _ hk => ⟨hk.1.1.1.1, ⟨hk.1.1.1.2, ⟨hk.1.1.2, hk.1.2⟩⟩⟩)))⟩; replace HO524 : Aside0 (Kd.R k143 143 w136 w.heap.size (fun k_ => some k_ ≠ (.slice Ao23 t440.length co23 : Value).ownBlock ∧ some k_ ≠ (.slice Ao31 t504.length co31 : Value).ownBlock ∧ some k_ ≠ (.slice Ao40 t475.length co40 : Value).ownBlock ∧ some k_ ≠ (.slice Ao135 t537.length co135 : Value).ownBlock) (.slice Ao127 t522.length co127) t522) := ⟨(by rw [hw]; exact (by (with_reducible repeat (first | apply Kd.R_alloc | apply Kd.R_drewN | apply Kd.R_drew)); exact Kd.R_mono (Kd.R_far (p := ⟨gb546, 12, none⟩) (Kd.R_far (p := ⟨gb546, 11, none⟩) (Kd.R_far (p := ⟨gb546, 10, none⟩) (Kd.R_far (p := ⟨gb546, 9, none⟩) (Kd.R_far (p := ⟨gb546, 8, none⟩) (Kd.R_far (p := ⟨gb546, 7, none⟩) (Kd.R_far (p := ⟨gb546, 6, none⟩) (Kd.R_far (p := ⟨gb546, 5, none⟩) (Kd.R_far (p := ⟨gb546, 4, none⟩) (Kd.R_far (p := ⟨gb546, 3, none⟩) (Kd.R_far (p := ⟨gb546, 2, none⟩) (Kd.R_far (p := ⟨gb546, 1, none⟩) (Kd.R_far (p := ⟨gb546, 0, none⟩) (Kd.R_types HO524.out BK546.out (by decide)) (fun _ hk => hk.2) (.int .i64 t528)) (fun _ hk => hk.2) (.int .i64 t529)) (fun _ hk => hk.2) (.int .i64 t530)) (fun _ hk => hk.2) (.int .i64 t531)) (fun _ hk => hk.2) (.string t532)) (fun _ hk => hk.2) (.int .i64 t533)) (fun _ hk => hk.2) (.int .i64 t534)) (fun _ hk => hk.2) (.bool t535)) (fun _ hk => hk.2) (.string t536)) (fun _ hk => hk.2) (.slice Ao135 t537.length co135)) (fun _ hk => hk.2) (.bool t540)) (fun _ hk => hk.2) (.int .i64 t541)) (fun _ hk => hk.2) (.int .i64 t542)) (fun _ hk => ⟨hk.1.1.1.1.2, ⟨hk.1.1.1.2, ⟨hk.1.1.2, hk.1.2⟩⟩⟩)))⟩; replace HO539 : Aside0 (Kd.R k143 143 w136 w.heap.size (fun k_ => some k_ ≠ (.slice Ao23 t440.length co23 : Value).ownBlock ∧ some k_ ≠ (.slice Ao31 t504.length co31 : Value).ownBlock ∧ some k_ ≠ (.slice Ao40 t475.length co40 : Value).ownBlock ∧ some k_ ≠ (.slice Ao127 t522.length co127 : Value).ownBlock) (.slice Ao135 t537.length co135) t537) := ⟨(by rw [hw]; exact (by (with_reducible repeat (first | apply Kd.R_alloc | apply Kd.R_drewN | apply Kd.R_drew)); exact Kd.R_mono (Kd.R_far (p := ⟨gb546, 12, none⟩) (Kd.R_far (p := ⟨gb546, 11, none⟩) (Kd.R_far (p := ⟨gb546, 10, none⟩) (Kd.R_far (p := ⟨gb546, 9, none⟩) (Kd.R_far (p := ⟨gb546, 8, none⟩) (Kd.R_far (p := ⟨gb546, 7, none⟩) (Kd.R_far (p := ⟨gb546, 6, none⟩) (Kd.R_far (p := ⟨gb546, 5, none⟩) (Kd.R_far (p := ⟨gb546, 4, none⟩) (Kd.R_far (p := ⟨gb546, 3, none⟩) (Kd.R_far (p := ⟨gb546, 2, none⟩) (Kd.R_far (p := ⟨gb546, 1, none⟩) (Kd.R_far (p := ⟨gb546, 0, none⟩) (Kd.R_types HO539.out BK546.out (by decide)) (fun _ hk => hk.2) (.int .i64 t528)) (fun _ hk => hk.2) (.int .i64 t529)) (fun _ hk => hk.2) (.int .i64 t530)) (fun _ hk => hk.2) (.int .i64 t531)) (fun _ hk => hk.2) (.string t532)) (fun _ hk => hk.2) (.int .i64 t533)) (fun _ hk => hk.2) (.int .i64 t534)) (fun _ hk => hk.2) (.bool t535)) (fun _ hk => hk.2) (.string t536)) (fun _ hk => hk.2) (.slice Ao135 t537.length co135)) (fun _ hk => hk.2) (.bool t540)) (fun _ hk => hk.2) (.int .i64 t541)) (fun _ hk => hk.2) (.int .i64 t542)) (fun _ hk => ⟨hk.1.1.1.1.2, ⟨hk.1.1.1.2, ⟨hk.1.1.2, hk.1.2⟩⟩⟩)))⟩; replace HO545 : Aside0 (Kd.R k28 28 w136 w.heap.size (fun k_ => some k_ ≠ (v447 : Value).ownBlock ∧ some k_ ≠ (.slice Ao118 t481.length co118 : Value).ownBlock) v544 t543) := ⟨(by rw [hw]; exact (by (with_reducible repeat (first | apply Kd.R_alloc | apply Kd.R_drewN | apply Kd.R_drew)); exact Kd.R_mono (Kd.R_far (p := ⟨gb546, 12, none⟩) (Kd.R_far (p := ⟨gb546, 11, none⟩) (Kd.R_far (p := ⟨gb546, 10, none⟩) (Kd.R_far (p := ⟨gb546, 9, none⟩) (Kd.R_far (p := ⟨gb546, 8, none⟩) (Kd.R_far (p := ⟨gb546, 7, none⟩) (Kd.R_far (p := ⟨gb546, 6, none⟩) (Kd.R_far (p := ⟨gb546, 5, none⟩) (Kd.R_far (p := ⟨gb546, 4, none⟩) (Kd.R_far (p := ⟨gb546, 3, none⟩) (Kd.R_far (p := ⟨gb546, 2, none⟩) (Kd.R_far (p := ⟨gb546, 1, none⟩) (Kd.R_far (p := ⟨gb546, 0, none⟩) (Kd.R_types HO545.out BK546.out (by decide)) (fun _ hk => hk.2) (.int .i64 t528)) (fun _ hk => hk.2) (.int .i64 t529)) (fun _ hk => hk.2) (.int .i64 t530)) (fun _ hk => hk.2) (.int .i64 t531)) (fun _ hk => hk.2) (.string t532)) (fun _ hk => hk.2) (.int .i64 t533)) (fun _ hk => hk.2) (.int .i64 t534)) (fun _ hk => hk.2) (.bool t535)) (fun _ hk => hk.2) (.string t536)) (fun _ hk => hk.2) (.slice Ao135 t537.length co135)) (fun _ hk => hk.2) (.bool t540)) (fun _ hk => hk.2) (.int .i64 t541)) (fun _ hk => hk.2) (.int .i64 t542)) (fun _ hk => ⟨hk.1.1.2, hk.1.2⟩)))⟩; replace BK414 : Aside0 (w136.heap[gb414]? = some (.cells #[.int .i64 a0_0, .int .i64 a0_1, .int .i64 a0_2, .int .i64 a0_3, .string a0_4, .int .i64 a0_5, .int .i64 a0_6, .bool a0_7, .string a0_8, .slice A0_9 l0_9.length c0_9, .bool a0_10, .int .i64 a0_11, .int .i64 a0_12] 35 (0, 0))) := ⟨(by rw [hw]; exact (by (repeat (with_reducible (first | exact BK414.out | apply blk_drewN | apply blk_drew | apply blk_alloc | apply blk_put | apply bf NB414_546.out))); repeat (first | exact BK414.out | (simp only [List.setIfInBounds_toArray, List.set_cons_zero, List.set_cons_succ]; with_reducible rfl) | rfl)))⟩; replace BK449 : Aside0 (w136.heap[gb449]? = some (.cells #[.int .i64 t431, .int .i64 t432, .int .i64 t433, .int .i64 t434, .string t435, .int .i64 t436, .int .i64 t437, .bool t438, .string t439, .slice Ao23 t440.length co23, .bool t443, .int .i64 t444, .int .i64 t445] 39 (0, 0))) := ⟨(by rw [hw]; exact (by (repeat (with_reducible (first | exact BK449.out | apply blk_drewN | apply blk_drew | apply blk_alloc | apply blk_put | apply bf NB449_546.out))); repeat (first | exact BK449.out | (simp only [List.setIfInBounds_toArray, List.set_cons_zero, List.set_cons_succ]; with_reducible rfl) | rfl)))⟩; replace BK465 : Aside0 (w136.heap[gb465]? = some (.cells #[.int .i64 t450, .int .i64 t451, .int .i64 t452, .int .i64 t453, .string t454, .int .i64 t455, .int .i64 t456, .bool t457, .string t458, .slice Ao31 t504.length co31, .bool t462, .int .i64 t463, .int .i64 t464] 39 (0, 0))) := ⟨(by rw [hw]; exact (by (repeat (with_reducible (first | exact BK465.out | apply blk_drewN | apply blk_drew | apply blk_alloc | apply blk_put | apply bf NB465_546.out))); repeat (first | exact BK465.out | (simp only [List.setIfInBounds_toArray, List.set_cons_zero, List.set_cons_succ]; with_reducible rfl) | rfl)))⟩; replace BK484 : Aside0 (w136.heap[gb484]? = some (.cells #[.int .i64 t466, .int .i64 t467, .int .i64 t468, .int .i64 t469, .string t470, .int .i64 t471, .int .i64 t472, .bool t473, .string t474, .slice Ao40 t475.length co40, .bool t478, .int .i64 t479, .int .i64 t480] 39 (0, 0))) := ⟨(by rw [hw]; exact (by (repeat (with_reducible (first | exact BK484.out | apply blk_drewN | apply blk_drew | apply blk_alloc | apply blk_put | apply bf NB484_546.out))); repeat (first | exact BK484.out | (simp only [List.setIfInBounds_toArray, List.set_cons_zero, List.set_cons_succ]; with_reducible rfl) | rfl)))⟩; replace BK546 : Aside0 (w136.heap[gb546]? = some (.cells #[.int .i64 t528, .int .i64 t529, .int .i64 t530, .int .i64 t531, .string t532, .int .i64 t533, .int .i64 t534, .bool t535, .string t536, .slice Ao135 t537.length co135, .bool t540, .int .i64 t541, .int .i64 t542] 39 (0, 0))) := ⟨(by rw [hw]; exact (by (repeat (with_reducible (first | exact BK546.out | apply blk_drewN | apply blk_drew | apply blk_alloc | apply blk_put))); repeat (first | exact BK546.out | (simp only [List.setIfInBounds_toArray, List.set_cons_zero, List.set_cons_succ]; with_reducible rfl) | rfl)))⟩; replace HB : Aside0 (Below w.heap.size w w136) := ⟨(by rw [hw]; exact B14x2_)⟩; clear hw))
      (try simp only [Act.put, List.setIfInBounds_toArray, List.set_cons_zero, List.set_cons_succ])
      go_cut [103] (fun v103 wc => ∃ (kq : Nat) (x103_111 : Bool), v103 = .bool x103_111 ∧ Aside0 (laws_FnExactPush.j2 kq t510 t509 x103_111 t466 t467 t468 t469 t470 t471 t472 t473 t474 t508 t478 t479 t480 = some r) ∧ Aside0 (kq ≤ kj68) ∧ Aside0 (Kd.R k28 28 wc w.heap.size (fun _ => True) (.slice Ao118 t481.length co118) t510) ∧ Aside0 (Kd.R k143 143 wc w.heap.size (fun k_ => some k_ ≠ ((.slice Ao31 t504.length co31) : Value).ownBlock ∧ some k_ ≠ ((.slice Ao40 t475.length co40) : Value).ownBlock ∧ some k_ ≠ ((.slice Ao135 t537.length co135) : Value).ownBlock) (.slice Ao23 t440.length co23) t440) ∧ Aside0 (Kd.R k143 143 wc w.heap.size (fun k_ => some k_ ≠ ((.slice Ao23 t440.length co23) : Value).ownBlock ∧ some k_ ≠ ((.slice Ao40 t475.length co40) : Value).ownBlock ∧ some k_ ≠ ((.slice Ao135 t537.length co135) : Value).ownBlock) (.slice Ao31 t504.length co31) t504) ∧ Aside0 (Kd.R k143 143 wc w.heap.size (fun k_ => some k_ ≠ ((.slice Ao23 t440.length co23) : Value).ownBlock ∧ some k_ ≠ ((.slice Ao31 t504.length co31) : Value).ownBlock ∧ some k_ ≠ ((.slice Ao135 t537.length co135) : Value).ownBlock) (.slice Ao40 t475.length co40) t508) ∧ Aside0 (Kd.R k143 143 wc w.heap.size (fun k_ => some k_ ≠ ((.slice Ao23 t440.length co23) : Value).ownBlock ∧ some k_ ≠ ((.slice Ao31 t504.length co31) : Value).ownBlock ∧ some k_ ≠ ((.slice Ao40 t475.length co40) : Value).ownBlock) (.slice Ao135 t537.length co135) t537) ∧ Aside0 (wc.heap[gb414]? = some (.cells #[.int .i64 a0_0, .int .i64 a0_1, .int .i64 a0_2, .int .i64 a0_3, .string a0_4, .int .i64 a0_5, .int .i64 a0_6, .bool a0_7, .string a0_8, (.slice A0_9 l0_9.length c0_9), .bool a0_10, .int .i64 a0_11, .int .i64 a0_12] 35 (0, 0))) ∧ Aside0 (wc.heap[gb449]? = some (.cells #[.int .i64 t431, .int .i64 t432, .int .i64 t433, .int .i64 t434, .string t435, .int .i64 t436, .int .i64 t437, .bool t438, .string t439, (.slice Ao23 t440.length co23), .bool t443, .int .i64 t444, .int .i64 t445] 39 (0, 0))) ∧ Aside0 (wc.heap[gb465]? = some (.cells #[.int .i64 t450, .int .i64 t451, .int .i64 t452, .int .i64 t453, .string t454, .int .i64 t455, .int .i64 t456, .bool t457, .string t458, (.slice Ao31 t504.length co31), .bool t462, .int .i64 t463, .int .i64 t464] 39 (0, 0))) ∧ Aside0 (wc.heap[gb484]? = some (.cells #[.int .i64 t466, .int .i64 t467, .int .i64 t468, .int .i64 t469, .string t470, .int .i64 t471, .int .i64 t472, .bool t473, .string t474, (.slice Ao40 t475.length co40), .bool t478, .int .i64 t479, .int .i64 t480] 39 (0, 0))) ∧ Aside0 (wc.heap[gb546]? = some (.cells #[.int .i64 t528, .int .i64 t529, .int .i64 t530, .int .i64 t531, .string t532, .int .i64 t533, .int .i64 t534, .bool t535, .string t536, (.slice Ao135 t537.length co135), .bool t540, .int .i64 t541, .int .i64 t542] 39 (0, 0))) ∧ Aside0 (Below w.heap.size w wc))
      case first =>
       have H := HC112.out
       clear HC112
       replace H := bsi H
       obtain ⟨t547, A137, H⟩ := H
       (try dsimp only at H)
       by_cases c138 : t547 = true
       ·subst c138
        rw [if_pos rfl] at H
        replace H := bsi H
        obtain ⟨t548, A139, H⟩ := H
        (try dsimp only at H)
        have H' := Aside0.mk H
        clear H
        have hnb140 := NB546_414.out
        have hnc140 := NB414_546.out
        have hnb141 := NB546_449.out
        have hnc141 := NB449_546.out
        have hnb142 := NB546_465.out
        have hnc142 := NB465_546.out
        have hnb143 := NB546_484.out
        have hnc143 := NB484_546.out
        obtain ⟨hcz144_0, hcz144_1, hcz144_2, hcz144_3, hcz144_4, hcz144_5, hcz144_6, hcz144_7, hcz144_8, hcz144_9, hcz144_10, hcz144_11, hcz144_12⟩ := cl13 BK546.out
        obtain ⟨hfz144_0, hfz144_1, hfz144_2, hfz144_3, hfz144_4, hfz144_5, hfz144_6, hfz144_7, hfz144_8, hfz144_9, hfz144_10, hfz144_11, hfz144_12⟩ := fr13 BK546.out
        have hnb145 := NB449_414.out
        have hnc145 := NB414_449.out
        have hnb146 := NB449_465.out
        have hnc146 := NB465_449.out
        have hnb147 := NB449_484.out
        have hnc147 := NB484_449.out
        obtain ⟨hcz148_0, hcz148_1, hcz148_2, hcz148_3, hcz148_4, hcz148_5, hcz148_6, hcz148_7, hcz148_8, hcz148_9, hcz148_10, hcz148_11, hcz148_12⟩ := cl13 BK449.out
        obtain ⟨hfz148_0, hfz148_1, hfz148_2, hfz148_3, hfz148_4, hfz148_5, hfz148_6, hfz148_7, hfz148_8, hfz148_9, hfz148_10, hfz148_11, hfz148_12⟩ := fr13 BK449.out
        go_wp2_with (first | ((with_reducible refine gate_callee (f := 22) rfl ?_); refine goesL_ (some 96) rfl rfl Try.func22 B14x33_ rfl #[.agg #[.int .i64 t528, .int .i64 t529, .int .i64 t530, .int .i64 t531, .string t532, .int .i64 t533, .int .i64 t534, .bool t535, .string t536, .slice Ao135 t537.length co135, .bool t540, .int .i64 t541, .int .i64 t542], .agg #[.int .i64 t431, .int .i64 t432, .int .i64 t433, .int .i64 t434, .string t435, .int .i64 t436, .int .i64 t437, .bool t438, .string t439, .slice Ao23 t440.length co23, .bool t443, .int .i64 t444, .int .i64 t445]] rfl B14x1_ ?_; (with_reducible refine (laws_eqStream.calls kj68 t528 t529 t530 t531 t532 t533 t534 t535 t536 _ _ t537 t540 t541 t542 t431 t432 t433 t434 t435 t436 t437 t438 t439 _ _ t440 t443 t444 t445 true _ ?side1 ?side2 ?side3 ?side4 A137.out).mono ?_); (case side1 => exact B14x40_); (case side2 => exact (Kd.R_reads' HO539.out).2.1); (case side3 => exact B14x20_); (case side4 => exact (Kd.R_reads' HO_450009.out).2.1); rintro e w149 ⟨rfl, hb⟩; refine ⟨_, rfl, ?_⟩; replace HO_7 := Aside0.mk (Kd.R_below B14x7_ hb); replace HO_10 := Aside0.mk (Kd.R_below B14x3_ hb); replace HO_450009 := Aside0.mk (Kd.R_below B14x4_ hb); replace HO_466009 := Aside0.mk (Kd.R_below B14x5_ hb); replace HO_485009 := Aside0.mk (Kd.R_below B14x6_ hb); replace HO524 := Aside0.mk (Kd.R_below B14x23_ hb); replace HO539 := Aside0.mk (Kd.R_below B14x28_ hb); replace HO545 := Aside0.mk (Kd.R_below B14x29_ hb); replace BK414 := Aside0.mk (bb BK414.out hb); replace BK449 := Aside0.mk (bb BK449.out hb); replace BK465 := Aside0.mk (bb BK465.out hb); replace BK484 := Aside0.mk (bb BK484.out hb); replace BK546 := Aside0.mk (bb BK546.out hb); replace HB := Aside0.mk (below_step B14x2_ hb); (try clear hb); obtain ⟨Ao150, co150, eo150⟩ := Kd.R_slice HO545.out; subst eo150; obtain ⟨Ao151, co151, eo151⟩ := Kd.R_slice HO_7.out; subst eo151) | (go_at_call 23; (with_reducible refine (laws_eqSegS.calls kj68 _ _ t543 _ _ t446 t548 _ ?side1 ?side2 ?side3 ?side4 A139.out).mono ?_); (case side1 => repeat (first | exact (Kd.R_reads' HO545.out).2.2 | (with_reducible refine Kd.C_alloc ?_ _) | (with_reducible refine Kd.C_drewN ?_ _) | (with_reducible refine Kd.C_drew ?_))); (case side2 => exact (Kd.R_reads' HO545.out).2.1); (case side3 => exact B14x41_); (case side4 => exact (Kd.R_reads' HO_7.out).2.1); rintro e w152 ⟨rfl, hb⟩; replace HO_7 := Aside0.mk (Kd.R_below B14x7_ hb); replace HO_10 := Aside0.mk (Kd.R_below B14x3_ hb); replace HO_450009 := Aside0.mk (Kd.R_below B14x4_ hb); replace HO_466009 := Aside0.mk (Kd.R_below B14x5_ hb); replace HO_485009 := Aside0.mk (Kd.R_below B14x6_ hb); replace HO524 := Aside0.mk (Kd.R_below B14x23_ hb); replace HO539 := Aside0.mk (Kd.R_below B14x28_ hb); replace HO545 := Aside0.mk (Kd.R_below B14x29_ hb); replace BK414 := Aside0.mk (bb BK414.out hb); replace BK449 := Aside0.mk (bb BK449.out hb); replace BK465 := Aside0.mk (bb BK465.out hb); replace BK484 := Aside0.mk (bb BK484.out hb); replace BK546 := Aside0.mk (bb BK546.out hb); replace HB := Aside0.mk (below_step B14x2_ hb); (try clear hb)))
        go_meet
        case rel => exact ⟨_, (!t548), (be_), H', ⟨B14x55_⟩, ⟨B14x42_⟩, ⟨B14x34_⟩, ⟨B14x35_⟩, ⟨B14x36_⟩, ⟨B14x37_⟩, ⟨B14x46_⟩, ⟨B14x47_⟩, ⟨B14x48_⟩, ⟨B14x49_⟩, ⟨B14x50_⟩, ⟨B14x2_⟩⟩
       ·replace c138 := Bool.eq_false_iff.mpr c138
        subst c138
        rw [if_neg (show ¬ (false = true) by decide)] at H
        have H' := Aside0.mk H
        clear H
        have hnb153 := NB546_414.out
        have hnc153 := NB414_546.out
        have hnb154 := NB546_449.out
        have hnc154 := NB449_546.out
        have hnb155 := NB546_465.out
        have hnc155 := NB465_546.out
        have hnb156 := NB546_484.out
        have hnc156 := NB484_546.out
        obtain ⟨hcz157_0, hcz157_1, hcz157_2, hcz157_3, hcz157_4, hcz157_5, hcz157_6, hcz157_7, hcz157_8, hcz157_9, hcz157_10, hcz157_11, hcz157_12⟩ := cl13 BK546.out
        obtain ⟨hfz157_0, hfz157_1, hfz157_2, hfz157_3, hfz157_4, hfz157_5, hfz157_6, hfz157_7, hfz157_8, hfz157_9, hfz157_10, hfz157_11, hfz157_12⟩ := fr13 BK546.out
        have hnb158 := NB449_414.out
        have hnc158 := NB414_449.out
        have hnb159 := NB449_465.out
        have hnc159 := NB465_449.out
        have hnb160 := NB449_484.out
        have hnc160 := NB484_449.out
        obtain ⟨hcz161_0, hcz161_1, hcz161_2, hcz161_3, hcz161_4, hcz161_5, hcz161_6, hcz161_7, hcz161_8, hcz161_9, hcz161_10, hcz161_11, hcz161_12⟩ := cl13 BK449.out
        obtain ⟨hfz161_0, hfz161_1, hfz161_2, hfz161_3, hfz161_4, hfz161_5, hfz161_6, hfz161_7, hfz161_8, hfz161_9, hfz161_10, hfz161_11, hfz161_12⟩ := fr13 BK449.out
        go_wp2_with (first | ((with_reducible refine gate_callee (f := 22) rfl ?_); refine goesL_ (some 96) rfl rfl Try.func22 B14x33_ rfl #[.agg #[.int .i64 t528, .int .i64 t529, .int .i64 t530, .int .i64 t531, .string t532, .int .i64 t533, .int .i64 t534, .bool t535, .string t536, .slice Ao135 t537.length co135, .bool t540, .int .i64 t541, .int .i64 t542], .agg #[.int .i64 t431, .int .i64 t432, .int .i64 t433, .int .i64 t434, .string t435, .int .i64 t436, .int .i64 t437, .bool t438, .string t439, .slice Ao23 t440.length co23, .bool t443, .int .i64 t444, .int .i64 t445]] rfl B14x1_ ?_; (with_reducible refine (laws_eqStream.calls kj68 t528 t529 t530 t531 t532 t533 t534 t535 t536 _ _ t537 t540 t541 t542 t431 t432 t433 t434 t435 t436 t437 t438 t439 _ _ t440 t443 t444 t445 false _ ?side1 ?side2 ?side3 ?side4 A137.out).mono ?_); (case side1 => exact B14x40_); (case side2 => exact (Kd.R_reads' HO539.out).2.1); (case side3 => exact B14x20_); (case side4 => exact (Kd.R_reads' HO_450009.out).2.1); rintro e w162 ⟨rfl, hb⟩; refine ⟨_, rfl, ?_⟩; replace HO_7 := Aside0.mk (Kd.R_below B14x7_ hb); replace HO_10 := Aside0.mk (Kd.R_below B14x3_ hb); replace HO_450009 := Aside0.mk (Kd.R_below B14x4_ hb); replace HO_466009 := Aside0.mk (Kd.R_below B14x5_ hb); replace HO_485009 := Aside0.mk (Kd.R_below B14x6_ hb); replace HO524 := Aside0.mk (Kd.R_below B14x23_ hb); replace HO539 := Aside0.mk (Kd.R_below B14x28_ hb); replace HO545 := Aside0.mk (Kd.R_below B14x29_ hb); replace BK414 := Aside0.mk (bb BK414.out hb); replace BK449 := Aside0.mk (bb BK449.out hb); replace BK465 := Aside0.mk (bb BK465.out hb); replace BK484 := Aside0.mk (bb BK484.out hb); replace BK546 := Aside0.mk (bb BK546.out hb); replace HB := Aside0.mk (below_step B14x2_ hb); (try clear hb)))
        go_meet
        case rel => exact ⟨_, (true), (be_), H', ⟨B14x55_⟩, ⟨B14x42_⟩, ⟨B14x34_⟩, ⟨B14x35_⟩, ⟨B14x36_⟩, ⟨B14x37_⟩, ⟨B14x46_⟩, ⟨B14x47_⟩, ⟨B14x48_⟩, ⟨B14x49_⟩, ⟨B14x50_⟩, ⟨B14x2_⟩⟩
      case rest =>
       clear HC112
       try clear c102
       try clear c106
       try clear c106b0
       try clear c108
       try clear c108b0
       try clear c109
       try clear c109b0
       try clear c109b1
       try clear hcz116_0
       try clear hcz116_1
       try clear hcz116_10
       try clear hcz116_11
       try clear hcz116_12
       try clear hcz116_2
       try clear hcz116_3
       try clear hcz116_4
       try clear hcz116_5
       try clear hcz116_6
       try clear hcz116_7
       try clear hcz116_8
       try clear hcz116_9
       try clear hcz120_0
       try clear hcz120_1
       try clear hcz120_10
       try clear hcz120_11
       try clear hcz120_12
       try clear hcz120_2
       try clear hcz120_3
       try clear hcz120_4
       try clear hcz120_5
       try clear hcz120_6
       try clear hcz120_7
       try clear hcz120_8
       try clear hcz120_9
       try clear hcz125_0
       try clear hcz125_1
       try clear hcz125_10
       try clear hcz125_11
       try clear hcz125_12
       try clear hcz125_2
       try clear hcz125_3
       try clear hcz125_4
       try clear hcz125_5
       try clear hcz125_6
       try clear hcz125_7
       try clear hcz125_8
       try clear hcz125_9
       try clear hcz134_0
       try clear hcz134_1
       try clear hcz134_10
       try clear hcz134_11
       try clear hcz134_12
       try clear hcz134_2
       try clear hcz134_3
       try clear hcz134_4
       try clear hcz134_5
       try clear hcz134_6
       try clear hcz134_7
       try clear hcz134_8
       try clear hcz134_9
       try clear hcz77_0
       try clear hcz77_1
       try clear hcz77_10
       try clear hcz77_11
       try clear hcz77_12
       try clear hcz77_2
       try clear hcz77_3
       try clear hcz77_4
       try clear hcz77_5
       try clear hcz77_6
       try clear hcz77_7
       try clear hcz77_8
       try clear hcz77_9
       try clear hfz116_0
       try clear hfz116_1
       try clear hfz116_10
       try clear hfz116_11
       try clear hfz116_12
       try clear hfz116_2
       try clear hfz116_3
       try clear hfz116_4
       try clear hfz116_5
       try clear hfz116_6
       try clear hfz116_7
       try clear hfz116_8
       try clear hfz116_9
       try clear hfz120_0
       try clear hfz120_1
       try clear hfz120_10
       try clear hfz120_11
       try clear hfz120_12
       try clear hfz120_2
       try clear hfz120_3
       try clear hfz120_4
       try clear hfz120_5
       try clear hfz120_6
       try clear hfz120_7
       try clear hfz120_8
       try clear hfz120_9
       try clear hfz125_0
       try clear hfz125_1
       try clear hfz125_10
       try clear hfz125_11
       try clear hfz125_12
       try clear hfz125_2
       try clear hfz125_3
       try clear hfz125_4
       try clear hfz125_5
       try clear hfz125_6
       try clear hfz125_7
       try clear hfz125_8
       try clear hfz125_9
       try clear hfz134_0
       try clear hfz134_1
       try clear hfz134_10
       try clear hfz134_11
       try clear hfz134_12
       try clear hfz134_2
       try clear hfz134_3
       try clear hfz134_4
       try clear hfz134_5
       try clear hfz134_6
       try clear hfz134_7
       try clear hfz134_8
       try clear hfz134_9
       try clear hfz14_0
       try clear hfz14_1
       try clear hfz14_10
       try clear hfz14_11
       try clear hfz14_12
       try clear hfz14_2
       try clear hfz14_3
       try clear hfz14_4
       try clear hfz14_5
       try clear hfz14_6
       try clear hfz14_7
       try clear hfz14_8
       try clear hfz14_9
       try clear hfz16_0
       try clear hfz16_1
       try clear hfz16_10
       try clear hfz16_11
       try clear hfz16_12
       try clear hfz16_2
       try clear hfz16_3
       try clear hfz16_4
       try clear hfz16_5
       try clear hfz16_6
       try clear hfz16_7
       try clear hfz16_8
       try clear hfz16_9
       try clear hfz22_0
       try clear hfz22_1
       try clear hfz22_10
       try clear hfz22_11
       try clear hfz22_12
       try clear hfz22_2
       try clear hfz22_3
       try clear hfz22_4
       try clear hfz22_5
       try clear hfz22_6
       try clear hfz22_7
       try clear hfz22_8
       try clear hfz22_9
       try clear hfz25_0
       try clear hfz25_1
       try clear hfz25_10
       try clear hfz25_11
       try clear hfz25_12
       try clear hfz25_2
       try clear hfz25_3
       try clear hfz25_4
       try clear hfz25_5
       try clear hfz25_6
       try clear hfz25_7
       try clear hfz25_8
       try clear hfz25_9
       try clear hfz30_0
       try clear hfz30_1
       try clear hfz30_10
       try clear hfz30_11
       try clear hfz30_12
       try clear hfz30_2
       try clear hfz30_3
       try clear hfz30_4
       try clear hfz30_5
       try clear hfz30_6
       try clear hfz30_7
       try clear hfz30_8
       try clear hfz30_9
       try clear hfz33_0
       try clear hfz33_1
       try clear hfz33_10
       try clear hfz33_11
       try clear hfz33_12
       try clear hfz33_2
       try clear hfz33_3
       try clear hfz33_4
       try clear hfz33_5
       try clear hfz33_6
       try clear hfz33_7
       try clear hfz33_8
       try clear hfz33_9
       try clear hfz39_0
       try clear hfz39_1
       try clear hfz39_10
       try clear hfz39_11
       try clear hfz39_12
       try clear hfz39_2
       try clear hfz39_3
       try clear hfz39_4
       try clear hfz39_5
       try clear hfz39_6
       try clear hfz39_7
       try clear hfz39_8
       try clear hfz39_9
       try clear hfz77_0
       try clear hfz77_1
       try clear hfz77_10
       try clear hfz77_11
       try clear hfz77_12
       try clear hfz77_2
       try clear hfz77_3
       try clear hfz77_4
       try clear hfz77_5
       try clear hfz77_6
       try clear hfz77_7
       try clear hfz77_8
       try clear hfz77_9
       obtain ⟨kq, x103_111, rfl, HA, HJ111, HO_10, HO_450009, HO_466009, HO_485009, HO_547009, BK414, BK449, BK465, BK484, BK546, HB⟩ := hcut
       have hl10_111 := (Kd.R_reads' HO_10.out).1
       rw [hl10_111] at HO_10
       (try simp only [hl10_111])
       (try simp only [hl10_111] at BK414)
       (try simp only [hl10_111] at BK449)
       (try simp only [hl10_111] at BK465)
       (try simp only [hl10_111] at BK484)
       (try simp only [hl10_111] at BK546)
       (try simp only [hl10_111] at HO_450009)
       (try simp only [hl10_111] at HO_466009)
       (try simp only [hl10_111] at HO_485009)
       (try simp only [hl10_111] at HO_547009)
       have hl485009_111 := (Kd.R_reads' HO_485009.out).1
       rw [hl485009_111] at HO_485009
       (try simp only [hl485009_111])
       (try simp only [hl485009_111] at BK414)
       (try simp only [hl485009_111] at BK449)
       (try simp only [hl485009_111] at BK465)
       (try simp only [hl485009_111] at BK484)
       (try simp only [hl485009_111] at BK546)
       (try simp only [hl485009_111] at HO_10)
       (try simp only [hl485009_111] at HO_450009)
       (try simp only [hl485009_111] at HO_466009)
       (try simp only [hl485009_111] at HO_547009)
       cases kq with
       | zero => exact absurd HA.out (by simp [laws_FnExactPush.j2])
       | succ kj111 =>
        have H := HA.out
        clear HA
        simp only [laws_FnExactPush.j2] at H
        by_cases c163 : x103_111 = true
        ·subst c163
         rw [if_pos rfl] at H
         exact absurd ((Option.some.inj H).trans hr_.out) (by decide)
        replace c163 := Bool.eq_false_iff.mpr c163
        subst c163
        rw [if_neg (show ¬ (false = true) by decide)] at H
        replace H := bsi H
        obtain ⟨t549, A164, H⟩ := H
        (try dsimp only at H)
        by_cases c165 : t549 < 0
        ·rw [if_pos c165] at H
         have c165b0 : decide (t549 < 0) = true := decide_eq_true c165
         clear c165
         exact absurd ((Option.some.inj H).trans hr_.out) (by decide)
        rw [if_neg c165] at H
        have c165b0 : decide (t549 < 0) = false := decide_eq_false c165
        clear c165
        replace H := bsi H
        obtain ⟨t550, A166, H⟩ := H
        (try dsimp only at H)
        by_cases c167 : t550 < 0
        ·rw [if_pos c167] at H
         have c167b0 : decide (t550 < 0) = true := decide_eq_true c167
         clear c167
         exact absurd ((Option.some.inj H).trans hr_.out) (by decide)
        rw [if_neg c167] at H
        have c167b0 : decide (t550 < 0) = false := decide_eq_false c167
        clear c167
        by_cases c168 : t550 = t509
        rotate_left
        ·rw [if_neg c168] at H
         have c168b0 := beq_eq_false_iff_ne.mpr c168
         have c168b1 := bne_iff_ne.mpr c168
         exact absurd ((Option.some.inj H).trans hr_.out) (by decide)
        rw [if_pos c168] at H
        have c168b0 := beq_iff_eq.mpr c168
        have c168b1 := bne_eq_false_iff_eq.mpr c168
        clear c168
        obtain rfl := Option.some.inj H
        have hnb169 := NB484_414.out
        have hnc169 := NB414_484.out
        have hnb170 := NB484_449.out
        have hnc170 := NB449_484.out
        have hnb171 := NB484_465.out
        have hnc171 := NB465_484.out
        have hnb172 := NB484_546.out
        have hnc172 := NB546_484.out
        obtain ⟨hcz173_0, hcz173_1, hcz173_2, hcz173_3, hcz173_4, hcz173_5, hcz173_6, hcz173_7, hcz173_8, hcz173_9, hcz173_10, hcz173_11, hcz173_12⟩ := cl13 BK484.out
        obtain ⟨hfz173_0, hfz173_1, hfz173_2, hfz173_3, hfz173_4, hfz173_5, hfz173_6, hfz173_7, hfz173_8, hfz173_9, hfz173_10, hfz173_11, hfz173_12⟩ := fr13 BK484.out
        go_wp2_with (first | ((with_reducible refine gate_callee (f := 26) rfl ?_); refine goesL_ (some 106) rfl rfl Try.func26 B14x33_ rfl #[.agg #[.int .i64 t466, .int .i64 t467, .int .i64 t468, .int .i64 t469, .string t470, .int .i64 t471, .int .i64 t472, .bool t473, .string t474, .slice Ao40 t508.length co40, .bool t478, .int .i64 t479, .int .i64 t480], .int .i64 1] rfl B14x1_ ?_; (with_reducible refine (laws_heldStream.calls kj111 t466 t467 t468 t469 t470 t471 t472 t473 t474 _ _ t508 t478 t479 t480 1 t549 _ ?side1 ?side2 A164.out).mono ?_); (case side1 => exact B14x21_); (case side2 => exact (Kd.R_reads' HO_485009.out).2.1); rintro e w174 ⟨rfl, hb⟩; refine ⟨_, rfl, ?_⟩; replace HO_10 := Aside0.mk (Kd.R_below B14x3_ hb); replace HO_450009 := Aside0.mk (Kd.R_below B14x4_ hb); replace HO_466009 := Aside0.mk (Kd.R_below B14x5_ hb); replace HO_485009 := Aside0.mk (Kd.R_below B14x6_ hb); replace HO_547009 := Aside0.mk (Kd.R_below B14x52_ hb); replace BK414 := Aside0.mk (bb BK414.out hb); replace BK449 := Aside0.mk (bb BK449.out hb); replace BK465 := Aside0.mk (bb BK465.out hb); replace BK484 := Aside0.mk (bb BK484.out hb); replace BK546 := Aside0.mk (bb BK546.out hb); replace HB := Aside0.mk (below_step B14x2_ hb); (try clear hb)) | ((with_reducible refine gate_callee (f := 27) rfl ?_); refine goesL_ (some 111) rfl rfl Try.func27 B14x33_ rfl #[.slice Ao118 t510.length co118, .int .i64 t549] rfl B14x1_ ?_; (with_reducible refine (laws_heldSegS.calls kj111 _ _ t510 t549 t550 _ ?side1 ?side2 A166.out).mono ?_); (case side1 => exact B14x25_); (case side2 => exact (Kd.R_reads' HO_10.out).2.1); rintro e w175 ⟨rfl, hb⟩; refine ⟨_, rfl, ?_⟩; replace HO_10 := Aside0.mk (Kd.R_below B14x3_ hb); replace HO_450009 := Aside0.mk (Kd.R_below B14x4_ hb); replace HO_466009 := Aside0.mk (Kd.R_below B14x5_ hb); replace HO_485009 := Aside0.mk (Kd.R_below B14x6_ hb); replace HO_547009 := Aside0.mk (Kd.R_below B14x52_ hb); replace BK414 := Aside0.mk (bb BK414.out hb); replace BK449 := Aside0.mk (bb BK449.out hb); replace BK465 := Aside0.mk (bb BK465.out hb); replace BK484 := Aside0.mk (bb BK484.out hb); replace BK546 := Aside0.mk (bb BK546.out hb); replace HB := Aside0.mk (below_step B14x2_ hb); (try clear hb)))
        go_ret
        exact ⟨B14x54_, B14x2_⟩

end Go.Proofs.Ytmknnoeggkgkgaa.QFnExactPush
