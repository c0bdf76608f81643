/- Functions that a law reaches, as functions of Lean, and the walks that show that the calls come to their answers. No condition. -/
import Derived.Test.YtgffdijodnpolaaQFnKeepTextsx0
import Derived.Test.YtgffdijodnpolaaQFnKeepTextsx1
import Derived.Test.YtgffdijodnpolaaQFnKeepTextsx3
import Derived.Test.YtgffdijodnpolaaVFnKeepTextshort3
import Derived.Test.YtgffdijodnpolaaVFnKeepTextsShort2
import Derived.Test.YtgffdijodnpolaaVFnKeepTextsShort
import Derived.Test.YtgffdijodnpolaaVFnKeepTextshort8
namespace Go.Proofs.Ytgffdijodnpolaa.QFnKeepTexts
open Go.RowKit Go.Proofs.YtgffdijodnpolaaW.PrintWords Go.Proofs.YtgffdijodnpolaaW.PrintLast Go.Proofs.YtgffdijodnpolaaW.PrintMore Go.Proofs.Ytgffdijodnpolaa.Short
set_option linter.unusedVariables false
set_option linter.unusedSimpArgs false
set_option maxHeartbeats 8000000
set_option maxRecDepth 100000
variable {p : Prop}
theorem D4x0_ (h : p := by exact ⟨B15x9_, B15x1_, Kd.R_keep HOW.out (Ak2 HK ao ap) (fun _ h_ => h_), (Ae3 HB (IsS47.gf B) aK aH), (Ak2 HK ao ap)⟩) : p := h
theorem D4x1_ (h : p := by exact ⟨(blk_cell B.out.1 0).trans rfl, (blk_cell B.out.1 1).trans rfl, bc l 0, bc l 1, bc l 2, bc l 3, bc l 4, bc l 5⟩) : p := h
theorem D4x2_ (h : p := by exact ⟨⟨B15x1_⟩, Ck2 HK ao ap, Ce3 HB (IsS47.gf B) aK aH⟩) : p := h
theorem D4x3_ (h : p := by exact ⟨Cb z, Cb D, Cb q, Ce3 HB ah aj al⟩) : p := h
theorem D4x4_ (h : p := by exact ⟨bc z 0, bc z 1, bc D 0, bc D 1, bc D 2, bc D 3, bc D 4, bc D 5, ((hbc HB dt).trans dt), ((hbc HB du).trans du), ((hbc HB dv).trans dv)⟩) : p := h
section
attribute [local go_sem] max2_int min2_int max_two min_two max_three min_three max_four min_four
theorem B15x1_ (h : p := by repeat (first | (with_reducible first | exact B.out | apply IsS47.alloc | apply IsS47.drewN | apply IsS47.drew | apply IsS47.set_1 | refine IsS47.far ?_ co.out _ | refine IsS47.far ?_ bo.out _) | exact B.out)) : p := h
theorem B15x3_ (h : p := by first | (rw [add_block]; exact Kd.foot_ne aI.out (by omega) (by decide)) | (show (Addr.add _ _).block ≠ _; rw [add_block]; exact Kd.foot_ne aI.out (by omega) (by decide)) | exact Kd.foot_ne aI.out (by omega) (by decide) | (dsimp only; exact Kd.foot_ne aI.out (by omega) (by decide))) : p := h
theorem B15x9_ (h : p := by first | rfl | (simp [errW_none, errW_some] <;> rfl) | (simp [*, errW_none, errW_some] <;> rfl)) : p := h
theorem B15x11_ (h : p := by first | exact Kd.R_lower (Kd.R_mono (IsS47.apart (show IsS47 w0 _ g (.slice aG aD.length ay) fD from B15x1_) (Ar cZ) (by decide)) (fun _ h_ => h_.2)) HL.out | exact Kd.R_mono (IsS47.apart (show IsS47 w0 _ g (.slice aG aD.length ay) fD from B15x1_) (Ar cZ) (by decide)) (fun _ h_ => h_.2)) : p := h
theorem B15x13_ (h : p := by repeat (first | (with_reducible first | exact B.out | apply IsS47.alloc | apply IsS47.drewN | apply IsS47.drew | apply IsS47.set_1 | refine IsS47.far ?_ co.out _) | exact B.out)) : p := h
theorem B15x19_ (h : p := by simp only [putAll, Act.put, List.setIfInBounds_toArray, List.set_cons_zero, List.set_cons_succ]) : p := h
theorem B15x20_ (h : p := by exact Kd.R_keep HOW.out (Ak2 HK ao ap) (fun _ h_ => h_)) : p := h
mutual
def spec_l15Do.j1 : Nat → Int → List (S83) → List (S81) → Int → Int → Int → ByteArray → ByteArray → Int → Option (ByteArray × (List (S81)))
 | 0, _, _, _, _, _, _, _, _, _ => none
 | k + 1, x1, er, b8, fF, fG, fH, dI, et, fI => (spec_l15Put.f k er b8 dI et x1).bind fun fa => (if fa.1 = true then ((spec_Decimal.f k x1).bind fun dE => (if 4 + dE.size ≤ 9223372036854775807 then (some ((⟨#[112, 117, 116, 32]⟩ : ByteArray) ++ dE, fa.2)) else (none))) else (some ((⟨#[102, 117, 108, 108]⟩ : ByteArray), fa.2)))
def spec_l15Do.l0 : Nat → List (S81) → Int → List (S83) → List (S81) → Int → Int → Int → ByteArray → ByteArray → Int → Option (ByteArray × (List (S81)))
 | 0, _, _, _, _, _, _, _, _, _, _ => none
 | k + 1, x9, ct, er, b8, fF, fG, fH, dI, et, fI => if ct < (b8.length : Int) then (if 0 ≤ ct then (if ((rd_T81 b8 ct).f0).toList = dI.toList then (spec_l15Do.l0 k x9 (wrap64 (ct + 1)) er b8 fF fG fH dI et fI) else (if x9.length < 3518437208883 then (spec_l15Do.l0 k (x9 ++ [(⟨(rd_T81 b8 ct).f0, (rd_T81 b8 ct).f1, (rd_T81 b8 ct).f2⟩ : S81)]) (wrap64 (ct + 1)) er b8 fF fG fH dI et fI) else (none))) else (none)) else (some ((⟨#[100, 114, 111, 112]⟩ : ByteArray), x9))
end
def spec_l15Do.f (k : Nat) (aD : List (S83)) (Z : List (S81)) (a1 : Int) (ak : Int) (au : Int) (ad : Int) (ae : ByteArray) (ai : ByteArray) (ar : Int) : Option (ByteArray × (List (S81))) := (spec_ItemOf.f k aD Z ae).bind fun cr => (if ak = 3 then (if cr.2.2.2 = true then ((spec_Decimal.f k cr.2.2.1).bind fun bR => (if 3 + bR.size ≤ 9223372036854775807 then (if ((⟨#[105, 115, 32]⟩ : ByteArray) ++ bR).size + 1 ≤ 9223372036854775807 then (if (((⟨#[105, 115, 32]⟩ : ByteArray) ++ bR) ++ (⟨#[32]⟩ : ByteArray)).size + cr.2.1.size ≤ 9223372036854775807 then (some ((((⟨#[105, 115, 32]⟩ : ByteArray) ++ bR) ++ (⟨#[32]⟩ : ByteArray)) ++ cr.2.1, Z)) else (none)) else (none)) else (none))) else (some ((⟨#[110, 111]⟩ : ByteArray), Z))) else (if ak = 4 then (if cr.2.2.2 = true then (spec_l15Do.l0 k (([] : List (S81))) 0 aD Z ak au ad ae ai ar) else (some ((⟨#[110, 111]⟩ : ByteArray), Z))) else (if ak = 5 then (if cr.2.2.2 = true then (if cr.2.2.1 = ar then (spec_l15Do.j1 k a1 aD Z ak au ad ae ai ar) else ((spec_Decimal.f k cr.2.2.1).bind fun dD => (if 4 + dD.size ≤ 9223372036854775807 then (some ((⟨#[110, 111, 116, 32]⟩ : ByteArray) ++ dD, Z)) else (none)))) else (some ((⟨#[110, 111]⟩ : ByteArray), Z))) else (spec_l15Do.j1 k a1 aD Z ak au ad ae ai ar))))
def spec_l15Do.T1 : Bool × List (List Nat × List Nat) := (true, [([], []), ([0], [0]), ([1], [1]), ([], []), ([3], [3]), ([2, 4], [2, 4]), ([5], [5]), ([6], [6]), ([6], [6]), ([], []), ([9, 7, 5, 0, 1, 2, 3, 4, 5, 6, 7, 9], [7, 9]), ([8, 10, 0, 1, 2, 3, 4, 5, 6, 7, 8, 9, 10], [8])])
def spec_l15Do.B1 : List Nat := [0, 1, 3, 0, 8, 31, 63, 127, 127, 0, 767, 2047]
theorem spec_l15Do.tab1 : rtab .any (opsOf Try.f107 1) = spec_l15Do.T1 := by kernel_rfl
theorem spec_l15Do.bits1 : waitsOk spec_l15Do.T1.2 spec_l15Do.B1 = true := by kernel_rfl
def spec_l15Do.T6 : Bool × List (List Nat × List Nat) := (true, [([], []), ([0], [0]), ([1], [1]), ([2], [2]), ([3], [3]), ([], []), ([5], [5]), ([4, 6], [4, 6]), ([7, 2, 0, 1, 2, 3, 4, 5, 6, 7], [7])])
def spec_l15Do.B6 : List Nat := [0, 1, 3, 7, 15, 0, 32, 127, 255]
theorem spec_l15Do.tab6 : rtab .any (opsOf Try.f107 6) = spec_l15Do.T6 := by kernel_rfl
theorem spec_l15Do.bits6 : waitsOk spec_l15Do.T6.2 spec_l15Do.B6 = true := by kernel_rfl
def spec_l15Do.T14 : Bool × List (List Nat × List Nat) := (true, [([], []), ([0], [0]), ([1], [1]), ([2], [2]), ([], []), ([3, 4], [3, 4]), ([5], [5]), ([6], [6]), ([], []), ([8], [8]), ([7, 9], [7, 9])])
def spec_l15Do.B14 : List Nat := [0, 1, 3, 7, 0, 31, 63, 127, 0, 256, 1023]
theorem spec_l15Do.tab14 : rtab .any (opsOf Try.f107 14) = spec_l15Do.T14 := by kernel_rfl
theorem spec_l15Do.bits14 : waitsOk spec_l15Do.T14.2 spec_l15Do.B14 = true := by kernel_rfl
theorem spec_l15Do.calls (k : Nat) (g : Nat) (aG : Option Addr) (ay : Nat) (aD : List (S83)) (aE : Option Addr) (aB : Nat) (Z : List (S81)) (a1 : Int) (ak : Int) (au : Int) (ad : Int) (ae : ByteArray) (ai : ByteArray) (ar : Int) (r1 : ByteArray) (r2 : List (S81)) (w0 w : World) (hI : IsS47 w0 w g (.slice aG aD.length ay) (.slice aE Z.length aB)) (hB : Below w0.heap.size w0 w) (dq : ∀ W_, KeepBut w W_ g none → Kd.C k83 W_ aG aD.length aD) (dl : aD.length ≤ ay) (dr : ∀ W_, KeepBut w W_ g none → Kd.C k81 W_ aE Z.length Z) (dm : Z.length ≤ aB) (gQ : Kd.R k81 81 w w0.heap.size (fun k_ => k_ ≠ g) (.slice aE Z.length aB) Z) (h : spec_l15Do.f k aD Z a1 ak au ad ae ai ar = some (r1, r2)) :
  Calls Try.prog 107 #[.pointer (some ⟨g, 0, none⟩), .int .i64 a1, .agg #[.int .i64 ak, .int .i64 au, .int .i64 ad, .string ae, .string ai, .int .i64 ar]] w fun e w' => ∃ gX : Value, e = .returned (.string r1) ∧ IsS47 w0 w' g (.slice aG aD.length ay) gX ∧ Kd.R k81 81 w' w0.heap.size (fun k_ => k_ ≠ g) gX r2 ∧ Below w0.heap.size w0 w' ∧ KeepBut w w' g none := by
 have iU := Try.underlying59
 have gR := Try.underlying47
 have iV := Try.underlying81
 have a2 := am dq
 have bh := am dl
 clear dq dl
 have aI := am dr
 have bi := am dm
 clear dr dm
 have HOW := am gQ
 clear gQ
 have B := am hI
 have HK := am (KeepBut.refl w g none)
 have HL := am hB.size
 clear hI
 have e2 := am hB.size
 have HB := am hB
 clear hB
 have aQ := h
 clear h
 unfold spec_l15Do.f at aQ
 obtain ⟨⟨bm, a4, a5, dC⟩, A4, aT⟩ := bsi aQ
 (try dsimp only at aT)
 replace aT := am aT
 clear aQ
 go_enter Try.func107, Try.ntmps107
 try go_wp2_with (first | ((with_reducible refine gate_dst (N := 5) rfl ?_); refine bx (N := 5) (cs := #[.int .i64 ak, .int .i64 au, .int .i64 ad, .string ae, .string ai, .int .i64 ar]) (t := 59) ?_; intro aw hg w6 hbox hb; replace HB := De1 HB (IsS47.gf B) hb; have l := am hbox; have ao := gK hg HK; have aK := am (Nat.le_trans e2.out (bs hg (keep_size HK.out)) : w0.heap.size ≤ aw); replace HK := Ek0 HK hb; have co := am (nl hg (IsS47.lt B.out)); have cI := am (ng hg (IsS47.lt B.out)); replace B := am (IsS47.below (by repeat (first | (with_reducible first | exact B.out | apply IsS47.alloc | apply IsS47.drewN | apply IsS47.drew | apply IsS47.set_1) | exact B.out)) hb); clear hb hbox hg))
 replace l := dA l
 replace B := am (IsS47.drew B.out)
 replace HK := kdr HK
 replace HB := bdr HB
 refine st_ 12 (fun w' => w'.cell? ⟨g, 0, none⟩ = some (.slice aG aD.length ay) ∧ w'.cell? ⟨g, 1, none⟩ = some (.slice aE Z.length aB) ∧ w'.cell? ⟨aw, 0, none⟩ = some (.int .i64 ak) ∧ w'.cell? ⟨aw, 1, none⟩ = some (.int .i64 au) ∧ w'.cell? ⟨aw, 2, none⟩ = some (.int .i64 ad) ∧ w'.cell? ⟨aw, 3, none⟩ = some (.string ae) ∧ w'.cell? ⟨aw, 4, none⟩ = some (.string ai) ∧ w'.cell? ⟨aw, 5, none⟩ = some (.int .i64 ar)) [] spec_l15Do.tab1 spec_l15Do.bits1 D4x1_ (fun Y M aV => ?_)
 generalize w6.drew = w7 at l B HK HB Y ⊢
 refine pu_ 0 12 M ?_
 refine pu_ 1 13 M ?_
 refine pu_ 3 15 M ?_
 refine ta_ 2 14 M aV Y ?_
 refine ta_ 4 16 M aV Y ?_
 refine join_ (σ := Nat) 2 #[true, true, true, true, true, true, true, true, true, true, false, false] (fun s_ => [(17, .tuple #[.agg #[.string bm, .string a4, .int .i64 a5], .bool dC]), (7, .pointer (some ⟨s_, 0, none⟩)), (11, .tuple #[.agg #[.string bm, .string a4, .int .i64 a5], .bool dC]), (18, .agg #[.string bm, .string a4, .int .i64 a5]), (19, .bool dC)]) (fun s_ w' => (w'.cell? ⟨g, 0, none⟩ = some (.slice aG aD.length ay) ∧ w'.cell? ⟨g, 1, none⟩ = some (.slice aE Z.length aB) ∧ w'.cell? ⟨aw, 0, none⟩ = some (.int .i64 ak) ∧ w'.cell? ⟨aw, 1, none⟩ = some (.int .i64 au) ∧ w'.cell? ⟨aw, 2, none⟩ = some (.int .i64 ad) ∧ w'.cell? ⟨aw, 3, none⟩ = some (.string ae) ∧ w'.cell? ⟨aw, 4, none⟩ = some (.string ai) ∧ w'.cell? ⟨aw, 5, none⟩ = some (.int .i64 ar)) ∧ (w'.heap[aw]? = some (.cells #[.int .i64 ak, .int .i64 au, .int .i64 ad, .string ae, .string ai, .int .i64 ar] 59 (0, 0))) ∧ (w'.heap[s_]? = some (.cells #[.string (⟨#[]⟩ : ByteArray), .string (⟨#[]⟩ : ByteArray), .int .i64 0] 81 (0, 0))) ∧ (w.heap.size ≤ s_) ∧ (w0.heap.size ≤ s_) ∧ (g ≠ s_) ∧ (s_ ≠ g) ∧ (aw ≠ s_) ∧ (s_ ≠ aw) ∧ (IsS47 w0 w' g (.slice aG aD.length ay) (.slice aE Z.length aB)) ∧ (KeepBut w w' g none) ∧ (Below w0.heap.size w0 w')) ?_ ?_
 rotate_left
 ·intro gE; refine two_ (i := 5) (j := 9) (Ni := some 17) (Nj := some 7) #[true, true, true, true, true, true, false, false, false, false, false, false] #[true, true, true, true, true, false, false, false, false, true, false, false] rfl rfl rfl rfl (two_of M.out gk_) (by decide) (by decide) (fun K hK => ?_) (fun K hK => ?_)
  ·skip
   refine gT Try.func110 (spec_ItemOf.calls k _ _ aD _ _ Z ae bm a4 a5 dC _ (Kd.C_foot_now a2.out (Ak1 HK ao)) bh.out (Kd.C_foot_now aI.out (Ak1 HK ao)) bi.out A4.out) ?_; rintro w8 hb; replace l := bA l hb; replace HK := Ek1 HK ao hb; replace HB := De2 HB (IsS47.gf B) aK hb; replace B := am (IsS47.below B15x13_ hb); refine hK.out _ _ D4x1_ (fun Y => nm_ ?_); clear hK K; refine pu_ 6 11 M ?_; refine pu_ 7 18 M ?_; refine pu_ 8 19 M ?_; refine on_ 9 (some 7) M (fun K hK => ?_); refine box_step ?hg (N := 7) ?hd (cs := #[.string (⟨#[]⟩ : ByteArray), .string (⟨#[]⟩ : ByteArray), .int .i64 0]) (t := 81) ?hr ?_; (case hd => rfl); (case hg => rfl); (case hr => exact gs_); intro aa hg w9 hbox hb; replace HB := De2 HB (IsS47.gf B) aK hb; have ag := am hbox; have ap := gK hg HK; have aH := am (Nat.le_trans e2.out (bs hg (keep_size HK.out)) : w0.heap.size ≤ aa); replace HK := Ek1 HK ao hb; have aA := nA hg l; have bG := mA hg l; replace l := bA l hb; have bo := am (nl hg (IsS47.lt B.out)); have cJ := am (ng hg (IsS47.lt B.out)); replace B := am (IsS47.below B15x13_ hb); clear hb hbox hg; refine hK.out _ _ D4x1_ (fun Y => nm_ ?_); clear hK K; exact norm_ B15x19_ (gE (aa) _ ⟨Y, (Ab l), (Ab ag), ap.out, aH.out, bo.out, cJ.out, aA.out, bG.out, B15x1_, (Ak2 HK ao ap), (Ae3 HB (IsS47.gf B) aK aH)⟩)
  refine box_step ?hg (N := 7) ?hd (cs := #[.string (⟨#[]⟩ : ByteArray), .string (⟨#[]⟩ : ByteArray), .int .i64 0]) (t := 81) ?hr ?_; (case hd => rfl); (case hg => rfl); (case hr => exact gs_); intro aa hg w8 hbox hb; replace HB := De2 HB (IsS47.gf B) aK hb; have ag := am hbox; have ap := gK hg HK; have aH := am (Nat.le_trans e2.out (bs hg (keep_size HK.out)) : w0.heap.size ≤ aa); replace HK := Ek1 HK ao hb; have aA := nA hg l; have bG := mA hg l; replace l := bA l hb; have bo := am (nl hg (IsS47.lt B.out)); have cJ := am (ng hg (IsS47.lt B.out)); replace B := am (IsS47.below B15x13_ hb); clear hb hbox hg; refine hK.out _ _ D4x1_ (fun Y => nm_ ?_); clear hK K; refine on_ 5 (some 17) M (fun K hK => ?_); refine gT Try.func110 (spec_ItemOf.calls k _ _ aD _ _ Z ae bm a4 a5 dC _ (Kd.C_foot_now a2.out (Ak2 HK ao ap)) bh.out (Kd.C_foot_now aI.out (Ak2 HK ao ap)) bi.out A4.out) ?_; rintro w9 hb; replace l := bA l hb; replace ag := bA ag hb; replace HK := Ek2 HK ao ap hb; replace HB := De3 HB (IsS47.gf B) aK aH hb; replace B := am (IsS47.below B15x1_ hb); refine hK.out _ _ D4x1_ (fun Y => nm_ ?_); clear hK K; refine pu_ 6 11 M ?_; refine pu_ 7 18 M ?_; refine pu_ 8 19 M ?_; exact norm_ B15x19_ (gE (aa) _ ⟨Y, (Ab l), (Ab ag), ap.out, aH.out, bo.out, cJ.out, aA.out, bG.out, B15x1_, (Ak2 HK ao ap), (Ae3 HB (IsS47.gf B) aK aH)⟩)
 rintro aa br ⟨hS_, gq, gs, gu, gv, gw, gx, gy, gB, gC, gD, gr⟩
 replace l := am gq
 replace ag := am gs
 replace ap := am gu
 replace aH := am gv
 replace bo := am gw
 replace cJ := am gx
 replace aA := am gy
 replace bG := am gB
 replace B := am gC
 replace HK := am gD
 replace HB := am gr
 clear gq gs gu gv gw gx gy gB gC gD gr
 have Y : br.cell? ⟨g, 0, none⟩ = some (.slice aG aD.length ay) ∧ br.cell? ⟨g, 1, none⟩ = some (.slice aE Z.length aB) ∧ br.cell? ⟨aw, 0, none⟩ = some (.int .i64 ak) ∧ br.cell? ⟨aw, 1, none⟩ = some (.int .i64 au) ∧ br.cell? ⟨aw, 2, none⟩ = some (.int .i64 ad) ∧ br.cell? ⟨aw, 3, none⟩ = some (.string ae) ∧ br.cell? ⟨aw, 4, none⟩ = some (.string ai) ∧ br.cell? ⟨aw, 5, none⟩ = some (.int .i64 ar) := hS_
 refine norm_ (a' := ?_) ?_ ?_
 rotate_left
 ·simp only [putAll, Act.put, List.setIfInBounds_toArray, List.set_cons_zero, List.set_cons_succ]; rfl
 refine on_ 10 none M (fun K hK => ?_)
 have mX : br.cell? ⟨aa, 0, none⟩ = some (.string (⟨#[]⟩ : ByteArray)) := bc ag 0
 have jY := blk_frozen ag.out 0
 obtain ⟨mO, j8⟩ := o2_ aA bG
 have mY : br.cell? ⟨aa, 1, none⟩ = some (.string (⟨#[]⟩ : ByteArray)) := bc ag 1
 have jZ := blk_frozen ag.out 1
 obtain ⟨mV, kg⟩ := o2_ aA bG
 have m1 : br.cell? ⟨aa, 2, none⟩ = some (.int .i64 0) := bc ag 2
 have j7 := blk_frozen ag.out 2
 obtain ⟨mW, kh⟩ := o2_ aA bG
 refine skip_ (w1 := ?_) (by rfl) rfl ?_ ?_
 rotate_left
 ·go_simp; rfl
 refine hK.out _ _ ⟨((cell_far (p := ⟨aa, _, none⟩) bo.out _).trans (((cell_far (p := ⟨aa, _, none⟩) bo.out _).trans (((cell_far (p := ⟨aa, _, none⟩) bo.out _).trans (Y.1)))))), ((cell_far (p := ⟨aa, _, none⟩) bo.out _).trans (((cell_far (p := ⟨aa, _, none⟩) bo.out _).trans (((cell_far (p := ⟨aa, _, none⟩) bo.out _).trans (Y.2.1)))))), ((cell_far (p := ⟨aa, _, none⟩) aA.out _).trans (((cell_far (p := ⟨aa, _, none⟩) aA.out _).trans (((cell_far (p := ⟨aa, _, none⟩) aA.out _).trans (Y.2.2.1)))))), ((cell_far (p := ⟨aa, _, none⟩) aA.out _).trans (((cell_far (p := ⟨aa, _, none⟩) aA.out _).trans (((cell_far (p := ⟨aa, _, none⟩) aA.out _).trans (Y.2.2.2.1)))))), ((cell_far (p := ⟨aa, _, none⟩) aA.out _).trans (((cell_far (p := ⟨aa, _, none⟩) aA.out _).trans (((cell_far (p := ⟨aa, _, none⟩) aA.out _).trans (Y.2.2.2.2.1)))))), ((cell_far (p := ⟨aa, _, none⟩) aA.out _).trans (((cell_far (p := ⟨aa, _, none⟩) aA.out _).trans (((cell_far (p := ⟨aa, _, none⟩) aA.out _).trans (Y.2.2.2.2.2.1)))))), ((cell_far (p := ⟨aa, _, none⟩) aA.out _).trans (((cell_far (p := ⟨aa, _, none⟩) aA.out _).trans (((cell_far (p := ⟨aa, _, none⟩) aA.out _).trans (Y.2.2.2.2.2.2.1)))))), ((cell_far (p := ⟨aa, _, none⟩) aA.out _).trans (((cell_far (p := ⟨aa, _, none⟩) aA.out _).trans (((cell_far (p := ⟨aa, _, none⟩) aA.out _).trans (Y.2.2.2.2.2.2.2))))))⟩ (fun Y => ?_)
 clear hK K
 refine pu_ 11 8 M ?_
 refine done_ (done_of M.out gk_) ?_
 obtain ⟨iJ, iN, kD, lR⟩ := o4_ aA bG cI co
 obtain ⟨eu, ev, ew, ex, ey, ez, eE, eF, eG, eH, eI, eJ⟩ := cf6 l
 go_upto_block 0 with (fail)
 go_cut [] (fun wc => ∃ (kq : Nat), Aside0 (spec_l15Do.j1 kq a1 aD Z ak au ad ae ai ar = some (r1, r2)) ∧ Aside0 (kq ≤ k) ∧ Hc wc aw #[.int .i64 ak, .int .i64 au, .int .i64 ad, .string ae, .string ai, .int .i64 ar] 59 ∧ Hc wc aa #[.string bm, .string a4, .int .i64 a5] 81 ∧ Aside0 (IsS47 w0 wc g (.slice aG aD.length ay) (.slice aE Z.length aB)) ∧ Hk w wc g ∧ Hb w0 wc)
 case first =>
  replace aT := aT.out
  obtain ⟨de, aX⟩ | ⟨de, aX⟩ := sp aT
  ·obtain ⟨cN, gb⟩ := yE de; clear de
   (first | rw [cN] | (simp only [i64_w, i32_w]; rw [cN]) | skip)
   obtain ⟨rfl, bJ⟩ | ⟨rfl, bJ⟩ := sb aX
   ·obtain ⟨bR, g6, bK⟩ := bsi bJ; (try dsimp only at bK); obtain ⟨fd, b6⟩ := yn bK; have ju := eq_true fd; have jv := decide_eq_true fd
    try have hO : (9223372036854775807 < 3 + bR.size) = False := eq_false (Nat.not_lt.2 fd)
    try (have hP := hO; simp only [ByteArray.size_append] at hP)
    obtain ⟨dY, cx⟩ := yn b6; have jw := eq_true dY; have jx := decide_eq_true dY
    try have hQ : (9223372036854775807 < ((⟨#[105, 115, 32]⟩ : ByteArray) ++ bR).size + 1) = False := eq_false (Nat.not_lt.2 dY)
    try have jy : (9223372036854775807 < 3 + bR.size + 1) = False := eq_false (by have z0_ : (⟨#[105, 115, 32]⟩ : ByteArray).size = 3 := rfl; have h_ := dY; simp only [ByteArray.size_append, ByteArray.size_extract, decide_eq_true_eq, decide_eq_false_iff_not] at *; omega)
    try (have hR := hQ; simp only [ByteArray.size_append] at hR)
    obtain ⟨dZ, bL⟩ := yn cx; have jz := eq_true dZ; have jA := decide_eq_true dZ
    try have hS : (9223372036854775807 < (((⟨#[105, 115, 32]⟩ : ByteArray) ++ bR) ++ (⟨#[32]⟩ : ByteArray)).size + a4.size) = False := eq_false (Nat.not_lt.2 dZ)
    try have jB : (9223372036854775807 < 3 + bR.size + 1 + a4.size) = False := eq_false (by have z0_ : (⟨#[105, 115, 32]⟩ : ByteArray).size = 3 := rfl; have z1_ : (⟨#[32]⟩ : ByteArray).size = 1 := rfl; have h_ := dZ; simp only [ByteArray.size_append, ByteArray.size_extract, decide_eq_true_eq, decide_eq_false_iff_not] at *; omega)
    try (have hT := hS; simp only [ByteArray.size_append] at hT)
    obtain ⟨rfl, rfl⟩ := s2 bL; clear bL aT aX bJ bK b6 cx
    try go_wp2
    generalize hw : (((br.setCell ⟨aa, 0, none⟩ (.string bm)).setCell ⟨aa, 1, none⟩ (.string a4)).setCell ⟨aa, 2, none⟩ (.int .i64 a5)) = cS; replace hw := hw.symm
    replace l : Hc cS aw #[.int .i64 ak, .int .i64 au, .int .i64 ad, .string ae, .string ai, .int .i64 ar] 59 := ⟨wAp1 l aA⟩
    replace ag : Hc cS aa #[.string bm, .string a4, .int .i64 a5] 81 := ⟨wAp0 ag⟩
    replace HK : Hk w cS g := ⟨wAk2 HK ao ap⟩
    replace HB : Hb w0 cS := ⟨wAe3 HB (IsS47.gf B) aK aH⟩
    replace B : Aside0 (IsS47 w0 cS g (.slice aG aD.length ay) (.slice aE Z.length aB)) := ⟨(by rw [hw]; exact B15x1_)⟩
    clear hw; replace l := dA l; replace ag := dA ag; replace B := am (IsS47.drew B.out); replace HK := kdr HK; replace HB := bdr HB; refine st_ 9 (fun w' => w'.cell? ⟨aa, 0, none⟩ = some (.string bm) ∧ w'.cell? ⟨aa, 1, none⟩ = some (.string a4) ∧ w'.cell? ⟨aa, 2, none⟩ = some (.int .i64 a5)) [] spec_l15Do.tab6 spec_l15Do.bits6 ⟨bc ag 0, bc ag 1, bc ag 2⟩ (fun Y M aV => ?_); generalize cS.drew = i9 at l ag B HK HB Y ⊢; refine pu_ 0 26 M ?_; refine pu_ 5 31 M ?_; refine ta_ 1 27 M aV Y ?_; refine ta_ 6 32 M aV Y ?_; refine on_ 2 (some 28) M (fun K hK => ?_); refine gT Try.func89 (spec_Decimal.calls k a5 bR _ g6.out) ?_; rintro nI hb; replace ag := bA ag hb; replace HK := Ek2 HK ao ap hb; replace HB := De3 HB (IsS47.gf B) aK aH hb; replace B := am (IsS47.below B15x1_ hb); refine hK.out _ _ ⟨bc ag 0, bc ag 1, bc ag 2⟩ (fun Y => nm_ ?_); clear hK K; refine pu_ 3 29 M ?_; refine pu_ 4 30 M ?_; refine pu_ 7 33 M ?_; refine pu_ 8 6 M ?_; refine done_ (done_of M.out gk_) ?_
    try go_wp2
    go_ret; exact ⟨_, D4x0_⟩
   obtain ⟨rfl, rfl⟩ := s2 bJ; clear bJ aT aX
   go_wp2
   go_ret; exact ⟨_, D4x0_⟩
  obtain ⟨cN, gb⟩ := nE de
  (first | rw [cN] | (simp only [i64_w, i32_w]; rw [cN]) | skip)
  obtain ⟨df, a8⟩ | ⟨df, a8⟩ := sp aX
  ·obtain ⟨gg, gh⟩ := yE df; clear df
   obtain ⟨rfl, aZ⟩ | ⟨rfl, aZ⟩ := sb a8
   ·obtain ⟨jf, dw⟩ : ∃ y_ : List (S81), y_ = (([] : List (S81))) := ⟨_, rfl⟩
    (first | with_reducible replace aZ := hq dw aZ | rw [← dw] at aZ | simp only [← dw] at aZ)
    have f5 := am dw; clear dw; replace aZ := am aZ; clear aT aX a8
    go_wp2_with (first | ((with_reducible refine gate_dst (N := 38) rfl ?_); refine lL k81 81 38 ([] : List (S81)) [] (Reps.none _ _) ?_; intro nf ja dn hb; (first | rw [← f5.out] at dn | (simp only [Int.reduceToNat] at dn; rw [← f5.out] at dn)); have hh := am (Kd.R_lower (Kd.R_newB dn (g := aa) (o := .cells #[.string bm, .string a4, .int .i64 a5] 81 (0, 0)) (Ap0 ag)) (keep_size (w := w) (g := g) (row := none) (Ak2 HK ao ap))); replace l := am (blk_below (g := aw) (o := .cells #[.int .i64 ak, .int .i64 au, .int .i64 ad, .string ae, .string ai, .int .i64 ar] 59 (0, 0)) (Ap1 l aA) hb); replace ag := am (blk_below (g := aa) (o := .cells #[.string bm, .string a4, .int .i64 a5] 81 (0, 0)) (Ap0 ag) hb); replace HK := Ek2 HK ao ap hb; replace HB := De3 HB (IsS47.gf B) aK aH hb; replace B := am (IsS47.below (show IsS47 w0 (((br.setCell ⟨aa, 0, none⟩ (.string bm)).setCell ⟨aa, 1, none⟩ (.string a4)).setCell ⟨aa, 2, none⟩ (.int .i64 a5)) g (.slice aG aD.length ay) (.slice aE Z.length aB) from B15x1_) hb); clear hb dn))
    go_loopg [9, 10] k (fun kq v9 i3 w' => ∃ (b3 : List (S81)) (ac : Int), i3 = .int .i64 ac ∧ Aside0 (spec_l15Do.l0 kq b3 ac aD Z ak au ad ae ai ar = some (r1, r2)) ∧ Aside0 (kq ≤ k) ∧ Aside0 (Kd.R k81 81 w' w.heap.size (fun k_ => k_ ≠ aa) v9 b3) ∧ Aside0 (w'.heap[aw]? = some (.cells #[.int .i64 ak, .int .i64 au, .int .i64 ad, .string ae, .string ai, .int .i64 ar] 59 (0, 0))) ∧ Aside0 (w'.heap[aa]? = some (.cells #[.string bm, .string a4, .int .i64 a5] 81 (0, 0))) ∧ Aside0 (IsS47 w0 w' g (.slice aG aD.length ay) (.slice aE Z.length aB)) ∧ Aside0 (KeepBut w w' g none) ∧ Aside0 (Below w0.heap.size w0 w'))
    case atStart => exact ⟨(jf), 0, be_, aZ, ⟨Nat.le_refl _⟩, ⟨(by (with_reducible repeat (first | apply Kd.R_alloc | apply Kd.R_drewN | apply Kd.R_drew)); exact Kd.R_mono hh.out (fun _ hk => hk.2))⟩, Cb l, Cb ag, D4x2_⟩
    case round =>
     clear aZ
     try clear de
     try clear cN
     try clear gb
     try clear df
     try clear gg
     try clear gh
     try clear jC
     obtain ⟨b3, ac, rfl, bD, dU, a6, l, ag, B, HK, HB⟩ := hrel
     cases gk with
     | zero => exact absurd bD.out (by simp [spec_l15Do.l0])
     | succ k1 => ?_
     replace bD := bD.out; simp only [spec_l15Do.l0] at bD
     obtain ⟨hU, a7⟩ | ⟨hU, a7⟩ := sd bD
     ·obtain ⟨jD, bI⟩ := yd a7
      obtain ⟨d0, bW⟩ | ⟨d0, bW⟩ := sp bI
      ·obtain ⟨hV, hW⟩ := yE d0; clear d0; replace bW := am bW; clear bD a7 bI; obtain ⟨dQ, iC⟩ := B.out; have nY := cellS47_0 dQ; have nZ := cellS47_1 dQ; have oh := blk_frozen dQ 1; clear dQ iC
       try go_wp2
       replace a6 := eA a6; replace l := dA l; replace ag := dA ag; replace B := am (IsS47.drew B.out); replace HK := kdr HK; replace HB := bdr HB
       have cC : 0 ≤ (ac : Int) := dga
       have cE : ac < (Z.length : Int) := dga
       obtain ⟨aN, fr, cz, cA, cB⟩ := at_T81 (Kd.C_foot_now aI.out HK.out) ac cC cE; have iY := cB; have iX := cA; have iW := cz; cases fr; have iT := (show (⟨(aN.add ((ac).toNat * 3)).block, (aN.add ((ac).toNat * 3)).off + 2, none⟩ : Addr).block ≠ g from B15x3_); have iI := (Kd.foot_lt aI.out (by omega) (by decide)); have iS := (show (⟨(aN.add ((ac).toNat * 3)).block, (aN.add ((ac).toNat * 3)).off + 1, none⟩ : Addr).block ≠ g from B15x3_); have iH := (Kd.foot_lt aI.out (by omega) (by decide)); have iR := (show ((aN.add ((ac).toNat * 3)) : Addr).block ≠ g from B15x3_); have iG := (Kd.foot_lt aI.out (by omega) (by decide)); replace cC := eq_true cC; replace cE := eq_true cE; refine st_ 11 (fun w' => w'.cell? ⟨g, 0, none⟩ = some (.slice aG aD.length ay) ∧ w'.cell? ⟨g, 1, none⟩ = some (.slice (some aN) Z.length aB) ∧ w'.cell? ⟨aw, 0, none⟩ = some (.int .i64 ak) ∧ w'.cell? ⟨aw, 1, none⟩ = some (.int .i64 au) ∧ w'.cell? ⟨aw, 2, none⟩ = some (.int .i64 ad) ∧ w'.cell? ⟨aw, 3, none⟩ = some (.string ae) ∧ w'.cell? ⟨aw, 4, none⟩ = some (.string ai) ∧ w'.cell? ⟨aw, 5, none⟩ = some (.int .i64 ar) ∧ w'.cell? (aN.add ((ac).toNat * 3)) = some (.string ((rd_T81 Z ac).f0)) ∧ w'.cell? ⟨(aN.add ((ac).toNat * 3)).block, (aN.add ((ac).toNat * 3)).off + 1, none⟩ = some (.string ((rd_T81 Z ac).f1)) ∧ w'.cell? ⟨(aN.add ((ac).toNat * 3)).block, (aN.add ((ac).toNat * 3)).off + 2, none⟩ = some (.int .i64 ((rd_T81 Z ac).f2))) [] spec_l15Do.tab14 spec_l15Do.bits14 ⟨(blk_cell B.out.1 0).trans rfl, (blk_cell B.out.1 1).trans rfl, bc l 0, bc l 1, bc l 2, bc l 3, bc l 4, bc l 5, cz, cA, cB⟩ (fun Y M aV => ?_); generalize wr.drew = nK at a6 l ag B HK HB cz cA cB Y ⊢; refine pu_ 0 48 M ?_; refine pu_ 1 49 M ?_; refine pu_ 2 50 M ?_; refine pu_ 4 52 M ?_; refine pu_ 8 56 M ?_; refine ta_ 3 51 M aV Y ?_; refine pu_ 5 53 M ?_; refine pu_ 6 54 M ?_; refine ta_ 7 55 M aV Y ?_; refine ta_ 9 57 M aV Y ?_; refine pu_ 10 58 M ?_; refine done_ (done_of M.out gk_) ?_
       try go_wp2
       go_roundg k1
       case measure => have := dU.out; omega
       case rel => exact ⟨(b3), (wrap64 (ac + 1)), be_, bW, ⟨(by have := dU.out; omega)⟩, Cr a6, Cb l, Cb ag, D4x2_⟩
      obtain ⟨hV, hW⟩ := nE d0; obtain ⟨hm, bj⟩ := ya bW; obtain ⟨jg, dx⟩ : ∃ y_ : List (S81), y_ = (b3 ++ [(⟨(rd_T81 Z ac).f0, (rd_T81 Z ac).f1, (rd_T81 Z ac).f2⟩ : S81)]) := ⟨_, rfl⟩
      (first | with_reducible replace bj := hq dx bj | rw [← dx] at bj | simp only [← dx] at bj)
      have hF := am dx; clear dx; replace bj := am bj; clear bD a7 bI bW; obtain ⟨dR, iD⟩ := B.out; have n0 := cellS47_0 dR; have n1 := cellS47_1 dR; have oi := blk_frozen dR 1; clear dR iD
      try go_wp2
      replace a6 := eA a6; replace l := dA l; replace ag := dA ag; replace B := am (IsS47.drew B.out); replace HK := kdr HK; replace HB := bdr HB
      have cC : 0 ≤ (ac : Int) := dga
      have cE : ac < (Z.length : Int) := dga
      obtain ⟨aN, fr, cz, cA, cB⟩ := at_T81 (Kd.C_foot_now aI.out HK.out) ac cC cE; have iY := cB; have iX := cA; have iW := cz; cases fr; have iT := (show (⟨(aN.add ((ac).toNat * 3)).block, (aN.add ((ac).toNat * 3)).off + 2, none⟩ : Addr).block ≠ g from B15x3_); have iI := (Kd.foot_lt aI.out (by omega) (by decide)); have iS := (show (⟨(aN.add ((ac).toNat * 3)).block, (aN.add ((ac).toNat * 3)).off + 1, none⟩ : Addr).block ≠ g from B15x3_); have iH := (Kd.foot_lt aI.out (by omega) (by decide)); have iR := (show ((aN.add ((ac).toNat * 3)) : Addr).block ≠ g from B15x3_); have iG := (Kd.foot_lt aI.out (by omega) (by decide)); replace cC := eq_true cC; replace cE := eq_true cE; refine st_ 11 (fun w' => w'.cell? ⟨g, 0, none⟩ = some (.slice aG aD.length ay) ∧ w'.cell? ⟨g, 1, none⟩ = some (.slice (some aN) Z.length aB) ∧ w'.cell? ⟨aw, 0, none⟩ = some (.int .i64 ak) ∧ w'.cell? ⟨aw, 1, none⟩ = some (.int .i64 au) ∧ w'.cell? ⟨aw, 2, none⟩ = some (.int .i64 ad) ∧ w'.cell? ⟨aw, 3, none⟩ = some (.string ae) ∧ w'.cell? ⟨aw, 4, none⟩ = some (.string ai) ∧ w'.cell? ⟨aw, 5, none⟩ = some (.int .i64 ar) ∧ w'.cell? (aN.add ((ac).toNat * 3)) = some (.string ((rd_T81 Z ac).f0)) ∧ w'.cell? ⟨(aN.add ((ac).toNat * 3)).block, (aN.add ((ac).toNat * 3)).off + 1, none⟩ = some (.string ((rd_T81 Z ac).f1)) ∧ w'.cell? ⟨(aN.add ((ac).toNat * 3)).block, (aN.add ((ac).toNat * 3)).off + 2, none⟩ = some (.int .i64 ((rd_T81 Z ac).f2))) [] spec_l15Do.tab14 spec_l15Do.bits14 ⟨(blk_cell B.out.1 0).trans rfl, (blk_cell B.out.1 1).trans rfl, bc l 0, bc l 1, bc l 2, bc l 3, bc l 4, bc l 5, cz, cA, cB⟩ (fun Y M aV => ?_); generalize wr.drew = nL at a6 l ag B HK HB cz cA cB Y ⊢; refine pu_ 0 48 M ?_; refine pu_ 1 49 M ?_; refine pu_ 2 50 M ?_; refine pu_ 4 52 M ?_; refine pu_ 8 56 M ?_; refine ta_ 3 51 M aV Y ?_; refine pu_ 5 53 M ?_; refine pu_ 6 54 M ?_; refine ta_ 7 55 M aV Y ?_; refine ta_ 9 57 M aV Y ?_; refine pu_ 10 58 M ?_; refine done_ (done_of M.out gk_) ?_; obtain ⟨dS, iE⟩ := B.out; have oa := cellS47_0 dS; have ob := cellS47_1 dS; have om := blk_frozen dS 1; clear dS iE
      have fz : 0 ≤ (ac : Int) := dga
      have fC : ac < (Z.length : Int) := dga
      obtain ⟨hJ, ic, m9, na, nb⟩ := at_T81 (Kd.C_foot_now aI.out HK.out) ac fz fC; obtain rfl : aN = hJ := (by injection ic); replace fz := eq_true fz; replace fC := eq_true fC
      try go_wp2_with (first | ((with_reducible refine gate_builtin (b := .append) (xs := #[.tmp 59, .tmp 67]) rfl ?_); at_builtin; refine Kd.R_append k81 w.heap.size rfl (.tmp 59) (.tmp 67) 45 81 (.agg #[(.string ⟨#[]⟩), (.string ⟨#[]⟩), (.int .i64 0)]) 40 rfl Try.underlying45 info81 rfl (by decide) (by omega) u9 b3 (⟨(rd_T81 Z ac).f0, (rd_T81 Z ac).f1, (rd_T81 Z ac).f2⟩ : S81) [.string ((rd_T81 Z ac).f0), .string ((rd_T81 Z ac).f1), .int .i64 ((rd_T81 Z ac).f2)] (fun k_ => k_ ≠ aa) (fun _ => False) rfl rfl ?aP (fun _ hk => hk.elim) ?aF ?aO (Below.refl _ _) ?aS ?aL ?_; (case aP => exact k81_mkM _ _ _ (⟨(rd_T81 Z ac).f0, (rd_T81 Z ac).f1, (rd_T81 Z ac).f2⟩ : S81)); (case aF => exact (fun k_ hk => Kd.freshB (g := aa) (o := .cells #[.string bm, .string a4, .int .i64 a5] 81 (0, 0)) (Ab ag) k_ hk)); (case aO => exact (Ar a6)); (case aS => exact (keep_size (w := w) (g := g) (row := none) (Ak2 HK ao ap))); (case aL => have := hm.out; omega); intro nh nM ho hb hg hat; rw [← hF.out] at ho; replace l := bg l hg (Kd.R_ne a6.out l.out (by decide)); replace ag := bg ag hg (Kd.R_away a6.out (fun _ hk => hk)); replace HB := am (below_weaken (Ae3 HB (IsS47.gf B) aK aH) HL.out hb); replace B := am (IsS47.grown (by repeat (first | (with_reducible first | exact B.out | apply IsS47.alloc | apply IsS47.drewN | apply IsS47.drew | apply IsS47.set_1 | apply IsS47.far (p := ⟨aw, _, none⟩) (hne := co.out) | apply IsS47.far (p := ⟨aa, _, none⟩) (hne := bo.out)) | exact B.out)) hg (IsS47.own_ne B.out a6.out (by decide))); replace HK := am (KeepBut.trans (Ak2 HK ao ap) (KeepBut.of_grown hg g) (Kd.R_base2 a6.out)); have hj := am ho; clear a6; clear ho hb hg hat))
      go_roundg k1
      case measure => have := dU.out; omega
      case rel => exact ⟨(jg), (wrap64 (ac + 1)), be_, bj, ⟨(by have := dU.out; omega)⟩, Cr hj, Cb l, Cb ag, D4x2_⟩
     obtain ⟨rfl, rfl⟩ := s2 a7; clear a7 bD; obtain ⟨dT, iF⟩ := B.out; have oc := cellS47_0 dT; have od := cellS47_1 dT; have oo := blk_frozen dT 1; clear dT iF; obtain ⟨dP, d6, ip⟩ := Kd.R_slice a6.out; subst ip
     go_wp2
     go_ret
     exact ⟨_, B15x9_, B15x1_, (by first | exact Kd.R_lower (Kd.R_mono (IsS47.apart (show IsS47 w0 _ g (.slice aG aD.length ay) (.slice dP b3.length d6) from B15x1_) (tr (Kd.R_mono (Kd.R_far (p := ⟨g, 1, none⟩) (IsS47.apart B.out a6.out (by decide)) (fun _ hk => hk.2) (.slice dP b3.length d6)) (fun _ h_ => h_.1))) (by decide)) (fun _ h_ => h_.2)) HL.out | exact Kd.R_mono (IsS47.apart (show IsS47 w0 _ g (.slice aG aD.length ay) (.slice dP b3.length d6) from B15x1_) (tr (Kd.R_mono (Kd.R_far (p := ⟨g, 1, none⟩) (IsS47.apart B.out a6.out (by decide)) (fun _ hk => hk.2) (.slice dP b3.length d6)) (fun _ h_ => h_.1))) (by decide)) (fun _ h_ => h_.2)), (Ae3 HB (IsS47.gf B) aK aH), (Ak2 HK ao ap)⟩
   obtain ⟨rfl, rfl⟩ := s2 aZ; clear aZ aT aX a8
   go_wp2
   go_ret; exact ⟨_, D4x0_⟩
  obtain ⟨gg, gh⟩ := nE df
  obtain ⟨d1, bn⟩ | ⟨d1, bn⟩ := sp a8
  ·obtain ⟨hY, hZ⟩ := yE d1; clear d1
   obtain ⟨rfl, bX⟩ | ⟨rfl, bX⟩ := sb bn
   ·obtain ⟨d2, b4⟩ | ⟨d2, b4⟩ := sp bX
    ·obtain ⟨h0, h1⟩ := yE d2; clear d2; replace b4 := am b4; clear aT aX a8 bn bX; obtain ⟨kY, mf, kZ, mg⟩ := o4_ bG aA cJ bo; obtain ⟨jj, jk, jl, jm, jn, jo⟩ := cf3 ag; obtain ⟨iK, iO⟩ := o2_ cI co; obtain ⟨eu, ev, ew, ex, ey, ez, eE, eF, eG, eH, eI, eJ⟩ := cf6 l
     go_wp2
     go_meet
     case rel => exact ⟨_, b4, ⟨gl_⟩, Cp1 l aA, Cp0 ag, D4x2_⟩
    obtain ⟨h0, h1⟩ := nE d2; obtain ⟨dD, g8, bE⟩ := bsi b4; (try dsimp only at bE); obtain ⟨fg, bY⟩ := yn bE; have jE := eq_true fg; have jF := decide_eq_true fg
    try have h2 : (9223372036854775807 < 4 + dD.size) = False := eq_false (Nat.not_lt.2 fg)
    try (have h3 := h2; simp only [ByteArray.size_append] at h3)
    obtain ⟨rfl, rfl⟩ := s2 bY; clear bY aT aX a8 bn bX b4 bE; obtain ⟨k4, mj, iL, iP⟩ := o4_ bG aA cJ bo; obtain ⟨jj, jk, jl, jm, jn, jo⟩ := cf3 ag; obtain ⟨k6, mm⟩ := o2_ cI co; obtain ⟨eu, ev, ew, ex, ey, ez, eE, eF, eG, eH, eI, eJ⟩ := cf6 l
    go_wp2_with (first | ((with_reducible refine gate_callee (f := 89) rfl ?_); refine gM (some 84) Try.func89 (spec_Decimal.calls k a5 dD _ g8.out) ?_; rintro nP hb; replace HK := Ek2 HK ao ap hb; replace HB := De3 HB (IsS47.gf B) aK aH hb; replace B := am (IsS47.below (show IsS47 w0 (((br.setCell ⟨aa, 0, none⟩ (.string bm)).setCell ⟨aa, 1, none⟩ (.string a4)).setCell ⟨aa, 2, none⟩ (.int .i64 a5)) g (.slice aG aD.length ay) (.slice aE Z.length aB) from B15x1_) hb)))
    go_ret; exact ⟨_, D4x0_⟩
   obtain ⟨rfl, rfl⟩ := s2 bX; clear bX aT aX a8 bn
   go_wp2
   go_ret; exact ⟨_, D4x0_⟩
  obtain ⟨hY, hZ⟩ := nE d1; replace bn := am bn; clear aT aX a8
  go_wp2
  go_meet
  case rel => exact ⟨_, bn, ⟨gl_⟩, Cp1 l aA, Cp0 ag, D4x2_⟩
 clear aT
 obtain ⟨kq, a3, jq, l, ag, B, HK, HB⟩ := hcut
 cases kq with
 | zero => exact absurd a3.out (by simp [spec_l15Do.j1])
 | succ fw => ?_
 replace a3 := a3.out
 simp only [spec_l15Do.j1] at a3
 obtain ⟨⟨nc, gU⟩, fP, bF⟩ := bsi a3
 (try dsimp only at bF)
 obtain ⟨rfl, b5⟩ | ⟨rfl, b5⟩ := sb bF
 ·obtain ⟨dE, g9, bZ⟩ := bsi b5; (try dsimp only at bZ); obtain ⟨fh, cH⟩ := yn bZ; have jI := eq_true fh; have jJ := decide_eq_true fh
  try have h6 : (9223372036854775807 < 4 + dE.size) = False := eq_false (Nat.not_lt.2 fh)
  try (have h7 := h6; simp only [ByteArray.size_append] at h7)
  obtain ⟨rfl, rfl⟩ := s2 cH; clear cH a3 bF b5 bZ; obtain ⟨k9, mq, iM, iQ⟩ := o4_ aA bG cI co; obtain ⟨eu, ev, ew, ex, ey, ez, eE, eF, eG, eH, eI, eJ⟩ := cf6 l
  go_wp2_with (first | ((with_reducible refine gate_callee (f := 111) rfl ?_); refine gL (some 93) Try.func111 #[.pointer (some ⟨g, 0, none⟩), .agg #[.string ae, .string ai, .int .i64 a1]] ?_; refine (spec_l15Put.calls fw g aG ay aD aE aB Z ae ai a1 true gU w0 _ B15x1_ (Ae3 HB (IsS47.gf B) aK aH) (Kd.C_foot_step a2.out (Ak2 HK ao ap)) bh.out (Kd.C_foot_step aI.out (Ak2 HK ao ap)) bi.out B15x20_ fP.out).mono ?_; rintro e nR ⟨fD, rfl, hi, hl, hb, hk⟩; refine ⟨_, rfl, ?_⟩; replace l := kA hk l cI; have cZ := am hl; replace HK := Dk2 HK ao ap hk; replace HB := am hb; replace B := am hi) | ((with_reducible refine gate_callee (f := 89) rfl ?_); refine gM (some 96) Try.func89 (spec_Decimal.calls fw a1 dE _ g9.out) ?_; rintro jb hb; replace cZ := rA cZ hb; replace l := bA l hb; replace HK := Ek2 HK ao ap hb; replace HB := De3 HB (IsS47.gf B) aK aH hb; replace B := am (IsS47.below B15x1_ hb)))
  go_ret; exact ⟨_, B15x9_, B15x1_, B15x11_, (Ae3 HB (IsS47.gf B) aK aH), (Ak2 HK ao ap)⟩
 obtain ⟨rfl, rfl⟩ := s2 b5
 clear b5 a3 bF
 obtain ⟨lc, ms, ld, mt⟩ := o4_ aA bG cI co
 obtain ⟨eu, ev, ew, ex, ey, ez, eE, eF, eG, eH, eI, eJ⟩ := cf6 l
 go_wp2_with (first | ((with_reducible refine gate_callee (f := 111) rfl ?_); refine gL (some 93) Try.func111 #[.pointer (some ⟨g, 0, none⟩), .agg #[.string ae, .string ai, .int .i64 a1]] ?_; refine (spec_l15Put.calls fw g aG ay aD aE aB Z ae ai a1 false gU w0 _ B15x1_ (Ae3 HB (IsS47.gf B) aK aH) (Kd.C_foot_step a2.out (Ak2 HK ao ap)) bh.out (Kd.C_foot_step aI.out (Ak2 HK ao ap)) bi.out B15x20_ fP.out).mono ?_; rintro e nS ⟨fD, rfl, hi, hl, hb, hk⟩; refine ⟨_, rfl, ?_⟩; have cZ := am hl; replace HK := Dk2 HK ao ap hk; replace HB := am hb; replace B := am hi))
 go_ret
 exact ⟨_, B15x9_, B15x1_, B15x11_, (Ae3 HB (IsS47.gf B) aK aH), (Ak2 HK ao ap)⟩
theorem B16x28_ (h : p := by exact ⟨(Ap0 aY), eY.out⟩) : p := h
theorem B16x29_ (h : p := by have := cX.out; have := cY.out; first | omega | exact Nat.le_refl _) : p := h
mutual
def spec_Perform.j0 : Nat → Int → Bool → List (S83) → List (S81) → Int → Int → Int → ByteArray → ByteArray → Int → Option ((List (S83)) × (List (S81)) × ByteArray × Bool)
 | 0, _, _, _, _, _, _, _, _, _, _ => none
 | k + 1, x1, jc, aR, bz, b9, ca, bB, cu, cv, cw => if jc = true then (some (([] : List (S83)), ([] : List (S81)), (⟨#[]⟩ : ByteArray), false)) else (if b9 = 1 then ((spec_l15Open.f k aR bz x1).bind fun fb => (some (fb.1, fb.2.1, fb.2.2, true))) else (spec_Perform.l0 k x1 (-1) 0 aR bz b9 ca bB cu cv cw))
def spec_Perform.l0 : Nat → Int → Int → Int → List (S83) → List (S81) → Int → Int → Int → ByteArray → ByteArray → Int → Option ((List (S83)) × (List (S81)) × ByteArray × Bool)
 | 0, _, _, _, _, _, _, _, _, _, _, _ => none
 | k + 1, x1, aU, cT, aR, bz, b9, ca, bB, cu, cv, cw => if cT < (aR.length : Int) then (if 0 ≤ cT then (if ((rd_T83 aR cT).f0) = ca then (spec_Perform.l0 k x1 cT (wrap64 (cT + 1)) aR bz b9 ca bB cu cv cw) else (spec_Perform.l0 k x1 aU (wrap64 (cT + 1)) aR bz b9 ca bB cu cv cw)) else (none)) else (if aU < 0 then ((spec_l15Copy.f aR bz).bind fun f7 => (some (f7.1, f7.2, (⟨#[110, 111, 110, 101]⟩ : ByteArray), true))) else (if 0 ≤ aU then (if aU < (aR.length : Int) then (if bB = 0 then (spec_Perform.j2 k x1 aU true aR bz b9 ca bB cu cv cw ((rd_T83 aR aU).f0) ((rd_T83 aR aU).f1) ((rd_T83 aR aU).f2)) else (spec_Perform.j2 k x1 aU (decide (bB < ((rd_T83 aR aU).f1))) aR bz b9 ca bB cu cv cw ((rd_T83 aR aU).f0) ((rd_T83 aR aU).f1) ((rd_T83 aR aU).f2))) else (none)) else (none)))
def spec_Perform.j2 : Nat → Int → Int → Bool → List (S83) → List (S81) → Int → Int → Int → ByteArray → ByteArray → Int → Int → Int → ByteArray → Option ((List (S83)) × (List (S81)) × ByteArray × Bool)
 | 0, _, _, _, _, _, _, _, _, _, _, _, _, _, _ => none
 | k + 1, x1, aU, je, aR, bz, b9, ca, bB, cu, cv, cw, nV, gZ, jd => if je = true then ((spec_l15Copy.f aR bz).bind fun f8 => (some (f8.1, f8.2, (⟨#[111, 108, 100]⟩ : ByteArray), true))) else (if bB = gZ then ((spec_l15Copy.f aR bz).bind fun f9 => (some (f9.1, f9.2, jd, true))) else (if bB > (wrap64 (gZ + 1)) then ((spec_l15Copy.f aR bz).bind fun ga => (some (ga.1, ga.2, (⟨#[103, 97, 112]⟩ : ByteArray), true))) else ((spec_l15Copy.f aR bz).bind fun cM => ((spec_l15Do.f k cM.1 cM.2 x1 b9 ca bB cu cv cw).bind fun fc => (if 0 ≤ aU then (if aU < (cM.1.length : Int) then ((some (cM.1.set (aU : Int).toNat (⟨(rd_T83 cM.1 aU).f0, bB, (rd_T83 cM.1 aU).f2⟩ : S83) : List (S83))).bind fun be => (some ((be.set (aU : Int).toNat (⟨(rd_T83 be aU).f0, (rd_T83 be aU).f1, fc.1⟩ : S83)), fc.2, fc.1, true))) else (none)) else (none))))))
end
def spec_Perform.f (k : Nat) (U : List (S83)) (ax : List (S81)) (a1 : Int) (ak : Int) (au : Int) (ad : Int) (ae : ByteArray) (ai : ByteArray) (ar : Int) : Option ((List (S83)) × (List (S81)) × ByteArray × Bool) := (spec_KeepOk.f k U ax).bind fun gV => (if gV = true then ((spec_l01In.f a1 1 1000000).bind fun gW => (if gW = true then (if a1 > 400000 then (spec_Perform.j0 k a1 true U ax ak au ad ae ai ar) else ((spec_CommandOk.f k ak au ad ae ai ar).bind fun eh => (spec_Perform.j0 k a1 (!eh) U ax ak au ad ae ai ar))) else (spec_Perform.j0 k a1 true U ax ak au ad ae ai ar))) else (spec_Perform.j0 k a1 true U ax ak au ad ae ai ar))
def spec_Perform.T10 : Bool × List (List Nat × List Nat) := (true, [([], []), ([0], [0]), ([], []), ([1, 2], [1, 2]), ([3], [3]), ([4], [4]), ([], []), ([6], [6]), ([5, 7], [5, 7])])
def spec_Perform.B10 : List Nat := [0, 1, 0, 7, 15, 31, 0, 64, 255]
theorem spec_Perform.tab10 : rtab .any (opsOf Try.f100 10) = spec_Perform.T10 := by kernel_rfl
theorem spec_Perform.bits10 : waitsOk spec_Perform.T10.2 spec_Perform.B10 = true := by kernel_rfl
theorem spec_Perform.calls (k : Nat) (aG : Option Addr) (ay : Nat) (U : List (S83)) (aE : Option Addr) (aB : Nat) (ax : List (S81)) (a1 : Int) (ak : Int) (au : Int) (ad : Int) (ae : ByteArray) (ai : ByteArray) (ar : Int) (r1 : List (S83)) (r2 : List (S81)) (r3 : ByteArray) (r4 : Bool) (w : World) (dq : Kd.C k83 w aG U.length U) (dl : U.length ≤ ay) (dr : Kd.C k81 w aE ax.length ax) (dm : ax.length ≤ aB) (h : spec_Perform.f k U ax a1 ak au ad ae ai ar = some (r1, r2, r3, r4)) :
  Calls Try.prog 100 #[.agg #[.slice aG U.length ay, .slice aE ax.length aB], .int .i64 a1, .agg #[.int .i64 ak, .int .i64 au, .int .i64 ad, .string ae, .string ai, .int .i64 ar]] w fun e w' => ∃ dG dH : Value, e = .returned (.tuple #[.agg #[dG, dH], .string r3, .bool r4]) ∧ Kd.R k83 83 w' w.heap.size (fun _ => True) dG r1 ∧ Kd.R k81 81 w' w.heap.size (fun _ => True) dH r2 ∧ Below w.heap.size w w' := by
 have gR := Try.underlying47
 have iU := Try.underlying59
 have m2 := Try.underlying83
 have a2 := am dq
 have bh := am dl
 clear dq dl
 have aI := am dr
 have bi := am dm
 clear dr dm
 have HB := am (Below.refl w.heap.size w)
 have aQ := h
 clear h
 unfold spec_Perform.f at aQ
 replace aQ := am aQ
 go_enter Try.func100, Try.ntmps100
 go_upto_region 1 with (first | ((with_reducible refine gate_dst (N := 3) rfl ?_); refine bx (N := 3) (cs := #[.slice aG U.length ay, .slice aE ax.length aB]) (t := 47) ?_; intro b2 hg w5 hbox hb; have z := am hbox; have ah := gA hg HB; replace HB := hA HB hb; clear hb hbox hg) | ((with_reducible refine gate_dst (N := 5) rfl ?_); refine bx (N := 5) (cs := #[.int .i64 ak, .int .i64 au, .int .i64 ad, .string ae, .string ai, .int .i64 ar]) (t := 59) ?_; intro bd hg w6 hbox hb; have D := am hbox; have aj := gA hg HB; replace HB := De1 HB ah hb; have a9 := nA hg z; have ba := mA hg z; replace z := bA z hb; clear hb hbox hg) | ((with_reducible refine gate_dst (N := 6) rfl ?_); refine bx (N := 6) (cs := #[.slice none 0 0, .slice none 0 0]) (t := 47) ?_; intro af hg w7 hbox hb; have q := am hbox; have al := gA hg HB; replace HB := De2 HB ah aj hb; have a0 := nA hg z; have bk := mA hg z; replace z := bA z hb; have bu := nA hg D; have bv := mA hg D; replace D := bA D hb; clear hb hbox hg))
 (try simp only [Act.put, List.setIfInBounds_toArray, List.set_cons_zero, List.set_cons_succ])
 go_cut [32] (fun i6 wc => ∃ (kq : Nat) (fJ : Bool), i6 = .bool fJ ∧ Aside0 (spec_Perform.j0 kq a1 fJ U ax ak au ad ae ai ar = some (r1, r2, r3, r4)) ∧ Aside0 (kq ≤ k) ∧ Hc wc b2 #[(.slice aG U.length ay), (.slice aE ax.length aB)] 47 ∧ Hc wc bd #[.int .i64 ak, .int .i64 au, .int .i64 ad, .string ae, .string ai, .int .i64 ar] 59 ∧ Hc wc af #[(.slice none 0 0), (.slice none 0 0)] 47 ∧ Hb w wc)
 case first =>
  replace aQ := aQ.out; obtain ⟨gV, A8, aT⟩ := bsi aQ; (try dsimp only at aT)
  obtain ⟨rfl, aX⟩ | ⟨rfl, aX⟩ := sb aT
  ·obtain ⟨gW, eN, bJ⟩ := bsi aX; (try dsimp only at bJ)
   obtain ⟨rfl, bK⟩ | ⟨rfl, bK⟩ := sb bJ
   ·obtain ⟨db, b6⟩ | ⟨db, b6⟩ := sp bK
    ·have dd : decide (400000 < a1) = true := decide_eq_true db
     clear db
     (first | rw [dd] | (simp only [i64_w, i32_w]; rw [dd]) | skip)
     replace b6 := am b6; clear aQ aT aX bJ bK; obtain ⟨ku, lI, iJ, iN⟩ := o4_ a9 ba a0 bk; obtain ⟨bS, bT, bU, bV⟩ := cf2 z
     go_wp2_with (first | ((with_reducible refine gate_callee (f := 28) rfl ?_); refine gM (some 17) Try.func28 (spec_KeepOk.calls k _ _ U _ _ ax true _ (tc (Kd.C_below a2.out HB.out)) bh.out (tc (Kd.C_below aI.out HB.out)) bi.out A8.out) ?_; rintro nG hb; replace z := bA z hb; replace D := bA D hb; replace q := bA q hb; replace HB := De3 HB ah aj al hb) | (go_at_call 47; refine (spec_l01In.calls a1 1 1000000 true _ eN.out).mono ?_; rintro e w' ⟨rfl, ⟨nd, rfl⟩⟩))
     go_meet
     case rel => exact ⟨_, true, be_, b6, ⟨gl_⟩, D4x3_⟩
    have dd : decide (400000 < a1) = false := decide_eq_false db
    clear db
    (first | rw [dd] | (simp only [i64_w, i32_w]; rw [dd]) | skip)
    obtain ⟨eh, g5, cx⟩ := bsi b6; (try dsimp only at cx); replace cx := am cx; clear aQ aT aX bJ bK b6; obtain ⟨kM, l3, kN, l4⟩ := o4_ a9 ba a0 bk; obtain ⟨bS, bT, bU, bV⟩ := cf2 z
    go_wp2_with (first | ((with_reducible refine gate_callee (f := 28) rfl ?_); refine gM (some 17) Try.func28 (spec_KeepOk.calls k _ _ U _ _ ax true _ (tc (Kd.C_below a2.out HB.out)) bh.out (tc (Kd.C_below aI.out HB.out)) bi.out A8.out) ?_; rintro nH hb; replace z := bA z hb; replace D := bA D hb; replace q := bA q hb; replace HB := De3 HB ah aj al hb) | (go_at_call 47; refine (spec_l01In.calls a1 1 1000000 true _ eN.out).mono ?_; rintro e w' ⟨rfl, ⟨nd, rfl⟩⟩; have kO := bu.out; have l5 := bv.out; obtain ⟨cc, cd, ce, cf, cg, ch, ci, cj, ck, cl, cm, cn⟩ := cf6 D) | (go_at_call 36; refine (spec_CommandOk.calls k ak au ad ae ai ar eh _ g5.out).mono ?_; rintro e i9 ⟨rfl, hb⟩; replace z := bA z hb; replace D := bA D hb; replace q := bA q hb; replace HB := De3 HB ah aj al hb))
    go_meet
    case rel => exact ⟨_, (!eh), be_, cx, ⟨gl_⟩, D4x3_⟩
   replace bK := am bK; clear aQ aT aX bJ; obtain ⟨kP, l6, kQ, l7⟩ := o4_ a9 ba a0 bk; obtain ⟨bS, bT, bU, bV⟩ := cf2 z
   go_wp2_with (first | ((with_reducible refine gate_callee (f := 28) rfl ?_); refine gM (some 17) Try.func28 (spec_KeepOk.calls k _ _ U _ _ ax true _ (tc (Kd.C_below a2.out HB.out)) bh.out (tc (Kd.C_below aI.out HB.out)) bi.out A8.out) ?_; rintro ja hb; replace z := bA z hb; replace D := bA D hb; replace q := bA q hb; replace HB := De3 HB ah aj al hb) | (go_at_call 47; refine (spec_l01In.calls a1 1 1000000 false _ eN.out).mono ?_; rintro e w' ⟨rfl, ⟨nd, rfl⟩⟩))
   go_meet
   case rel => exact ⟨_, true, be_, bK, ⟨gl_⟩, D4x3_⟩
  replace aX := am aX; clear aQ aT; obtain ⟨kR, l8, kS, l9⟩ := o4_ a9 ba a0 bk; obtain ⟨bS, bT, bU, bV⟩ := cf2 z
  go_wp2_with (first | ((with_reducible refine gate_callee (f := 28) rfl ?_); refine gM (some 17) Try.func28 (spec_KeepOk.calls k _ _ U _ _ ax false _ (tc (Kd.C_below a2.out HB.out)) bh.out (tc (Kd.C_below aI.out HB.out)) bi.out A8.out) ?_; rintro nJ hb; replace z := bA z hb; replace D := bA D hb; replace q := bA q hb; replace HB := De3 HB ah aj al hb))
  go_meet
  case rel => exact ⟨_, true, be_, aX, ⟨gl_⟩, D4x3_⟩
 clear aQ
 obtain ⟨kq, fJ, rfl, bL, cX, z, D, q, HB⟩ := hcut
 cases kq with
 | zero => exact absurd bL.out (by simp [spec_Perform.j0])
 | succ fv => ?_
 replace bL := bL.out
 simp only [spec_Perform.j0] at bL
 obtain ⟨rfl, a8⟩ | ⟨rfl, a8⟩ := sb bL
 ·obtain ⟨rfl, rfl, rfl, rfl⟩ := s4 a8; clear a8 bL; obtain ⟨kT, ma, kU, mb⟩ := o4_ bk a0 bv bu; obtain ⟨dJ, dK, dL, dM⟩ := cf2 q
  go_wp2
  refine bodyPost_ret (results_ctt rfl _ _ af 47 #[.slice none 0 0, .slice none 0 0] (0, 0) _ rfl (Ap0 q) Try.underlying47 rfl gk_) rfl ?_; exact ⟨_, _, B15x9_, gn_, gn_, (Ae3 HB ah aj al)⟩
 obtain ⟨cO, aZ⟩ | ⟨cO, aZ⟩ := sp a8
 ·obtain ⟨fe, ff⟩ := yE cO; clear cO; obtain ⟨⟨cP, cQ, i2⟩, g7, bD⟩ := bsi aZ; (try dsimp only at bD); obtain ⟨rfl, rfl, rfl, rfl⟩ := s4 bD; clear bD bL a8 aZ; obtain ⟨kV, mc, kW, md⟩ := o4_ ba a9 bu bv; obtain ⟨cc, cd, ce, cf, cg, ch, ci, cj, ck, cl, cm, cn⟩ := cf6 D; obtain ⟨kX, me⟩ := o2_ a0 bk; obtain ⟨bS, bT, bU, bV⟩ := cf2 z
  go_wp2_with (first | ((with_reducible refine gate_callee (f := 106) rfl ?_); refine gL (some 40) Try.func106 #[.agg #[.slice aG U.length ay, .slice aE ax.length aB], .int .i64 a1] ?_; refine (spec_l15Open.calls fv _ _ U _ _ ax a1 cP cQ i2 _ (tc (Kd.C_below a2.out HB.out)) bh.out (tc (Kd.C_below aI.out HB.out)) bi.out g7.out).mono ?_; rintro e nN ⟨ni, nj, rfl, bM, bN, hb⟩; refine ⟨_, rfl, ?_⟩; have dV := am (Kd.R_lower bM (below_size (Ae3 HB ah aj al))); have dW := am (Kd.R_lower bN (below_size (Ae3 HB ah aj al))); replace z := bA z hb; replace D := bA D hb; replace q := bA q hb; replace HB := De3 HB ah aj al hb) | ((with_reducible refine gate_dst (N := 9) rfl ?_); refine bx (N := 9) (cs := #[.slice none 0 0, .slice none 0 0]) (t := 47) ?_; intro d7 hg nO hbox hb; replace dV := rA dV hb; replace dW := rA dW hb; have eX := am hbox; have hf := gA hg HB; replace HB := De3 HB ah aj al hb; have hs := nA hg z; have hu := mA hg z; replace z := bA z hb; have ht := nA hg D; have hv := mA hg D; replace D := bA D hb; have f4 := nA hg q; have hx := mA hg q; replace q := bA q hb; clear hb hbox hg; obtain ⟨cU, di, iq⟩ := Kd.R_slice dV.out; subst iq; have k0 := hu.out; have mh := hs.out; have iK := hv.out; have iO := ht.out; have k3 := hx.out; have mi := f4.out; obtain ⟨nW, nX, oe, og⟩ := cf2 eX; obtain ⟨cV, dj, ir⟩ := Kd.R_slice dW.out; subst ir; obtain ⟨dJ, dK, dL, dM⟩ := cf2 q))
  refine bodyPost_ret (results_ctt rfl _ _ af 47 #[.slice cU cP.length di, .slice cV cQ.length dj] (0, 0) _ rfl (Ap1 q f4) Try.underlying47 rfl gk_) rfl ?_; exact ⟨_, _, B15x9_, (by (with_reducible repeat (first | apply Kd.R_alloc | apply Kd.R_drewN | apply Kd.R_drew)); exact Kd.R_mono (Kd.R_far (p := ⟨af, 1, none⟩) (Kd.R_far (p := ⟨af, 0, none⟩) (Kd.R_far (p := ⟨d7, 1, none⟩) (Kd.R_far (p := ⟨d7, 0, none⟩) (Kd.R_types (Kd.R_types dV.out eX.out (by decide)) q.out (by decide)) (fun _ hk => hk.1.2) (.slice cU cP.length di)) (fun _ hk => hk.1.2) (.slice cV cQ.length dj)) (fun _ hk => hk.2) (.slice cU cP.length di)) (fun _ hk => hk.2) (.slice cV cQ.length dj)) (fun _ hk => trivial)), (by (with_reducible repeat (first | apply Kd.R_alloc | apply Kd.R_drewN | apply Kd.R_drew)); exact Kd.R_mono (Kd.R_far (p := ⟨af, 1, none⟩) (Kd.R_far (p := ⟨af, 0, none⟩) (Kd.R_far (p := ⟨d7, 1, none⟩) (Kd.R_far (p := ⟨d7, 0, none⟩) (Kd.R_types (Kd.R_types dW.out eX.out (by decide)) q.out (by decide)) (fun _ hk => hk.1.2) (.slice cU cP.length di)) (fun _ hk => hk.1.2) (.slice cV cQ.length dj)) (fun _ hk => hk.2) (.slice cU cP.length di)) (fun _ hk => hk.2) (.slice cV cQ.length dj)) (fun _ hk => trivial)), (Ae4 HB ah aj al hf)⟩
 obtain ⟨fe, ff⟩ := nE cO
 replace aZ := am aZ
 clear bL a8
 obtain ⟨iL, iP, k5, ml⟩ := o4_ ba a9 bu bv
 obtain ⟨cc, cd, ce, cf, cg, ch, ci, cj, ck, cl, cm, cn⟩ := cf6 D
 go_wp2
 go_loopg [11, 12] fv (fun kq i4 i5 w' => ∃ (J : Int) (aJ : Int), i4 = .int .i64 J ∧ i5 = .int .i64 aJ ∧ Aside0 (spec_Perform.l0 kq a1 J aJ U ax ak au ad ae ai ar = some (r1, r2, r3, r4)) ∧ Aside0 (kq ≤ fv) ∧ Aside0 (w'.heap[b2]? = some (.cells #[(.slice aG U.length ay), (.slice aE ax.length aB)] 47 (0, 0))) ∧ Aside0 (w'.heap[bd]? = some (.cells #[.int .i64 ak, .int .i64 au, .int .i64 ad, .string ae, .string ai, .int .i64 ar] 59 (0, 0))) ∧ Aside0 (w'.heap[af]? = some (.cells #[(.slice none 0 0), (.slice none 0 0)] 47 (0, 0))) ∧ Aside0 (Below w.heap.size w w'))
 case atStart => exact ⟨((-1)), 0, be_, be_, aZ, ⟨Nat.le_refl _⟩, D4x3_⟩
 case round =>
  clear aZ
  try clear hX
  try clear cO
  try clear fe
  try clear ff
  obtain ⟨J, aJ, rfl, rfl, a7, cY, z, D, q, HB⟩ := hrel
  cases gk with
  | zero => exact absurd a7.out (by simp [spec_Perform.l0])
  | succ k2 => ?_
  replace a7 := a7.out; simp only [spec_Perform.l0] at a7
  obtain ⟨gi, bI⟩ | ⟨gi, bI⟩ := sd a7
  ·obtain ⟨jH, bW⟩ := yd bI
   obtain ⟨d3, bj⟩ | ⟨d3, bj⟩ := sp bW
   ·obtain ⟨h4, h5⟩ := yE d3; clear d3; replace bj := am bj; clear a7 bI bW; obtain ⟨k7, mo, k8, mp⟩ := o4_ a9 ba a0 bk; obtain ⟨bS, bT, bU, bV⟩ := cf2 z
    try go_wp2
    replace z := dA z; replace D := dA D; replace q := dA q; replace HB := bdr HB
    have cD : 0 ≤ (aJ : Int) := dga
    have cF : aJ < (U.length : Int) := dga
    obtain ⟨bw, fs, bO, bP, bQ⟩ := at_T83 a2.out aJ cD cF; have dv := bQ; have du := bP; have dt := bO; cases fs; replace bO := (hbc HB bO).trans bO; replace bP := (hbc HB bP).trans bP; replace bQ := (hbc HB bQ).trans bQ; replace cD := eq_true cD; replace cF := eq_true cF; refine st_ 9 (fun w' => w'.cell? ⟨b2, 0, none⟩ = some (.slice (some bw) U.length ay) ∧ w'.cell? ⟨b2, 1, none⟩ = some (.slice aE ax.length aB) ∧ w'.cell? ⟨bd, 0, none⟩ = some (.int .i64 ak) ∧ w'.cell? ⟨bd, 1, none⟩ = some (.int .i64 au) ∧ w'.cell? ⟨bd, 2, none⟩ = some (.int .i64 ad) ∧ w'.cell? ⟨bd, 3, none⟩ = some (.string ae) ∧ w'.cell? ⟨bd, 4, none⟩ = some (.string ai) ∧ w'.cell? ⟨bd, 5, none⟩ = some (.int .i64 ar) ∧ w'.cell? (bw.add ((aJ).toNat * 3)) = some (.int .i64 ((rd_T83 U aJ).f0)) ∧ w'.cell? ⟨(bw.add ((aJ).toNat * 3)).block, (bw.add ((aJ).toNat * 3)).off + 1, none⟩ = some (.int .i64 ((rd_T83 U aJ).f1)) ∧ w'.cell? ⟨(bw.add ((aJ).toNat * 3)).block, (bw.add ((aJ).toNat * 3)).off + 2, none⟩ = some (.string ((rd_T83 U aJ).f2))) [] spec_Perform.tab10 spec_Perform.bits10 D4x4_ (fun Y M aV => ?_); generalize wr.drew = nQ at z D q HB bO bP bQ Y ⊢; refine pu_ 0 52 M ?_; refine pu_ 2 54 M ?_; refine pu_ 6 58 M ?_; refine ta_ 1 53 M aV Y ?_; refine pu_ 3 55 M ?_; refine pu_ 4 56 M ?_; refine ta_ 5 57 M aV Y ?_; refine ta_ 7 59 M aV Y ?_; refine pu_ 8 60 M ?_; refine done_ (done_of M.out gk_) ?_
    try go_wp2
    go_roundg k2
    case measure => have := cX.out; have := cY.out; omega
    case rel => exact ⟨(aJ), (wrap64 (aJ + 1)), be_, be_, bj, ⟨(by have := cX.out; have := cY.out; omega)⟩, D4x3_⟩
   obtain ⟨h4, h5⟩ := nE d3; replace bj := am bj; clear a7 bI bW; obtain ⟨iM, iQ, lb, mr⟩ := o4_ a9 ba a0 bk; obtain ⟨bS, bT, bU, bV⟩ := cf2 z
   try go_wp2
   replace z := dA z; replace D := dA D; replace q := dA q; replace HB := bdr HB
   have cD : 0 ≤ (aJ : Int) := dga
   have cF : aJ < (U.length : Int) := dga
   obtain ⟨bw, fs, bO, bP, bQ⟩ := at_T83 a2.out aJ cD cF; have dv := bQ; have du := bP; have dt := bO; cases fs; replace bO := (hbc HB bO).trans bO; replace bP := (hbc HB bP).trans bP; replace bQ := (hbc HB bQ).trans bQ; replace cD := eq_true cD; replace cF := eq_true cF; refine st_ 9 (fun w' => w'.cell? ⟨b2, 0, none⟩ = some (.slice (some bw) U.length ay) ∧ w'.cell? ⟨b2, 1, none⟩ = some (.slice aE ax.length aB) ∧ w'.cell? ⟨bd, 0, none⟩ = some (.int .i64 ak) ∧ w'.cell? ⟨bd, 1, none⟩ = some (.int .i64 au) ∧ w'.cell? ⟨bd, 2, none⟩ = some (.int .i64 ad) ∧ w'.cell? ⟨bd, 3, none⟩ = some (.string ae) ∧ w'.cell? ⟨bd, 4, none⟩ = some (.string ai) ∧ w'.cell? ⟨bd, 5, none⟩ = some (.int .i64 ar) ∧ w'.cell? (bw.add ((aJ).toNat * 3)) = some (.int .i64 ((rd_T83 U aJ).f0)) ∧ w'.cell? ⟨(bw.add ((aJ).toNat * 3)).block, (bw.add ((aJ).toNat * 3)).off + 1, none⟩ = some (.int .i64 ((rd_T83 U aJ).f1)) ∧ w'.cell? ⟨(bw.add ((aJ).toNat * 3)).block, (bw.add ((aJ).toNat * 3)).off + 2, none⟩ = some (.string ((rd_T83 U aJ).f2))) [] spec_Perform.tab10 spec_Perform.bits10 D4x4_ (fun Y M aV => ?_); generalize wr.drew = jb at z D q HB bO bP bQ Y ⊢; refine pu_ 0 52 M ?_; refine pu_ 2 54 M ?_; refine pu_ 6 58 M ?_; refine ta_ 1 53 M aV Y ?_; refine pu_ 3 55 M ?_; refine pu_ 4 56 M ?_; refine ta_ 5 57 M aV Y ?_; refine ta_ 7 59 M aV Y ?_; refine pu_ 8 60 M ?_; refine done_ (done_of M.out gk_) ?_
   try go_wp2
   go_roundg k2
   case measure => have := cX.out; have := cY.out; omega
   case rel => exact ⟨(J), (wrap64 (aJ + 1)), be_, be_, bj, ⟨(by have := cX.out; have := cY.out; omega)⟩, D4x3_⟩
  obtain ⟨gj, bn⟩ | ⟨gj, bn⟩ := sd bI
  ·obtain ⟨⟨ei, ej⟩, ha, bX⟩ := bsi bn; (try dsimp only at bX); obtain ⟨rfl, rfl, rfl, rfl⟩ := s4 bX; clear bX a7 bI bn; obtain ⟨lf, mw, lg, my⟩ := o4_ a9 ba a0 bk; obtain ⟨bS, bT, bU, bV⟩ := cf2 z
   go_wp2_with (first | ((with_reducible refine gate_callee (f := 58) rfl ?_); refine gL (some 65) Try.func58 #[.agg #[.slice aG U.length ay, .slice aE ax.length aB]] ?_; refine (spec_l15Copy.calls _ _ U _ _ ax ei ej _ (tc (Kd.C_below a2.out HB.out)) bh.out (tc (Kd.C_below aI.out HB.out)) bi.out ha.out).mono ?_; rintro e nT ⟨nk, nm, rfl, bM, bN, hb⟩; refine ⟨_, rfl, ?_⟩; have fS := am (Kd.R_lower bM (below_size (Ae3 HB ah aj al))); have fT := am (Kd.R_lower bN (below_size (Ae3 HB ah aj al))); replace z := bA z hb; replace D := bA D hb; replace q := bA q hb; replace HB := De3 HB ah aj al hb; obtain ⟨eV, fp, iu⟩ := Kd.R_slice fS.out; subst iu; have lh := bv.out; have mz := bu.out; obtain ⟨dJ, dK, dL, dM⟩ := cf2 q; obtain ⟨eW, fq, iv⟩ := Kd.R_slice fT.out; subst iv))
   refine bodyPost_ret (results_ctt rfl _ _ af 47 #[.slice eV ei.length fp, .slice eW ej.length fq] (0, 0) _ rfl (Ap0 q) Try.underlying47 rfl gk_) rfl ?_; exact ⟨_, _, B15x9_, (by (with_reducible repeat (first | apply Kd.R_alloc | apply Kd.R_drewN | apply Kd.R_drew)); exact Kd.R_mono (Kd.R_far (p := ⟨af, 1, none⟩) (Kd.R_far (p := ⟨af, 0, none⟩) (Kd.R_types fS.out q.out (by decide)) (fun _ hk => hk.2) (.slice eV ei.length fp)) (fun _ hk => hk.2) (.slice eW ej.length fq)) (fun _ hk => trivial)), (by (with_reducible repeat (first | apply Kd.R_alloc | apply Kd.R_drewN | apply Kd.R_drew)); exact Kd.R_mono (Kd.R_far (p := ⟨af, 1, none⟩) (Kd.R_far (p := ⟨af, 0, none⟩) (Kd.R_types fT.out q.out (by decide)) (fun _ hk => hk.2) (.slice eV ei.length fp)) (fun _ hk => hk.2) (.slice eW ej.length fq)) (fun _ hk => trivial)), (Ae3 HB ah aj al)⟩
  obtain ⟨h8, b4⟩ := yd bn; obtain ⟨h9, bE⟩ := yd b4; replace bE := am bE; clear a7 bI bn b4; obtain ⟨li, mB, lj, mC⟩ := o4_ a9 ba a0 bk; obtain ⟨bS, bT, bU, bV⟩ := cf2 z
  have ef : 0 ≤ (J : Int) := dga
  have eg : J < (U.length : Int) := dga
  obtain ⟨cy, ie, ec, ed, ee⟩ := at_T83 a2.out J ef eg; cases ie; replace ec := (hbc HB ec).trans ec; replace ed := (hbc HB ed).trans ed; replace ee := (hbc HB ee).trans ee; replace ef := eq_true ef; replace eg := eq_true eg
  go_upto_region 15 with (first | ((with_reducible refine gate_dst (N := 13) rfl ?_); refine bx (N := 13) (cs := #[.int .i64 0, .int .i64 0, .string (⟨#[]⟩ : ByteArray)]) (t := 83) ?_; intro bq hg nU hbox hb; have av := am hbox; have aW := gA hg HB; replace HB := De3 HB ah aj al hb; have cp := nA hg z; have cK := mA hg z; replace z := bA z hb; have cq := nA hg D; have cL := mA hg D; replace D := bA D hb; have b1 := nA hg q; have bp := mA hg q; replace q := bA q hb; clear hb hbox hg; have lk := cK.out; have mD := cp.out; have ll := cL.out; have mE := cq.out; have lm := bp.out; have mF := b1.out; obtain ⟨eB, eC, eD, eK, eL, eM⟩ := cf3 av))
  (try simp only [Act.put, List.setIfInBounds_toArray, List.set_cons_zero, List.set_cons_succ])
  go_cut [80] (fun i7 wc => ∃ (kq : Nat) (fK : Bool), i7 = .bool fK ∧ Aside0 (spec_Perform.j2 kq a1 J fK U ax ak au ad ae ai ar ((rd_T83 U J).f0) ((rd_T83 U J).f1) ((rd_T83 U J).f2) = some (r1, r2, r3, r4)) ∧ Aside0 (kq ≤ k2) ∧ Hc wc b2 #[(.slice (some cy) U.length ay), (.slice aE ax.length aB)] 47 ∧ Hc wc bd #[.int .i64 ak, .int .i64 au, .int .i64 ad, .string ae, .string ai, .int .i64 ar] 59 ∧ Hc wc af #[(.slice none 0 0), (.slice none 0 0)] 47 ∧ Hc wc bq #[.int .i64 ((rd_T83 U J).f0), .int .i64 ((rd_T83 U J).f1), .string ((rd_T83 U J).f2)] 83 ∧ Hb w wc)
  case first =>
   replace bE := bE.out
   obtain ⟨d4, bY⟩ | ⟨d4, bY⟩ := sp bE
   ·obtain ⟨dh, ia⟩ := yE d4; clear d4
    (first | rw [dh] | (simp only [i64_w, i32_w]; rw [dh]) | skip)
    replace bY := am bY; clear bE; obtain ⟨ln, mG, lp, mH, lq, mI⟩ := o6_ ba a9 bu bv cq cL; obtain ⟨cc, cd, ce, cf, cg, ch, ci, cj, ck, cl, cm, cn⟩ := cf6 D
    go_wp2
    go_meet
    case rel => exact ⟨_, true, be_, bY, ⟨B16x29_⟩, Cp1 z cp, Cp1 D cq, Cp1 q b1, Cp0 av, Ce4 HB ah aj al aW⟩
   obtain ⟨dh, ia⟩ := nE d4
   (first | rw [dh] | (simp only [i64_w, i32_w]; rw [dh]) | skip)
   replace bY := am bY; clear bE; obtain ⟨lr, mJ, ls, mK, lu, mL⟩ := o6_ ba a9 bu bv cq cL; obtain ⟨cc, cd, ce, cf, cg, ch, ci, cj, ck, cl, cm, cn⟩ := cf6 D; obtain ⟨lv, mM, lw, mN⟩ := o4_ cK cp bp b1; obtain ⟨eB, eC, eD, eK, eL, eM⟩ := cf3 av
   go_wp2
   go_meet
   case rel => exact ⟨_, (decide (ad < ((rd_T83 U J).f1))), be_, bY, ⟨B16x29_⟩, Cp1 z cp, Cp1 D cq, Cp1 q b1, Cp0 av, Ce4 HB ah aj al aW⟩
  clear bE
  try clear hX
  try clear cO
  try clear fe
  try clear ff
  try clear jG
  try clear gi
  try clear jK
  try clear gj
  try clear jL
  try clear h8
  try clear jM
  try clear h9
  try clear ec
  try clear ed
  try clear ee
  try clear ef
  try clear eg
  obtain ⟨kq, fK, rfl, a3, jr, z, D, q, av, HB⟩ := hcut
  cases kq with
  | zero => exact absurd a3.out (by simp [spec_Perform.j2])
  | succ i1 => ?_
  replace a3 := a3.out; simp only [spec_Perform.j2] at a3
  obtain ⟨rfl, bF⟩ | ⟨rfl, bF⟩ := sb a3
  ·obtain ⟨⟨ek, el⟩, g0, b5⟩ := bsi bF; (try dsimp only at b5); obtain ⟨rfl, rfl, rfl, rfl⟩ := s4 b5; clear b5 a3 bF; obtain ⟨ki, lx, kj, ly, kk, lz⟩ := o6_ a9 ba a0 bk cp cK; obtain ⟨bS, bT, bU, bV⟩ := cf2 z
   go_wp2_with (first | ((with_reducible refine gate_callee (f := 58) rfl ?_); refine gL (some 82) Try.func58 #[.agg #[.slice (some cy) U.length ay, .slice aE ax.length aB]] ?_; refine (spec_l15Copy.calls _ _ U _ _ ax ek el _ (tc (Kd.C_below a2.out HB.out)) bh.out (tc (Kd.C_below aI.out HB.out)) bi.out g0.out).mono ?_; rintro e nz ⟨nn, np, rfl, bM, bN, hb⟩; refine ⟨_, rfl, ?_⟩; have fU := am (Kd.R_lower (Kd.R_newB bM (g := bq) (o := .cells #[.int .i64 ((rd_T83 U J).f0), .int .i64 ((rd_T83 U J).f1), .string ((rd_T83 U J).f2)] 83 (0, 0)) (Ab av)) (below_size (Ae4 HB ah aj al aW))); have fV := am (Kd.R_lower bN (below_size (Ae4 HB ah aj al aW))); replace z := bA z hb; replace D := bA D hb; replace q := bA q hb; replace av := bA av hb; replace HB := De4 HB ah aj al aW hb; obtain ⟨eO, fi, ig⟩ := Kd.R_slice fU.out; subst ig; have kl := bv.out; have lA := bu.out; have km := b1.out; have lB := bp.out; obtain ⟨dJ, dK, dL, dM⟩ := cf2 q; obtain ⟨eP, fj, ih⟩ := Kd.R_slice fV.out; subst ih))
   refine bodyPost_ret (results_ctt rfl _ _ af 47 #[.slice eO ek.length fi, .slice eP el.length fj] (0, 0) _ rfl (Ap0 q) Try.underlying47 rfl gk_) rfl ?_; exact ⟨_, _, B15x9_, (by (with_reducible repeat (first | apply Kd.R_alloc | apply Kd.R_drewN | apply Kd.R_drew)); exact Kd.R_mono (Kd.R_far (p := ⟨af, 1, none⟩) (Kd.R_far (p := ⟨af, 0, none⟩) (Kd.R_types fU.out q.out (by decide)) (fun _ hk => hk.2) (.slice eO ek.length fi)) (fun _ hk => hk.2) (.slice eP el.length fj)) (fun _ hk => trivial)), (by (with_reducible repeat (first | apply Kd.R_alloc | apply Kd.R_drewN | apply Kd.R_drew)); exact Kd.R_mono (Kd.R_far (p := ⟨af, 1, none⟩) (Kd.R_far (p := ⟨af, 0, none⟩) (Kd.R_types fV.out q.out (by decide)) (fun _ hk => hk.2) (.slice eO ek.length fi)) (fun _ hk => hk.2) (.slice eP el.length fj)) (fun _ hk => trivial)), (Ae4 HB ah aj al aW)⟩
  obtain ⟨dX, bZ⟩ | ⟨dX, bZ⟩ := sp bF
  ·obtain ⟨hL, hM⟩ := yE dX; clear dX; obtain ⟨⟨em, en⟩, g1, cH⟩ := bsi bZ; (try dsimp only at cH); obtain ⟨rfl, rfl, rfl, rfl⟩ := s4 cH; clear cH a3 bF bZ; obtain ⟨kn, lC, ko, lD, kp, lE⟩ := o6_ ba a9 bu bv cq cL; obtain ⟨cc, cd, ce, cf, cg, ch, ci, cj, ck, cl, cm, cn⟩ := cf6 D; obtain ⟨kr, lF, ks, lG⟩ := o4_ cK cp bp b1; obtain ⟨eB, eC, eD, eK, eL, eM⟩ := cf3 av
   try go_wp2
   replace z := dA z; replace D := dA D; replace q := dA q; replace av := dA av; replace HB := bdr HB; refine start_ (n := 7) (S := fun w' => w'.cell? ⟨b2, 0, none⟩ = some (.slice (some cy) U.length ay) ∧ w'.cell? ⟨b2, 1, none⟩ = some (.slice aE ax.length aB) ∧ w'.cell? ⟨bq, 0, none⟩ = some (.int .i64 ((rd_T83 U J).f0)) ∧ w'.cell? ⟨bq, 1, none⟩ = some (.int .i64 ((rd_T83 U J).f1)) ∧ w'.cell? ⟨bq, 2, none⟩ = some (.string ((rd_T83 U J).f2))) (ds := []) #[false, false, false, false, false, false, false] gk_ rfl rfl ⟨bc z 0, bc z 1, bc av 0, bc av 1, bc av 2⟩ (fun Y => ?_); generalize wc.drew = nB at z D q av HB Y ⊢; refine pure_ (i := 2) (N := some 90) (v := ?_) (a' := ?_) #[false, false, true, false, false, false, false] rfl rfl gk_ (fun _ _ _ h => h) (Or.inl ⟨(by rfl), ?_⟩) ?_ ?_; rotate_left
   ·intro w'; go_simp; with_reducible rfl
   rotate_left
   ·simp only [Act.put, List.setIfInBounds_toArray, List.set_cons_zero, List.set_cons_succ, i64_w, i32_w]; rfl
   refine take_ (i := 0) (N := some 88) (v := ?_) (a' := ?_) #[true, false, true, false, false, false, false] rfl rfl gk_ (fun _ _ _ h => h) (Or.inl ⟨(by rfl), ?_⟩) Y ?_ ?_; rotate_left
   ·rintro w' ⟨s0, s1, s2, s3, s4⟩; go_simp; with_reducible rfl
   rotate_left
   ·simp only [Act.put, List.setIfInBounds_toArray, List.set_cons_zero, List.set_cons_succ, i64_w, i32_w]; rfl
   refine take_ (i := 3) (N := some 91) (v := ?_) (a' := ?_) #[true, false, true, true, false, false, false] rfl rfl gk_ (fun _ _ _ h => h) (Or.inl ⟨(by rfl), ?_⟩) Y ?_ ?_; rotate_left
   ·rintro w' ⟨s0, s1, s2, s3, s4⟩; go_simp; with_reducible rfl
   rotate_left
   ·simp only [Act.put, List.setIfInBounds_toArray, List.set_cons_zero, List.set_cons_succ, i64_w, i32_w]; rfl
   refine one_ (i := 1) (N := some 89) #[true, true, true, true, false, false, false] rfl rfl gk_ (by decide) (fun K hK => ?_); refine gS Try.func58 #[.agg #[.slice (some cy) U.length ay, .slice aE ax.length aB]] ?_; refine (spec_l15Copy.calls _ _ U _ _ ax em en _ (tc (Kd.C_below a2.out HB.out)) bh.out (tc (Kd.C_below aI.out HB.out)) bi.out g1.out).mono ?_; rintro e gY ⟨nr, ns, rfl, bM, bN, hb⟩; refine ⟨_, rfl, ?_⟩; have fW := am (Kd.R_lower (Kd.R_newB bM (g := bq) (o := .cells #[.int .i64 ((rd_T83 U J).f0), .int .i64 ((rd_T83 U J).f1), .string ((rd_T83 U J).f2)] 83 (0, 0)) (Ab av)) (below_size (Ae4 HB ah aj al aW))); have fX := am (Kd.R_lower bN (below_size (Ae4 HB ah aj al aW))); replace z := bA z hb; replace D := bA D hb; replace q := bA q hb; replace av := bA av hb; replace HB := De4 HB ah aj al aW hb; obtain ⟨eQ, fk, gl⟩ := Kd.R_slice fW.out
   (first | subst gl | (injection gl with f1_ f2_ f3_; have f4_ := f1_.symm; have f5_ := f3_.symm; clear f1_ f2_ f3_; subst f4_; subst f5_))
   obtain ⟨eR, fl, gm⟩ := Kd.R_slice fX.out
   (first | subst gm | (injection gm with f1_ f2_ f3_; have f4_ := f1_.symm; have f5_ := f3_.symm; clear f1_ f2_ f3_; subst f4_; subst f5_))
   refine hK.out _ _ ⟨bc z 0, bc z 1, bc av 0, bc av 1, bc av 2⟩ (fun Y => nm_ ?_); clear hK K; refine one_ (i := 4) (N := none) #[true, true, true, true, true, false, false] rfl rfl gk_ (by decide) (fun K hK => ?_)
   have mZ : gY.cell? ⟨af, 0, none⟩ = some (.slice none 0 0) := bc q 0
   have j5 := blk_frozen q.out 0; obtain ⟨mP, mQ, mR, j9, ka, kc⟩ := o6_ a0 bu bp bk bv b1
   have m0 : gY.cell? ⟨af, 1, none⟩ = some (.slice none 0 0) := bc q 1
   have j6 := blk_frozen q.out 1; obtain ⟨mS, mT, mU, kd, ke, kf⟩ := o6_ a0 bu bp bk bv b1; refine skip_ (w1 := ?_) (by rfl) rfl ?_ ?_; rotate_left
   ·go_simp; rfl
   refine hK.out _ _ ⟨((cell_far (p := ⟨af, _, none⟩) a0.out _).trans (((cell_far (p := ⟨af, _, none⟩) a0.out _).trans (Y.1)))), ((cell_far (p := ⟨af, _, none⟩) a0.out _).trans (((cell_far (p := ⟨af, _, none⟩) a0.out _).trans (Y.2.1)))), ((cell_far (p := ⟨af, _, none⟩) bp.out _).trans (((cell_far (p := ⟨af, _, none⟩) bp.out _).trans (Y.2.2.1)))), ((cell_far (p := ⟨af, _, none⟩) bp.out _).trans (((cell_far (p := ⟨af, _, none⟩) bp.out _).trans (Y.2.2.2.1)))), ((cell_far (p := ⟨af, _, none⟩) bp.out _).trans (((cell_far (p := ⟨af, _, none⟩) bp.out _).trans (Y.2.2.2.2))))⟩ (fun Y => ?_); clear hK K; refine pure_ (i := 5) (N := some 7) (v := ?_) (a' := ?_) #[true, true, true, true, true, true, false] rfl rfl gk_ (fun _ _ _ h => h) (Or.inl ⟨(by rfl), ?_⟩) ?_ ?_; rotate_left
   ·intro w'; go_simp; with_reducible rfl
   rotate_left
   ·simp only [Act.put, List.setIfInBounds_toArray, List.set_cons_zero, List.set_cons_succ, i64_w, i32_w]; rfl
   refine pure_ (i := 6) (N := some 8) (v := ?_) (a' := ?_) #[true, true, true, true, true, true, true] rfl rfl gk_ (fun _ _ _ h => h) (Or.inl ⟨(by rfl), ?_⟩) ?_ ?_; rotate_left
   ·intro w'; go_simp; with_reducible rfl
   rotate_left
   ·simp only [Act.put, List.setIfInBounds_toArray, List.set_cons_zero, List.set_cons_succ, i64_w, i32_w]; rfl
   refine done_ gk_ ?_
   try go_wp2
   refine bodyPost_ret (results_ctt rfl _ _ af 47 #[.slice eQ em.length fk, .slice eR en.length fl] (0, 0) _ rfl (Ap0 q) Try.underlying47 rfl gk_) rfl ?_; exact ⟨_, _, B15x9_, (by (with_reducible repeat (first | apply Kd.R_alloc | apply Kd.R_drewN | apply Kd.R_drew)); exact Kd.R_mono (Kd.R_far (p := ⟨af, 1, none⟩) (Kd.R_far (p := ⟨af, 0, none⟩) (Kd.R_types fW.out q.out (by decide)) (fun _ hk => hk.2) (.slice eQ em.length fk)) (fun _ hk => hk.2) (.slice eR en.length fl)) (fun _ hk => trivial)), (by (with_reducible repeat (first | apply Kd.R_alloc | apply Kd.R_drewN | apply Kd.R_drew)); exact Kd.R_mono (Kd.R_far (p := ⟨af, 1, none⟩) (Kd.R_far (p := ⟨af, 0, none⟩) (Kd.R_types fX.out q.out (by decide)) (fun _ hk => hk.2) (.slice eQ em.length fk)) (fun _ hk => hk.2) (.slice eR en.length fl)) (fun _ hk => trivial)), (Ae4 HB ah aj al aW)⟩
  obtain ⟨hL, hM⟩ := nE dX
  obtain ⟨dc, da⟩ | ⟨dc, da⟩ := sp bZ
  ·have hN : decide ((wrap64 (((rd_T83 U J).f1) + 1)) < ad) = true := decide_eq_true dc
   clear dc; obtain ⟨⟨eo, ep⟩, g2, e3⟩ := bsi da; (try dsimp only at e3); obtain ⟨rfl, rfl, rfl, rfl⟩ := s4 e3; clear e3 a3 bF bZ da; obtain ⟨kt, lH, kv, lJ, kw, lK⟩ := o6_ ba a9 bu bv cq cL; obtain ⟨cc, cd, ce, cf, cg, ch, ci, cj, ck, cl, cm, cn⟩ := cf6 D; obtain ⟨kx, lM, ky, lN⟩ := o4_ cK cp bp b1; obtain ⟨eB, eC, eD, eK, eL, eM⟩ := cf3 av; obtain ⟨kz, lO⟩ := o2_ a0 bk; obtain ⟨bS, bT, bU, bV⟩ := cf2 z
   go_wp2_with (first | ((with_reducible refine gate_callee (f := 58) rfl ?_); refine gL (some 99) Try.func58 #[.agg #[.slice (some cy) U.length ay, .slice aE ax.length aB]] ?_; refine (spec_l15Copy.calls _ _ U _ _ ax eo ep _ (tc (Kd.C_below a2.out HB.out)) bh.out (tc (Kd.C_below aI.out HB.out)) bi.out g2.out).mono ?_; rintro e nC ⟨nt, nu, rfl, bM, bN, hb⟩; refine ⟨_, rfl, ?_⟩; have fY := am (Kd.R_lower (Kd.R_newB bM (g := bq) (o := .cells #[.int .i64 ((rd_T83 U J).f0), .int .i64 ((rd_T83 U J).f1), .string ((rd_T83 U J).f2)] 83 (0, 0)) (Ab av)) (below_size (Ae4 HB ah aj al aW))); have fZ := am (Kd.R_lower bN (below_size (Ae4 HB ah aj al aW))); replace z := bA z hb; replace D := bA D hb; replace q := bA q hb; replace av := bA av hb; replace HB := De4 HB ah aj al aW hb; obtain ⟨eS, fm, ii⟩ := Kd.R_slice fY.out; subst ii; obtain ⟨dJ, dK, dL, dM⟩ := cf2 q; obtain ⟨eT, fn, ij⟩ := Kd.R_slice fZ.out; subst ij))
   refine bodyPost_ret (results_ctt rfl _ _ af 47 #[.slice eS eo.length fm, .slice eT ep.length fn] (0, 0) _ rfl (Ap0 q) Try.underlying47 rfl gk_) rfl ?_; exact ⟨_, _, B15x9_, (by (with_reducible repeat (first | apply Kd.R_alloc | apply Kd.R_drewN | apply Kd.R_drew)); exact Kd.R_mono (Kd.R_far (p := ⟨af, 1, none⟩) (Kd.R_far (p := ⟨af, 0, none⟩) (Kd.R_types fY.out q.out (by decide)) (fun _ hk => hk.2) (.slice eS eo.length fm)) (fun _ hk => hk.2) (.slice eT ep.length fn)) (fun _ hk => trivial)), (by (with_reducible repeat (first | apply Kd.R_alloc | apply Kd.R_drewN | apply Kd.R_drew)); exact Kd.R_mono (Kd.R_far (p := ⟨af, 1, none⟩) (Kd.R_far (p := ⟨af, 0, none⟩) (Kd.R_types fZ.out q.out (by decide)) (fun _ hk => hk.2) (.slice eS eo.length fm)) (fun _ hk => hk.2) (.slice eT ep.length fn)) (fun _ hk => trivial)), (Ae4 HB ah aj al aW)⟩
  have hN : decide ((wrap64 (((rd_T83 U J).f1) + 1)) < ad) = false := decide_eq_false dc
  clear dc; obtain ⟨⟨aC, dF⟩, g3, e4⟩ := bsi da; (try dsimp only at e4); obtain ⟨⟨cR, eq⟩, g4, e5⟩ := bsi e4; (try dsimp only at e5); obtain ⟨js, f3⟩ := yd e5; obtain ⟨jt, b0⟩ := yd f3; obtain ⟨be, dy⟩ : ∃ y_ : List (S83), y_ = (aC.set (J : Int).toNat (⟨(rd_T83 aC J).f0, ad, (rd_T83 aC J).f2⟩ : S83)) := ⟨_, rfl⟩
  (first | with_reducible replace b0 := hq dy b0 | rw [← dy] at b0 | simp only [← dy] at b0)
  have hG := am dy; clear dy; obtain ⟨jh, dz⟩ : ∃ y_ : List (S83), y_ = (be.set (J : Int).toNat (⟨(rd_T83 be J).f0, (rd_T83 be J).f1, cR⟩ : S83)) := ⟨_, rfl⟩
  (first | with_reducible replace b0 := hq dz b0 | rw [← dz] at b0 | simp only [← dz] at b0)
  have hH := am dz; clear dz; obtain ⟨rfl, rfl, rfl, rfl⟩ := s4 b0; clear b0 a3 bF bZ da e4 e5 f3; obtain ⟨kB, lP, kC, lQ, kE, lT⟩ := o6_ ba a9 bu bv cq cL; obtain ⟨cc, cd, ce, cf, cg, ch, ci, cj, ck, cl, cm, cn⟩ := cf6 D; obtain ⟨kF, lU, kG, lV⟩ := o4_ cK cp bp b1; obtain ⟨eB, eC, eD, eK, eL, eM⟩ := cf3 av; obtain ⟨kH, lW⟩ := o2_ a0 bk; obtain ⟨bS, bT, bU, bV⟩ := cf2 z
  go_wp2_with (first | ((with_reducible refine gate_callee (f := 58) rfl ?_); refine gL (some 101) Try.func58 #[.agg #[.slice (some cy) U.length ay, .slice aE ax.length aB]] ?_; refine (spec_l15Copy.calls _ _ U _ _ ax aC dF _ (tc (Kd.C_below a2.out HB.out)) bh.out (tc (Kd.C_below aI.out HB.out)) bi.out g3.out).mono ?_; rintro e nD ⟨nv, nw, rfl, bM, bN, hb⟩; refine ⟨_, rfl, ?_⟩; have az := am (Kd.R_lower (Kd.R_newB bM (g := bq) (o := .cells #[.int .i64 ((rd_T83 U J).f0), .int .i64 ((rd_T83 U J).f1), .string ((rd_T83 U J).f2)] 83 (0, 0)) (Ab av)) (below_size (Ae4 HB ah aj al aW))); have bC := am (Kd.R_lower bN (below_size (Ae4 HB ah aj al aW))); replace z := bA z hb; replace D := bA D hb; replace q := bA q hb; replace av := bA av hb; replace HB := De4 HB ah aj al aW hb) | ((with_reducible refine gate_dst (N := 14) rfl ?_); refine bx (N := 14) (cs := #[.slice none 0 0, .slice none 0 0]) (t := 47) ?_; intro dk hg nF hbox hb; replace az := rA az hb; replace bC := rA bC hb; have aY := am hbox; have eY := gA hg HB; replace HB := De4 HB ah aj al aW hb; have e6 := nA hg z; have hz := mA hg z; replace z := bA z hb; have e7 := nA hg D; have hC := mA hg D; replace D := bA D hb; have e8 := nA hg q; have hD := mA hg q; replace q := bA q hb; have e9 := nA hg av; have hE := mA hg av; replace av := bA av hb; clear hb hbox hg; obtain ⟨dN, bl, ik⟩ := Kd.R_slice az.out; subst ik; have kI := hz.out; have lX := e6.out; have kJ := hC.out; have lY := e7.out; have kK := hD.out; have lZ := e8.out; have kL := hE.out; have l2 := e9.out; obtain ⟨fL, fM, fN, fO⟩ := cf2 aY; obtain ⟨dO, d5, il⟩ := Kd.R_slice bC.out; subst il; obtain ⟨cc, cd, ce, cf, cg, ch, ci, cj, ck, cl, cm, cn⟩ := cf6 D) | ((with_reducible refine gate_callee (f := 107) rfl ?_); refine gL (some 104) Try.func107 #[.pointer (some ⟨dk, 0, none⟩), .int .i64 a1, .agg #[.int .i64 ak, .int .i64 au, .int .i64 ad, .string ae, .string ai, .int .i64 ar]] ?_; refine (spec_l15Do.calls i1 dk dN bl aC dO d5 dF a1 ak au ad ae ai ar cR eq w _ B16x28_ (Ae5 HB ah aj al aW eY) (Kd.C_foot_own (IsS47.apart (show IsS47 w _ dk (.slice dN aC.length bl) (.slice dO dF.length d5) from B16x28_) (tfr az.out aY.out (by decide)) (by decide)) (fun _ h_ => h_.2)) ((Kd.R_reads' az.out).2.1) (Kd.C_foot_own (IsS47.apart (show IsS47 w _ dk (.slice dN aC.length bl) (.slice dO dF.length d5) from B16x28_) (tfr bC.out aY.out (by decide)) (by decide)) (fun _ h_ => h_.2)) ((Kd.R_reads' bC.out).2.1) (Kd.R_mono (IsS47.apart (show IsS47 w _ dk (.slice dN aC.length bl) (.slice dO dF.length d5) from B16x28_) (tfr bC.out aY.out (by decide)) (by decide)) (fun _ h_ => h_.2)) g4.out).mono ?_; rintro e b7 ⟨nx, rfl, hi, hl, hb, hk⟩; refine ⟨_, rfl, ?_⟩; replace z := am (KeepBut.blk hk (g' := b2) (o := .cells #[.slice (some cy) U.length ay, .slice aE ax.length aB] 47 (0, 0)) (Ap1 z e6) e6.out (by simp)); replace D := am (KeepBut.blk hk (g' := bd) (o := .cells #[.int .i64 ak, .int .i64 au, .int .i64 ad, .string ae, .string ai, .int .i64 ar] 59 (0, 0)) (Ap1 D e7) e7.out (by simp)); replace q := am (KeepBut.blk hk (g' := af) (o := .cells #[.slice none 0 0, .slice none 0 0] 47 (0, 0)) (Ap1 q e8) e8.out (by simp)); replace av := am (KeepBut.blk hk (g' := bq) (o := .cells #[.int .i64 ((rd_T83 U J).f0), .int .i64 ((rd_T83 U J).f1), .string ((rd_T83 U J).f2)] 83 (0, 0)) (Ap1 av e9) e9.out (by simp)); replace az := am (Kd.R_mono (Kd.R_keep (Kd.R_types (tfr az.out aY.out (by decide)) (Ap0 aY) (by decide)) hk (fun _ h => h.2)) (fun _ h => h.1)); replace bC := am (Kd.R_mono (Kd.R_keep (Kd.R_types (tfr bC.out aY.out (by decide)) (Ap0 aY) (by decide)) hk (fun _ h => h.2)) (fun _ h => h.1)); have cG := am hl; replace HB := am hb; replace aY := am (hi.1); obtain ⟨fL, fM, fN, fO⟩ := cf2 aY; obtain ⟨cc, cd, ce, cf, cg, ch, ci, cj, ck, cl, cm, cn⟩ := cf6 D; have fx : 0 ≤ (J : Int) := dga; have fA : (J : Int) < ((aC.length : Int) : Int) := dga; obtain ⟨aM, jR, gn, gp, ix, cl146, fR⟩ := Kd.R_form az.out (by omega); (first | cases gn | (injection gn with ea_ en_ ec_; (first | subst ea_ | (injection ea_ with ea_; subst ea_)); subst ec_; clear en_)); have fQ := am gp; have jp := am fR; clear gp ix fR; obtain ⟨jN, iy, gF, d8, ea⟩ := Kd.R_elem az.out z83 (J : Int) fx fA; obtain rfl := k83_openM gF; have m3 : b7.cell? ⟨aM, (J : Int).toNat * 3, none⟩ = some (.int .i64 ((rd_T83 aC J).f0)) := d8 0 _ rfl; have m4 : b7.cell? ⟨aM, (J : Int).toNat * 3 + 1, none⟩ = some (.int .i64 ((rd_T83 aC J).f1)) := d8 1 _ rfl; have m5 : b7.cell? ⟨aM, (J : Int).toNat * 3 + 2, none⟩ = some (.string ((rd_T83 aC J).f2)) := d8 2 _ rfl; have jS : b7.frozen? ⟨aM, (J : Int).toNat * 3, none⟩ = false := ea 0; have jT : b7.frozen? ⟨aM, (J : Int).toNat * 3 + 1, none⟩ = false := ea 1; have jU : b7.frozen? ⟨aM, (J : Int).toNat * 3 + 2, none⟩ = false := ea 2; clear iy d8 ea gF; replace fx := eq_true fx; replace fA := eq_true fA; have n_ := am (Kd.R_mono (ok' := (fun k_ => k_ ≠ bq)) az.out (fun k_ hk => hk.2)); clear az; have az := n_; clear n_; have f1 := am (show Kd.R k83 83 b7 w.heap.size (fun k_ => k_ ≠ bq) (.slice (some ⟨aM, 0, none⟩) aC.length bl) aC from (Ar az)); obtain ⟨jP, gJ, gH, ft, gO⟩ := Kd.R_elem f1.out z83 (J : Int) (dga) (by have h_ : (J : Int) < ((aC.length : Int) : Int) := dga; first | exact h_ | (have e_ := (Kd.R_reads' az.out).1; omega) | simpa using h_); obtain rfl := k83_openM gH; have e0 := Kd.R_seg f1.out (J : Int) (dga) (by have h_ : (J : Int) < ((aC.length : Int) : Int) := dga; first | exact h_ | (have e_ := (Kd.R_reads' az.out).1; omega) | simpa using h_) (seg := [.int .i64 ad]) (j := 1) gJ ft (show 2 ≤ 3 from (by decide)) (x' := (⟨(rd_T83 aC J).f0, ad, (rd_T83 aC J).f2⟩ : S83)) (k83_mkM _ _ _ (⟨(rd_T83 aC J).f0, ad, (rd_T83 aC J).f2⟩ : S83) ) (fun _ hk => hk); have iZ := ft 1 _ rfl; (try simp only [show (k83).sz = 3 from rfl, Nat.mul_one, Nat.add_zero] at iZ); have iA := gO 1; (try simp only [show (k83).sz = 3 from rfl, Nat.mul_one, Nat.add_zero] at iA); clear gJ ft gO gH) | ((with_reducible refine gate_store (t := 3) (p := 111) rfl ?_); refine store_event (t := 3) (p := 111) (v := ?vo_w171) (w1 := (b7.setCell ⟨aM, (J : Int).toNat * 3 + 1, none⟩ (.int .i64 ad))) ?hg ?ho ?hn ?hr ?_; (case ho => rfl); (case hg => rfl); (case hn => rfl); (case hr => exact gs_); intro bH hw; have hg : b7.grownBy bH (some aM) := (by rw [hw]; exact e0.2); have hp_ : Kd.R k83 83 bH w.heap.size (fun k_ => k_ ≠ bq) (.slice (some ⟨aM, 0, none⟩) aC.length bl) be := (by rw [hw, hG.out]; exact e0.1); clear e0; replace z := bg z hg (Kd.R_ne az.out z.out (by decide)); replace D := bg D hg (Kd.R_ne az.out D.out (by decide)); replace q := bg q hg (Kd.R_ne az.out q.out (by decide)); replace av := bg av hg (Kd.R_away az.out (fun _ hk => hk)); replace bC := am (Kd.R_over' (v := (.slice (some ⟨aM, 0, none⟩) aC.length bl)) (Ar bC) (Kd.R_typed az.out) (by decide) hg); replace aY := bg aY hg (Kd.R_ne az.out aY.out (by decide)); replace cG := am (Kd.R_over' (v := (.slice (some ⟨aM, 0, none⟩) aC.length bl)) (Ar cG) (Kd.R_typed az.out) (by decide) hg); replace az := am hp_; replace HB := am (by rw [hw]; exact below_set (HB.out) fQ.out : Below w.heap.size w bH); clear hg hw hp_; obtain ⟨fL, fM, fN, fO⟩ := cf2 aY; have fy : 0 ≤ (J : Int) := dga; have fB : (J : Int) < ((aC.length : Int) : Int) := dga; obtain ⟨jO, iz, gG, d9, eb⟩ := Kd.R_elem az.out z83 (J : Int) fy fB; obtain rfl := k83_openM gG; have m6 : bH.cell? ⟨aM, (J : Int).toNat * 3, none⟩ = some (.int .i64 ((rd_T83 be J).f0)) := d9 0 _ rfl; have m7 : bH.cell? ⟨aM, (J : Int).toNat * 3 + 1, none⟩ = some (.int .i64 ((rd_T83 be J).f1)) := d9 1 _ rfl; have m8 : bH.cell? ⟨aM, (J : Int).toNat * 3 + 2, none⟩ = some (.string ((rd_T83 be J).f2)) := d9 2 _ rfl; have jV : bH.frozen? ⟨aM, (J : Int).toNat * 3, none⟩ = false := eb 0; have jW : bH.frozen? ⟨aM, (J : Int).toNat * 3 + 1, none⟩ = false := eb 1; have jX : bH.frozen? ⟨aM, (J : Int).toNat * 3 + 2, none⟩ = false := eb 2; clear iz d9 eb gG; replace fy := eq_true fy; replace fB := eq_true fB; have f2 := am (show Kd.R k83 83 bH w.heap.size (fun k_ => k_ ≠ bq) (.slice (some ⟨aM, 0, none⟩) aC.length bl) be from (Ar az)); obtain ⟨jQ, gN, gI, fu, gP⟩ := Kd.R_elem f2.out z83 (J : Int) (dga) (by have h_ : (J : Int) < ((aC.length : Int) : Int) := dga; first | exact h_ | (have e_ := (Kd.R_reads' az.out).1; omega) | simpa using h_); obtain rfl := k83_openM gI; have e1 := Kd.R_seg f2.out (J : Int) (dga) (by have h_ : (J : Int) < ((aC.length : Int) : Int) := dga; first | exact h_ | (have e_ := (Kd.R_reads' az.out).1; omega) | simpa using h_) (seg := [.string cR]) (j := 2) gN fu (show 3 ≤ 3 from (by decide)) (x' := (⟨(rd_T83 be J).f0, (rd_T83 be J).f1, cR⟩ : S83)) (k83_mkM _ _ _ (⟨(rd_T83 be J).f0, (rd_T83 be J).f1, cR⟩ : S83) ) (fun _ hk => hk); have i0 := fu 2 _ rfl; (try simp only [show (k83).sz = 3 from rfl, Nat.mul_one, Nat.add_zero] at i0); have iB := gP 2; (try simp only [show (k83).sz = 3 from rfl, Nat.mul_one, Nat.add_zero] at iB); clear gN fu gP gI) | ((with_reducible refine gate_store (t := 9) (p := 117) rfl ?_); refine store_event (t := 9) (p := 117) (v := ?vo_w174) (w1 := (bH.setCell ⟨aM, (J : Int).toNat * 3 + 2, none⟩ (.string cR))) ?hg ?ho ?hn ?hr ?_; (case ho => rfl); (case hg => rfl); (case hn => rfl); (case hr => exact gs_); intro fE hw; have hg : bH.grownBy fE (some aM) := (by rw [hw]; exact e1.2); have hp_ : Kd.R k83 83 fE w.heap.size (fun k_ => k_ ≠ bq) (.slice (some ⟨aM, 0, none⟩) aC.length bl) jh := (by rw [hw, hH.out]; exact e1.1); clear e1; replace z := bg z hg (Kd.R_ne az.out z.out (by decide)); replace D := bg D hg (Kd.R_ne az.out D.out (by decide)); replace q := bg q hg (Kd.R_ne az.out q.out (by decide)); replace av := bg av hg (Kd.R_away az.out (fun _ hk => hk)); replace bC := am (Kd.R_over' (v := (.slice (some ⟨aM, 0, none⟩) aC.length bl)) (Ar bC) (Kd.R_typed az.out) (by decide) hg); replace aY := bg aY hg (Kd.R_ne az.out aY.out (by decide)); replace cG := am (Kd.R_over' (v := (.slice (some ⟨aM, 0, none⟩) aC.length bl)) (Ar cG) (Kd.R_typed az.out) (by decide) hg); replace az := am hp_; replace HB := am (by rw [hw]; exact below_set (HB.out) fQ.out : Below w.heap.size w fE); clear hg hw hp_; obtain ⟨fL, fM, fN, fO⟩ := cf2 aY; obtain ⟨dJ, dK, dL, dM⟩ := cf2 q; obtain ⟨eU, fo, im⟩ := Kd.R_slice cG.out; subst im))
  refine bodyPost_ret (results_ctt rfl _ _ af 47 #[.slice (some ⟨aM, 0, none⟩) aC.length bl, .slice eU eq.length fo] (0, 0) _ rfl (Ap0 q) Try.underlying47 rfl gk_) rfl ?_; exact ⟨_, _, B15x9_, (by (with_reducible repeat (first | apply Kd.R_alloc | apply Kd.R_drewN | apply Kd.R_drew)); exact Kd.R_mono (Kd.R_far (p := ⟨af, 1, none⟩) (Kd.R_far (p := ⟨af, 0, none⟩) (Kd.R_types az.out q.out (by decide)) (fun _ hk => hk.2) (.slice (some ⟨aM, 0, none⟩) aC.length bl)) (fun _ hk => hk.2) (.slice eU eq.length fo)) (fun _ hk => trivial)), (by (with_reducible repeat (first | apply Kd.R_alloc | apply Kd.R_drewN | apply Kd.R_drew)); exact Kd.R_mono (Kd.R_far (p := ⟨af, 1, none⟩) (Kd.R_far (p := ⟨af, 0, none⟩) (Kd.R_types cG.out q.out (by decide)) (fun _ hk => hk.2) (.slice (some ⟨aM, 0, none⟩) aC.length bl)) (fun _ hk => hk.2) (.slice eU eq.length fo)) (fun _ hk => trivial)), (Ae5 HB ah aj al aW eY)⟩
def spec_KeepNew.f  : Option ((List (S83)) × (List (S81))) := some (([] : List (S83)), (([(⟨(⟨#[114, 111, 111, 116]⟩ : ByteArray), (⟨#[]⟩ : ByteArray), 1⟩ : S81)] : List (S81))))
theorem spec_KeepNew.calls  (r1 : List (S83)) (r2 : List (S81)) (w : World) (h : spec_KeepNew.f  = some (r1, r2)) :
  Calls Try.prog 101 #[] w fun e w' => ∃ dG dH : Value, e = .returned (.agg #[dG, dH]) ∧ Kd.R k83 83 w' w.heap.size (fun _ => True) dG r1 ∧ Kd.R k81 81 w' w.heap.size (fun _ => True) dH r2 ∧ Below w.heap.size w w' := by
 have gR := Try.underlying47
 have iV := Try.underlying81
 have HB := am (Below.refl w.heap.size w)
 have aQ := h
 clear h
 unfold spec_KeepNew.f at aQ
 obtain ⟨ji, dB⟩ : ∃ y_ : List (S81), y_ = (([(⟨(⟨#[114, 111, 111, 116]⟩ : ByteArray), (⟨#[]⟩ : ByteArray), 1⟩ : S81)] : List (S81))) := ⟨_, rfl⟩
 (first | with_reducible replace aQ := hq dB aQ | rw [← dB] at aQ | simp only [← dB] at aQ)
 have f6 := am dB
 clear dB
 obtain ⟨rfl, rfl⟩ := s2 aQ
 clear aQ
 go_enter Try.func101, Try.ntmps101
 go_wp2_with (first | ((with_reducible refine gate_dst (N := 0) rfl ?_); refine bx (N := 0) (cs := #[.slice none 0 0, .slice none 0 0]) (t := 47) ?_; intro iw hg w1 hbox hb; have cW := am hbox; have eZ := gA hg HB; replace HB := hA HB hb; clear hb hbox hg) | ((with_reducible refine gate_dst (N := 2) rfl ?_); refine Kd.R_lit k81 _ 81 ?hg (N := 2) ?hd (xs := ([(⟨(⟨#[114, 111, 111, 116]⟩ : ByteArray), (⟨#[]⟩ : ByteArray), 1⟩ : S81)] : List (S81))) (inner := [.string (⟨#[114, 111, 111, 116]⟩ : ByteArray), .string (⟨#[]⟩ : ByteArray), .int .i64 1]) (ok := fun _ => True) (okp := fun _ => True) ?hr ?hp (fun _ hk => hk) trivial (Below.refl _ _) (Nat.le_refl _) (by simp) ?_; (case hd => rfl); (case hg => rfl); (case hr => first | (go_simp; done) | (go_simp; rfl)); (case hp => exact (Reps.c3 (show Kd.M k81 _ _ _ (⟨(⟨#[114, 111, 111, 116]⟩ : ByteArray), (⟨#[]⟩ : ByteArray), 1⟩ : S81) [.string (⟨#[114, 111, 111, 116]⟩ : ByteArray), .string (⟨#[]⟩ : ByteArray), .int .i64 1] from (k81_mkM _ _ _ (⟨(⟨#[114, 111, 111, 116]⟩ : ByteArray), (⟨#[]⟩ : ByteArray), 1⟩ : S81) )) (Reps.none _ _))); intro ny w2 dp hb hg_ hnew_; clear hg_ hnew_; (first | rw [← f6.out] at dp | (simp only [Int.reduceToNat] at dp; rw [← f6.out] at dp)); have f0 := am (Kd.R_lower dp (below_size (Ae1 HB eZ))); replace cW := bA cW hb; replace HB := De1 HB eZ hb; clear hb dp; obtain ⟨he, ib, io⟩ := Kd.R_slice f0.out; subst io; obtain ⟨n2, n3, oj, ol⟩ := cf2 cW))
 refine bodyPost_ret (results_cell_row rfl _ _ iw 47 #[.slice none 0 0, .slice he ji.length ib] (0, 0) _ rfl (Ap0 cW) Try.underlying47 rfl gk_) rfl ?_
 exact ⟨_, _, (by first | rfl | (simp [errW_none, errW_some] <;> rfl) | (simp [*, errW_none, errW_some] <;> rfl)), gn_, (tfg f0.out cW.out (by decide)), (Ae1 HB eZ)⟩
end
end Go.Proofs.Ytgffdijodnpolaa.QFnKeepTexts
