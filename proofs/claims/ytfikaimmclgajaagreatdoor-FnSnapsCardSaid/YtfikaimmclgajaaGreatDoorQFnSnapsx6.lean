/- Functions that a law reaches, as functions of Lean, and the walks that show that the calls come to their answers. No condition. -/
import Derived.Test.YtfikaimmclgajaaGreatDoorQFnSnapsx0
import Derived.Test.YtfikaimmclgajaaGreatDoorQFnSnapsx1
import Derived.Test.YtfikaimmclgajaaGreatDoorQFnSnapsx2
import Derived.Test.YtfikaimmclgajaaGreatDoorQFnSnapsx5
import Derived.Test.YtfikaimmclgajaaGreatDoorVFnSnapsShort3
import Derived.Test.YtfikaimmclgajaaGreatDoorVFnSnapsShort2
import Derived.Test.YtfikaimmclgajaaGreatDoorVFnSnapsShort
import Derived.Test.YtfikaimmclgajaaGreatDoorVFnSnapsShort8
namespace Go.Proofs.YtfikaimmclgajaaGreatDoor.QFnSnaps
open Go.RowKit Go.Proofs.YtfikaimmclgajaaGreatDoorW.PrintWords Go.Proofs.YtfikaimmclgajaaGreatDoorW.PrintLast Go.Proofs.YtfikaimmclgajaaGreatDoorW.PrintMore Go.Proofs.YtfikaimmclgajaaGreatDoor.Short
set_option linter.unusedVariables false
set_option linter.unusedSimpArgs false
set_option maxHeartbeats 8000000
set_option maxRecDepth 100000
variable {p : Prop}
theorem D6x0_ (h : p := by exact ⟨B18x17_, (Ae0 HB)⟩) : p := h
section
attribute [local go_sem] max2_int min2_int max_two min_two max_three min_three max_four min_four
theorem B18x0_ (h : p := by repeat (first | (with_reducible first | exact J.out | apply IsS80.alloc | apply IsS80.drewN | apply IsS80.drew | apply IsS80.set_1 | apply IsS80.set_2 | refine IsS80.far ?_ du.out _ | refine IsS80.far ?_ dv.out _ | refine IsS80.far ?_ dw.out _) | exact J.out)) : p := h
theorem B18x5_ (h : p := by repeat (first | (with_reducible first | exact J.out | apply IsS80.alloc | apply IsS80.drewN | apply IsS80.drew | apply IsS80.set_1 | apply IsS80.set_2 | refine IsS80.far ?_ du.out _ | refine IsS80.far ?_ dv.out _ | refine IsS80.far ?_ dw.out _ | refine IsS80.far ?_ ez.out _) | exact J.out)) : p := h
theorem B18x17_ (h : p := by first | rfl | (simp [errW_none, errW_some] <;> rfl) | (simp [*, errW_none, errW_some] <;> rfl)) : p := h
def spec_SnapName.f (k : Nat) (j : Int) : Option (ByteArray) := (spec_l01In.f j 0 1000000).bind fun eW => (if eW = true then ((spec_Decimal.f k j).bind fun cN => (if 1 + cN.size ≤ 9223372036854775807 then (some ((⟨#[115]⟩ : ByteArray) ++ cN)) else (none))) else (some (⟨#[]⟩ : ByteArray)))
theorem spec_SnapName.calls (k : Nat) (j : Int) (r : ByteArray) (w : World) (h : spec_SnapName.f k j = some r) :
  Calls Tryz.prog 21 #[.int .i64 j] w fun e w' => e = .returned (.string r) ∧ Below w.heap.size w w' := by
 have HB := am (Below.refl w.heap.size w)
 have q := h
 clear h
 unfold spec_SnapName.f at q
 obtain ⟨eW, A2, l⟩ := bsi q
 (try dsimp only at l)
 obtain ⟨rfl, z⟩ | ⟨rfl, z⟩ := sb l
 ·obtain ⟨cN, A4, B⟩ := bsi z; (try dsimp only at B); obtain ⟨c5, M⟩ := yn B; have dI := eq_true c5; have eK := decide_eq_true c5
  try have dJ : (9223372036854775807 < 1 + cN.size) = False := eq_false (Nat.not_lt.2 c5)
  try (have dK := dJ; simp only [ByteArray.size_append] at dK)
  obtain rfl := Option.some.inj M; clear M q l z B; go_enter Tryz.func21, Tryz.ntmps21
  go_wp2_with (first | ((with_reducible refine gate_callee (f := 49) rfl ?_); refine goesL_ (some 4) rfl rfl Tryz.func49 gk_ rfl #[.int .i64 j, .int .i64 0, .int .i64 1000000] rfl gm_ ?_; refine (spec_l01In.calls j 0 1000000 true _ A2.out).mono ?_; rintro e w' ⟨rfl, ⟨nd, rfl⟩⟩; refine ⟨_, rfl, ?_⟩) | ((with_reducible refine gate_callee (f := 52) rfl ?_); refine goesL_ (some 7) rfl rfl Tryz.func52 gk_ rfl #[.int .i64 j] rfl gm_ ?_; refine (spec_Decimal.calls k j cN _ A4.out).mono ?_; rintro e w6 ⟨rfl, hb⟩; refine ⟨_, rfl, ?_⟩; replace HB := hA HB hb))
  go_ret; exact D6x0_
 ·obtain rfl := Option.some.inj z; clear z q l; go_enter Tryz.func21, Tryz.ntmps21
  go_wp2_with (first | ((with_reducible refine gate_callee (f := 49) rfl ?_); refine goesL_ (some 4) rfl rfl Tryz.func49 gk_ rfl #[.int .i64 j, .int .i64 0, .int .i64 1000000] rfl gm_ ?_; refine (spec_l01In.calls j 0 1000000 false _ A2.out).mono ?_; rintro e w' ⟨rfl, ⟨nd, rfl⟩⟩; refine ⟨_, rfl, ?_⟩))
  go_ret; exact D6x0_

def spec_DrawRightSnaps.l0 : Nat → Int → List Int → Int → Int → List (S57) → Option ((List (S57)) × Int × Int × List Int × ByteArray)
 | 0, _, _, _, _, _ => none
 | k + 1, x6, bj, hs, ht, fg => (spec_l01Below.f bj hs ht 3).bind fun cj => (if x6 < cj.1 then ((spec_l15Keep.f k bj cj.2.1 cj.2.2 6).bind fun dh => ((spec_KeepText.f k dh.1 dh.2.1).bind fun fW => ((spec_l01Below.f bj dh.2.2.1 dh.2.2.2 9).bind fun di => ((spec_l01Below.f bj di.2.1 di.2.2 5).bind fun dB => ((spec_l05Conf.f k bj dB.2.1 dB.2.2).bind fun dC => ((spec_SnapText.f k di.1 dB.1 dC.1 fW.1).bind fun eF => ((spec_SnapName.f k di.1).bind fun cV => ((spec_l03Put.f k fg cV eF.1 (eF.1.size : Int)).bind fun cW => (spec_DrawRightSnaps.l0 k (wrap64 (x6 + 1)) bj dC.2.1 dC.2.2 cW))))))))) else ((spec_l15Keep.f k bj cj.2.1 cj.2.2 12).bind fun dj => ((spec_KeepText.f k dj.1 dj.2.1).bind fun fX => ((spec_l01Below.f bj dj.2.2.1 dj.2.2.2 9).bind fun dD => ((spec_l01Below.f bj dD.2.1 dD.2.2 5).bind fun dE => ((spec_l05Conf.f k bj dE.2.1 dE.2.2).bind fun fY => (some (fg, wrap64 (9 + dD.1), dE.1, fY.1, fX.1))))))))
def spec_DrawRightSnaps.f (k : Nat) (l0 : List Int) : Option ((List (S57)) × Int × Int × List Int × ByteArray) := (spec_l01New.f k l0).bind fun dz => (spec_DrawRightSnaps.l0 k 0 dz.1 dz.2.1 dz.2.2 ([] : List (S57)))
def spec_DrawRightSnaps.T9 : Bool × List (List Nat × List Nat) := (true, [([], []), ([], []), ([1], [1]), ([2], [2]), ([], []), ([], []), ([5], [5]), ([3, 4, 6], [3, 4, 6]), ([0, 7, 3], [0, 7]), ([8, 8, 0, 1, 2, 3, 4, 5, 6, 7, 8], [8])])
def spec_DrawRightSnaps.B9 : List Nat := [0, 0, 2, 6, 0, 0, 32, 126, 255, 511]
theorem spec_DrawRightSnaps.tab9 : rtab .any (opsOf Tryz.f5 9) = spec_DrawRightSnaps.T9 := by kernel_rfl
theorem spec_DrawRightSnaps.bits9 : waitsOk spec_DrawRightSnaps.T9.2 spec_DrawRightSnaps.B9 = true := by kernel_rfl
def spec_DrawRightSnaps.T11 : Bool × List (List Nat × List Nat) := (true, [([], []), ([], []), ([1], [1]), ([2], [2]), ([], []), ([4, 2], [4]), ([], []), ([6, 5], [6]), ([], []), ([3, 5, 7, 8], [3, 5, 7, 8]), ([0, 7, 0], [0]), ([9, 10, 0, 1, 2, 3, 4, 5, 6, 7, 8, 9, 10], [9])])
def spec_DrawRightSnaps.B11 : List Nat := [0, 0, 2, 6, 0, 22, 0, 118, 0, 510, 247, 2047]
theorem spec_DrawRightSnaps.tab11 : rtab .any (opsOf Tryz.f5 11) = spec_DrawRightSnaps.T11 := by kernel_rfl
theorem spec_DrawRightSnaps.bits11 : waitsOk spec_DrawRightSnaps.T11.2 spec_DrawRightSnaps.B11 = true := by kernel_rfl
theorem spec_DrawRightSnaps.calls (k : Nat) (A0 : Option Addr) (c0 : Nat) (l0 : List Int) (r1 : List (S57)) (r2 : Int) (r3 : Int) (r4 : List Int) (r5 : ByteArray) (w : World) (aC : Kd.C (Kd.int .u8) w A0 l0.length l0) (aA : l0.length ≤ c0) (h : spec_DrawRightSnaps.f k l0 = some (r1, r2, r3, r4, r5)) :
  Calls Tryz.prog 5 #[.slice A0 l0.length c0] w fun e w' => ∃ e9 fa : Value, e = .returned (.tuple #[.agg #[e9], .agg #[.int .i64 r2, .int .i64 r3, fa, .string r5]]) ∧ Kd.R k57 57 w' w.heap.size (fun _ => True) e9 r1 ∧ Kd.R (Kd.int .i64) 3 w' w.heap.size (fun _ => True) fa r4 ∧ Below w.heap.size w w' := by
 have iQ := Tryz.underlying26
 have gW := Tryz.underlying29
 have iR := Tryz.underlying57
 have ay := am aC
 have a3 := am aA
 clear aC aA
 have HB := am (Below.refl w.heap.size w)
 have q := h
 clear h
 unfold spec_DrawRightSnaps.f at q
 obtain ⟨⟨ah, eX, eY⟩, A2, l⟩ := bsi q
 (try dsimp only at l)
 replace l := am l
 clear q
 go_enter Tryz.func5, Tryz.ntmps5
 go_wp2_with (first | ((with_reducible refine gate_dst (N := 2) rfl ?_); refine bx (N := 2) (cs := #[.slice none 0 0]) (t := 26) ?_; intro ct hg w3 hbox hb; have U := am hbox; have ai := gA hg HB; replace HB := hA HB hb; clear hb hbox hg) | ((with_reducible refine gate_dst (N := 3) rfl ?_); refine bx (N := 3) (cs := #[.int .i64 0, .int .i64 0, .slice none 0 0, .string (⟨#[]⟩ : ByteArray)]) (t := 29) ?_; intro a5 hg w4 hbox hb; have D := am hbox; have aj := gA hg HB; replace HB := De1 HB ai hb; have bO := nA hg U; have bP := mA hg U; replace U := bA U hb; clear hb hbox hg) | ((with_reducible refine gate_callee (f := 14) rfl ?_); refine goesL_ (some 15) rfl rfl Tryz.func14 gk_ rfl #[.slice A0 l0.length c0] rfl gm_ ?_; (with_reducible refine (spec_l01New.calls k _ _ l0 ah eX eY w _ ?z1 ?z2 ?z3 A2.out).mono ?_); (case z1 => repeat (first | (with_reducible first | exact HB.out | apply below_alloc | apply pw_below_drewN | apply below_drew1 | refine below_set ?_ ai.out | refine below_set ?_ aj.out) | exact HB.out)); (case z2 => exact ay.out); (case z3 => exact a3.out); rintro e w5 ⟨ad, rfl, hi, hb, bU⟩; refine ⟨_, rfl, ?_⟩; replace HB := am hb; have J := am hi; have du := am (IsS80.ne_blk hi (bb U.out bU) (by decide)); have ba := am (Ne.symm (IsS80.ne_blk hi (bb U.out bU) (by decide))); replace U := am (bb U.out bU); have dv := am (IsS80.ne_blk hi (bb D.out bU) (by decide)); have bd := am (Ne.symm (IsS80.ne_blk hi (bb D.out bU) (by decide))); replace D := am (bb D.out bU)) | ((with_reducible refine gate_dst (N := 5) rfl ?_); refine bx (N := 5) (cs := #[.slice none 0 0]) (t := 26) ?_; intro bT hg w6 hbox hb; have Z := am hbox; have ao := gA hg HB; replace HB := De3 HB (IsS80.gf J) ai aj hb; have ch := nA hg U; have df := mA hg U; replace U := bA U hb; have bB := nA hg D; have be := mA hg D; replace D := bA D hb; have dw := am (nl hg (IsS80.lt J.out)); have a4 := am (ng hg (IsS80.lt J.out)); replace J := am (IsS80.below (by repeat (first | (with_reducible first | exact J.out | apply IsS80.alloc | apply IsS80.drewN | apply IsS80.drew | apply IsS80.set_1 | apply IsS80.set_2 | refine IsS80.far ?_ du.out _ | refine IsS80.far ?_ dv.out _) | exact J.out)) hb); clear hb hbox hg; have ik := df.out; have iu := ch.out; have il := be.out; have iv := bB.out; have im := a4.out; have iw := dw.out; have jv : w6.cell? ⟨bT, 0, none⟩ = some (.slice none 0 0) := bc Z 0; have jA := blk_frozen Z.out 0))
 go_loopg [6] k (fun kq v6 w' => ∃ (aM : Int) (bJ : Int) (bK : Int) (bL : List (S57)) (b0 : Value), v6 = .int .i64 aM ∧ Aside0 (spec_DrawRightSnaps.l0 kq aM ah bJ bK bL = some (r1, r2, r3, r4, r5)) ∧ Aside0 (kq ≤ k) ∧ Aside0 (Kd.R k57 57 w' w.heap.size (fun _ => True) b0 bL) ∧ Aside0 (w'.heap[ct]? = some (.cells #[(.slice none 0 0)] 26 (0, 0))) ∧ Aside0 (w'.heap[a5]? = some (.cells #[.int .i64 0, .int .i64 0, (.slice none 0 0), .string (⟨#[]⟩ : ByteArray)] 29 (0, 0))) ∧ Aside0 (w'.heap[bT]? = some (.cells #[b0] 26 (0, 0))) ∧ Aside0 (IsS80 w w' ad ah bJ bK) ∧ Aside0 (Below w.heap.size w w'))
 case atStart => exact ⟨(0), eX, eY, (([] : List (S57))), (.slice none 0 0), be_, l, ⟨Nat.le_refl _⟩, ⟨gn_⟩, Cp1 U ch, Cp1 D bB, Cp0 Z, ⟨B18x0_⟩, Ce4 HB (IsS80.gf J) ai aj ao⟩
 case round =>
  clear l; obtain ⟨aM, bJ, bK, bL, b0, rfl, z, au, ac, U, D, Z, J, HB⟩ := hrel
  cases gk with
  | zero => exact absurd z.out (by simp [spec_DrawRightSnaps.l0])
  | succ k1 => ?_
  replace z := z.out; simp only [spec_DrawRightSnaps.l0] at z; obtain ⟨⟨eZ, bW, bX⟩, eq, B⟩ := bsi z; (try dsimp only at B)
  obtain ⟨f1, M⟩ | ⟨f1, M⟩ := sd B
  ·obtain ⟨⟨d2, d3, cO, cP⟩, fi, Y⟩ := bsi M; (try dsimp only at Y); obtain ⟨⟨bY, gZ⟩, dn, aa⟩ := bsi Y; (try dsimp only at aa); obtain ⟨⟨bC, cQ, cR⟩, fj, aI⟩ := bsi aa; (try dsimp only at aI); obtain ⟨⟨bZ, cS, cT⟩, fk, aJ⟩ := bsi aI; (try dsimp only at aJ); obtain ⟨⟨bH, d4, d5⟩, fl, aD⟩ := bsi aJ; (try dsimp only at aD); obtain ⟨⟨cU, g0⟩, ce, az⟩ := bsi aD; (try dsimp only at az); obtain ⟨cV, cf, bl⟩ := bsi az; (try dsimp only at bl); obtain ⟨cW, fm, bm⟩ := bsi bl; (try dsimp only at bm); replace bm := am bm; clear z B M Y aa aI aJ aD az bl
   try go_wp2_with (first | ((with_reducible refine gate_callee (f := 15) rfl ?_); refine goesL_ (some 19) rfl rfl Tryz.func15 gk_ rfl #[.pointer (some ⟨ad, 0, none⟩), .int .i64 3] rfl gm_ ?_; refine (spec_l01Below.calls ad ah bJ bK 3 eZ bW bX w _ B18x0_ (Ae4 HB (IsS80.gf J) ai aj ao) eq.out).mono ?_; rintro e jb ⟨rfl, hi, hb, hk⟩; refine ⟨_, rfl, ?_⟩; replace ac := am (Kd.R_mono (Kd.R_keep (IsS80.apart (show IsS80 w _ ad ah bJ bK from B18x0_) (Ar ac) (by decide)) hk (fun _ h => h.2)) (fun _ h => h.1)); replace U := kA hk U ba; replace D := kA hk D bd; replace Z := kA hk Z a4; replace HB := am hb; replace J := am hi) | ((with_reducible refine gate_callee (f := 17) rfl ?_); refine goesL_ (some 25) rfl rfl Tryz.func17 gk_ rfl #[.pointer (some ⟨ad, 0, none⟩), .int .i64 6] rfl gm_ ?_; refine (spec_l15Keep.calls k1 ad ah bW bX 6 d2 d3 cO cP w _ B18x0_ (Ae4 HB (IsS80.gf J) ai aj ao) fi.out).mono ?_; rintro e jc ⟨iV, iW, rfl, bh, dP, hi, hb, hk⟩; refine ⟨_, rfl, ?_⟩; replace ac := am (Kd.R_mono (Kd.R_keep (IsS80.apart (show IsS80 w _ ad ah bW bX from B18x0_) (Ar ac) (by decide)) hk (fun _ h => h.2)) (fun _ h => h.1)); replace U := kA hk U ba; replace D := kA hk D bd; replace Z := kA hk Z a4; have aG := am (Kd.R_lower bh (below_size (Ae4 HB (IsS80.gf J) ai aj ao))); have aH := am (Kd.R_lower dP (below_size (Ae4 HB (IsS80.gf J) ai aj ao))); replace HB := am hb; replace J := am hi; obtain ⟨fs, gj, gE⟩ := Kd.R_slice aG.out; subst gE; obtain ⟨ft, gl, gF⟩ := Kd.R_slice aH.out; subst gF) | ((with_reducible refine gate_callee (f := 16) rfl ?_); refine goesL_ (some 26) rfl rfl Tryz.func16 gk_ rfl #[.agg #[.slice fs d2.length gj, .slice ft d3.length gl]] rfl gm_ ?_; (with_reducible refine (spec_KeepText.calls k1 _ _ d2 _ _ d3 bY gZ _ ?z1 ?z2 ?z3 ?z4 dn.out).mono ?_); (case z1 => repeat (first | exact (Kd.R_reads' aG.out).2.2 | (with_reducible refine Kd.C_alloc ?_ _) | (with_reducible refine Kd.C_drewN ?_ _) | (with_reducible refine Kd.C_drew ?_))); (case z2 => exact (Kd.R_reads' aG.out).2.1); (case z3 => repeat (first | exact (Kd.R_reads' aH.out).2.2 | (with_reducible refine Kd.C_alloc ?_ _) | (with_reducible refine Kd.C_drewN ?_ _) | (with_reducible refine Kd.C_drew ?_))); (case z4 => exact (Kd.R_reads' aH.out).2.1); rintro e jd ⟨rfl, hb⟩; refine ⟨_, rfl, ?_⟩; replace ac := rA ac hb; replace aG := rA aG hb; replace aH := rA aH hb; replace U := bA U hb; replace D := bA D hb; replace Z := bA Z hb; replace HB := De4 HB (IsS80.gf J) ai aj ao hb; replace J := am (IsS80.below B18x0_ hb)) | ((with_reducible refine gate_callee (f := 15) rfl ?_); refine goesL_ (some 30) rfl rfl Tryz.func15 gk_ rfl #[.pointer (some ⟨ad, 0, none⟩), .int .i64 9] rfl gm_ ?_; refine (spec_l01Below.calls ad ah cO cP 9 bC cQ cR w _ B18x0_ (Ae4 HB (IsS80.gf J) ai aj ao) fj.out).mono ?_; rintro e hf ⟨rfl, hi, hb, hk⟩; refine ⟨_, rfl, ?_⟩; replace ac := am (Kd.R_mono (Kd.R_keep (IsS80.apart (show IsS80 w _ ad ah cO cP from B18x0_) (Ar ac) (by decide)) hk (fun _ h => h.2)) (fun _ h => h.1)); replace U := kA hk U ba; replace D := kA hk D bd; replace Z := kA hk Z a4; replace aG := am (Kd.R_mono (Kd.R_keep (IsS80.apart (show IsS80 w _ ad ah cO cP from B18x0_) (Ar aG) (by decide)) hk (fun _ h => h.2)) (fun _ h => h.1)); replace aH := am (Kd.R_mono (Kd.R_keep (IsS80.apart (show IsS80 w _ ad ah cO cP from B18x0_) (Ar aH) (by decide)) hk (fun _ h => h.2)) (fun _ h => h.1)); replace HB := am hb; replace J := am hi) | ((with_reducible refine gate_callee (f := 15) rfl ?_); refine goesL_ (some 32) rfl rfl Tryz.func15 gk_ rfl #[.pointer (some ⟨ad, 0, none⟩), .int .i64 5] rfl gm_ ?_; refine (spec_l01Below.calls ad ah cQ cR 5 bZ cS cT w _ B18x0_ (Ae4 HB (IsS80.gf J) ai aj ao) fk.out).mono ?_; rintro e je ⟨rfl, hi, hb, hk⟩; refine ⟨_, rfl, ?_⟩; replace ac := am (Kd.R_mono (Kd.R_keep (IsS80.apart (show IsS80 w _ ad ah cQ cR from B18x0_) (Ar ac) (by decide)) hk (fun _ h => h.2)) (fun _ h => h.1)); replace U := kA hk U ba; replace D := kA hk D bd; replace Z := kA hk Z a4; replace aG := am (Kd.R_mono (Kd.R_keep (IsS80.apart (show IsS80 w _ ad ah cQ cR from B18x0_) (Ar aG) (by decide)) hk (fun _ h => h.2)) (fun _ h => h.1)); replace aH := am (Kd.R_mono (Kd.R_keep (IsS80.apart (show IsS80 w _ ad ah cQ cR from B18x0_) (Ar aH) (by decide)) hk (fun _ h => h.2)) (fun _ h => h.1)); replace HB := am hb; replace J := am hi) | ((with_reducible refine gate_callee (f := 18) rfl ?_); refine goesL_ (some 34) rfl rfl Tryz.func18 gk_ rfl #[.pointer (some ⟨ad, 0, none⟩)] rfl gm_ ?_; refine (spec_l05Conf.calls k1 ad ah cS cT bH d4 d5 w _ B18x0_ (Ae4 HB (IsS80.gf J) ai aj ao) fl.out).mono ?_; rintro e jf ⟨iX, rfl, bh, hi, hb, hk⟩; refine ⟨_, rfl, ?_⟩; replace ac := am (Kd.R_mono (Kd.R_keep (IsS80.apart (show IsS80 w _ ad ah cS cT from B18x0_) (Ar ac) (by decide)) hk (fun _ h => h.2)) (fun _ h => h.1)); replace U := kA hk U ba; replace D := kA hk D bd; replace Z := kA hk Z a4; replace aG := am (Kd.R_mono (Kd.R_keep (IsS80.apart (show IsS80 w _ ad ah cS cT from B18x0_) (Ar aG) (by decide)) hk (fun _ h => h.2)) (fun _ h => h.1)); replace aH := am (Kd.R_mono (Kd.R_keep (IsS80.apart (show IsS80 w _ ad ah cS cT from B18x0_) (Ar aH) (by decide)) hk (fun _ h => h.2)) (fun _ h => h.1)); have a8 := am (Kd.R_lower bh (below_size (Ae4 HB (IsS80.gf J) ai aj ao))); replace HB := am hb; replace J := am hi; obtain ⟨db, cr, gH⟩ := Kd.R_slice a8.out; subst gH) | ((with_reducible refine gate_dst (N := 9) rfl ?_); refine bx (N := 9) (cs := #[.int .i64 0, .int .i64 0, .slice none 0 0, .string (⟨#[]⟩ : ByteArray)]) (t := 29) ?_; intro bp hg fd hbox hb; replace ac := rA ac hb; replace aG := rA aG hb; replace aH := rA aH hb; replace a8 := rA a8 hb; have ak := am hbox; have cg := gA hg HB; replace HB := De4 HB (IsS80.gf J) ai aj ao hb; have ex := nA hg U; have fP := mA hg U; replace U := bA U hb; have ey := nA hg D; have fQ := mA hg D; replace D := bA D hb; have dx := nA hg Z; have eB := mA hg Z; replace Z := bA Z hb; have ez := am (nl hg (IsS80.lt J.out)); have fR := am (ng hg (IsS80.lt J.out)); replace J := am (IsS80.below B18x0_ hb); clear hb hbox hg; have ig := fP.out; have io := ex.out; have ih := fQ.out; have ip := ey.out; have ii := eB.out; have iq := dx.out; have ij := fR.out; have ir := ez.out; obtain ⟨jw, jx, jy, jz, jB, jC, jD, jE⟩ := cf4 ak) | ((with_reducible refine gate_callee (f := 19) rfl ?_); refine goesL_ (some 39) rfl rfl Tryz.func19 gk_ rfl #[.agg #[.int .i64 bC, .int .i64 bZ, .slice db bH.length cr, .string bY]] rfl gm_ ?_; (with_reducible refine (spec_SnapText.calls k1 bC bZ _ _ bH bY cU g0 _ ?z1 ?z2 ce.out).mono ?_); (case z1 => refine (Kd.R_reads' (e := 3) (base := w.heap.size) (ok := fun k_ => True) (n := bH.length) (c := cr) ?_).2.2; exact (tfg a8.out ak.out (by decide))); (case z2 => exact (Kd.R_reads' a8.out).2.1); rintro e fe ⟨rfl, hb⟩; refine ⟨_, rfl, ?_⟩; replace ac := am (Kd.R_below (tfg ac.out ak.out (by decide)) hb); replace aG := am (Kd.R_below (tfg aG.out ak.out (by decide)) hb); replace aH := am (Kd.R_below (tfg aH.out ak.out (by decide)) hb); replace a8 := am (Kd.R_below (tfg a8.out ak.out (by decide)) hb); replace U := am (blk_below (g := ct) (o := .cells #[.slice none 0 0] 26 (0, 0)) (Ap1 U ex) hb); replace D := am (blk_below (g := a5) (o := .cells #[.int .i64 0, .int .i64 0, .slice none 0 0, .string (⟨#[]⟩ : ByteArray)] 29 (0, 0)) (Ap1 D ey) hb); replace Z := am (blk_below (g := bT) (o := .cells #[b0] 26 (0, 0)) (Ap1 Z dx) hb); replace ak := am (blk_below (g := bp) (o := .cells #[.int .i64 bC, .int .i64 bZ, .slice db bH.length cr, .string bY] 29 (0, 0)) (Ap0 ak) hb); replace HB := De5 HB (IsS80.gf J) ai aj ao cg hb; replace J := am (IsS80.below (show IsS80 w ((((fd.setCell ⟨bp, 0, none⟩ (.int .i64 bC)).setCell ⟨bp, 1, none⟩ (.int .i64 bZ)).setCell ⟨bp, 2, none⟩ (.slice db bH.length cr)).setCell ⟨bp, 3, none⟩ (.string bY)) ad ah d4 d5 from B18x5_) hb)))
   replace ac := eA ac; replace aG := eA aG; replace aH := eA aH; replace a8 := eA a8; replace U := dA U; replace D := dA D; replace Z := dA Z; replace ak := dA ak; replace J := am (IsS80.drew J.out); replace HB := bdr HB; refine st_ 10 (fun w' => w'.cell? ⟨bT, 0, none⟩ = some (b0) ∧ w'.cell? ⟨bp, 0, none⟩ = some (.int .i64 bC) ∧ w'.cell? ⟨bp, 1, none⟩ = some (.int .i64 bZ) ∧ w'.cell? ⟨bp, 2, none⟩ = some (.slice db bH.length cr) ∧ w'.cell? ⟨bp, 3, none⟩ = some (.string bY)) [9] spec_DrawRightSnaps.tab9 spec_DrawRightSnaps.bits9 ⟨bc Z 0, bc ak 0, bc ak 1, bc ak 2, bc ak 3⟩ (fun aU ap de => ?_); generalize fe.drew = jj at ac aG aH a8 U D Z ak J HB aU ⊢; refine pu_ 1 43 ap ?_; refine pu_ 4 46 ap ?_; refine pu_ 5 47 ap ?_; refine pu_ 6 48 ap ?_; refine ta_ 0 42 ap de aU ?_; refine ta_ 2 44 ap de aU ?_; refine on_ 3 (some 45) ap (fun K hK => ?_); refine goes_ Tryz.func21 gk_ rfl #[.int .i64 bC] (by rfl) rfl rfl gm_ ?_; refine (spec_SnapName.calls k1 bC cV _ cf.out).mono ?_; rintro e jk ⟨rfl, hb⟩; refine ⟨_, rfl, ?_⟩; replace ac := rA ac hb; replace U := bA U hb; replace D := bA D hb; replace Z := bA Z hb; replace ak := bA ak hb; replace HB := De5 HB (IsS80.gf J) ai aj ao cg hb; replace J := am (IsS80.below B18x5_ hb); obtain ⟨et, eN, eP⟩ := Kd.R_slice ac.out
   (first | subst eP | (injection eP with f1_ f2_ f3_; have f4_ := f1_.symm; have f5_ := f3_.symm; clear f1_ f2_ f3_; subst f4_; subst f5_))
   refine hK.out _ _ ⟨bc Z 0, bc ak 0, bc ak 1, bc ak 2, bc ak 3⟩ (fun aU => nm_ ?_); clear hK K; refine pu_ 7 49 ap ?_; refine on_ 8 (some 50) ap (fun K hK => ?_); refine goes_ Tryz.func20 gk_ rfl #[.agg #[.slice et bL.length eN], .agg #[.string cV, .string cU, .int .i64 (cU.size : Int)]] (by rfl) rfl rfl gm_ ?_
   with_reducible refine (spec_l03Put.calls k1 _ _ bL cV cU (cU.size : Int) cW _ ?z1 ?z2 fm.out).mono ?_
   (case z1 => repeat (first | exact (Kd.R_reads' ac.out).2.2 | (with_reducible refine Kd.C_alloc ?_ _) | (with_reducible refine Kd.C_drewN ?_ _) | (with_reducible refine Kd.C_drew ?_)))
   (case z2 => exact (Kd.R_reads' ac.out).2.1)
   rintro e ff ⟨iY, rfl, bh, hb⟩; refine ⟨_, rfl, ?_⟩; have ev := am (Kd.R_lower (Kd.R_new' bh (Kd.R_lt (Ar ac))) (below_size (Ae5 HB (IsS80.gf J) ai aj ao cg))); replace ac := am (Kd.R_elder' (Ar ac) (Kd.R_base bh) hb); replace U := bA U hb; replace D := bA D hb; replace Z := bA Z hb; replace ak := bA ak hb; replace HB := De5 HB (IsS80.gf J) ai aj ao cg hb; replace J := am (IsS80.below B18x5_ hb); obtain ⟨fx, gq, eQ⟩ := Kd.R_slice ev.out
   (first | subst eQ | (injection eQ with f1_ f2_ f3_; have f4_ := f1_.symm; have f5_ := f3_.symm; clear f1_ f2_ f3_; subst f4_; subst f5_))
   refine hK.out _ _ ⟨bc Z 0, bc ak 0, bc ak 1, bc ak 2, bc ak 3⟩ (fun aU => nm_ ?_); clear hK K; refine last_ (i := 9) (N := none) #[true, true, true, true, true, true, true, true, true, true] rfl rfl (one_of ap.out gk_) (by decide) (fun K hK => ?_)
   have iK : ff.cell? ⟨bT, 0, none⟩ = some (.slice et bL.length eN) := bc Z 0
   have hT := blk_frozen Z.out 0; obtain ⟨ix, iy, iz, h1, h2, h3⟩ := o6_ ch bB eB df be dx; refine skip_ (w1 := ?_) (by rfl) rfl ?_ ?_; rotate_left
   ·go_simp; rfl
   refine hK.out _ _ ?_; clear hK K; refine done_ (done_of ap.out gk_) ?_
   try go_wp2
   go_roundg k1
   case measure => have := au.out; omega
   case rel => exact ⟨(wrap64 (aM + 1)), d4, d5, cW, (.slice fx cW.length gq), be_, bm, ⟨(by have := au.out; omega)⟩, ⟨tfg ev.out Z.out (by decide)⟩, Cp1 U ch, Cp1 D bB, Cp0 Z, ⟨B18x5_⟩, Ce5 HB (IsS80.gf J) ai aj ao cg⟩
  ·obtain ⟨⟨d6, d7, d8, d9⟩, fn, bz⟩ := bsi M; (try dsimp only at bz); obtain ⟨⟨e0, g1⟩, fo, bn⟩ := bsi bz; (try dsimp only at bn); obtain ⟨⟨e1, ea, eb⟩, fp, a9⟩ := bsi bn; (try dsimp only at a9); obtain ⟨⟨e2, ec, ed⟩, fq, bo⟩ := bsi a9; (try dsimp only at bo); obtain ⟨⟨e3, g2, g3⟩, fr, ds⟩ := bsi bo; (try dsimp only at ds); obtain ⟨rfl, rfl, rfl, rfl, rfl⟩ := s5 ds; clear ds z B M bz bn a9 bo
   try go_wp2_with (first | ((with_reducible refine gate_callee (f := 15) rfl ?_); refine goesL_ (some 19) rfl rfl Tryz.func15 gk_ rfl #[.pointer (some ⟨ad, 0, none⟩), .int .i64 3] rfl gm_ ?_; refine (spec_l01Below.calls ad ah bJ bK 3 eZ bW bX w _ B18x0_ (Ae4 HB (IsS80.gf J) ai aj ao) eq.out).mono ?_; rintro e jp ⟨rfl, hi, hb, hk⟩; refine ⟨_, rfl, ?_⟩; replace ac := am (Kd.R_mono (Kd.R_keep (IsS80.apart (show IsS80 w _ ad ah bJ bK from B18x0_) (Ar ac) (by decide)) hk (fun _ h => h.2)) (fun _ h => h.1)); replace U := kA hk U ba; replace D := kA hk D bd; replace Z := kA hk Z a4; replace HB := am hb; replace J := am hi) | ((with_reducible refine gate_callee (f := 17) rfl ?_); refine goesL_ (some 53) rfl rfl Tryz.func17 gk_ rfl #[.pointer (some ⟨ad, 0, none⟩), .int .i64 12] rfl gm_ ?_; refine (spec_l15Keep.calls k1 ad ah bW bX 12 d6 d7 d8 d9 w _ B18x0_ (Ae4 HB (IsS80.gf J) ai aj ao) fn.out).mono ?_; rintro e hh ⟨iZ, i0, rfl, bh, dP, hi, hb, hk⟩; refine ⟨_, rfl, ?_⟩; replace ac := am (Kd.R_mono (Kd.R_keep (IsS80.apart (show IsS80 w _ ad ah bW bX from B18x0_) (Ar ac) (by decide)) hk (fun _ h => h.2)) (fun _ h => h.1)); replace U := kA hk U ba; replace D := kA hk D bd; replace Z := kA hk Z a4; have bv := am (Kd.R_lower bh (below_size (Ae4 HB (IsS80.gf J) ai aj ao))); have bw := am (Kd.R_lower dP (below_size (Ae4 HB (IsS80.gf J) ai aj ao))); replace HB := am hb; replace J := am hi; obtain ⟨fA, gu, gP⟩ := Kd.R_slice bv.out; subst gP; obtain ⟨fB, gv, gQ⟩ := Kd.R_slice bw.out; subst gQ) | ((with_reducible refine gate_callee (f := 16) rfl ?_); refine goesL_ (some 54) rfl rfl Tryz.func16 gk_ rfl #[.agg #[.slice fA d6.length gu, .slice fB d7.length gv]] rfl gm_ ?_; (with_reducible refine (spec_KeepText.calls k1 _ _ d6 _ _ d7 e0 g1 _ ?z1 ?z2 ?z3 ?z4 fo.out).mono ?_); (case z1 => repeat (first | exact (Kd.R_reads' bv.out).2.2 | (with_reducible refine Kd.C_alloc ?_ _) | (with_reducible refine Kd.C_drewN ?_ _) | (with_reducible refine Kd.C_drew ?_))); (case z2 => exact (Kd.R_reads' bv.out).2.1); (case z3 => repeat (first | exact (Kd.R_reads' bw.out).2.2 | (with_reducible refine Kd.C_alloc ?_ _) | (with_reducible refine Kd.C_drewN ?_ _) | (with_reducible refine Kd.C_drew ?_))); (case z4 => exact (Kd.R_reads' bw.out).2.1); rintro e hj ⟨rfl, hb⟩; refine ⟨_, rfl, ?_⟩; replace ac := rA ac hb; replace bv := rA bv hb; replace bw := rA bw hb; replace U := bA U hb; replace D := bA D hb; replace Z := bA Z hb; replace HB := De4 HB (IsS80.gf J) ai aj ao hb; replace J := am (IsS80.below B18x0_ hb)))
   replace ac := eA ac; replace bv := eA bv; replace bw := eA bw; replace U := dA U; replace D := dA D; replace Z := dA Z; replace J := am (IsS80.drew J.out); replace HB := bdr HB; refine st_ 12 (fun w' => w'.cell? ⟨bT, 0, none⟩ = some (b0)) [] spec_DrawRightSnaps.tab11 spec_DrawRightSnaps.bits11 (bc Z 0) (fun aU ap de => ?_); generalize hj.drew = hl at ac bv bw U D Z J HB aU ⊢; refine pu_ 1 58 ap ?_; refine pu_ 4 61 ap ?_; refine pu_ 6 63 ap ?_; refine pu_ 8 65 ap ?_; refine take_ (i := 0) (N := some 57) (v := ?_) (a' := ?_) #[true, true, false, false, true, false, true, false, true, false, false, false] rfl rfl (take_ofW ap.out de.out gk_) (fun _ _ _ h => h) (Or.inl ⟨(by rfl), ?_⟩) aU ?_ ?_; rotate_left
   ·intro w' s0; go_simp; with_reducible rfl
   rotate_left
   ·simp only [Act.put, List.setIfInBounds_toArray, List.set_cons_zero, List.set_cons_succ, i64_w, i32_w]; rfl
   refine on_ 2 (some 59) ap (fun K hK => ?_); refine goes_ Tryz.func15 gk_ rfl #[.pointer (some ⟨ad, 0, none⟩), .int .i64 9] (by rfl) rfl rfl gm_ ?_; refine (spec_l01Below.calls ad ah d8 d9 9 e1 ea eb w _ B18x0_ (Ae4 HB (IsS80.gf J) ai aj ao) fp.out).mono ?_; rintro e hm ⟨rfl, hi, hb, hk⟩; refine ⟨_, rfl, ?_⟩; replace ac := am (Kd.R_mono (Kd.R_keep (IsS80.apart (show IsS80 w _ ad ah d8 d9 from B18x0_) (Ar ac) (by decide)) hk (fun _ h => h.2)) (fun _ h => h.1)); replace U := kA hk U ba; replace D := kA hk D bd; replace Z := kA hk Z a4; replace HB := am hb; replace J := am hi; refine hK.out _ _ (bc Z 0) (fun aU => nm_ ?_); clear hK K; refine pu_ 3 60 ap ?_; refine on_ 5 (some 62) ap (fun K hK => ?_); refine goes_ Tryz.func15 gk_ rfl #[.pointer (some ⟨ad, 0, none⟩), .int .i64 5] (by rfl) rfl rfl gm_ ?_; refine (spec_l01Below.calls ad ah ea eb 5 e2 ec ed w _ B18x0_ (Ae4 HB (IsS80.gf J) ai aj ao) fq.out).mono ?_; rintro e jr ⟨rfl, hi, hb, hk⟩; refine ⟨_, rfl, ?_⟩; replace ac := am (Kd.R_mono (Kd.R_keep (IsS80.apart (show IsS80 w _ ad ah ea eb from B18x0_) (Ar ac) (by decide)) hk (fun _ h => h.2)) (fun _ h => h.1)); replace U := kA hk U ba; replace D := kA hk D bd; replace Z := kA hk Z a4; replace HB := am hb; replace J := am hi; refine hK.out _ _ (bc Z 0) (fun aU => nm_ ?_); clear hK K; refine on_ 7 (some 64) ap (fun K hK => ?_); refine goes_ Tryz.func18 gk_ rfl #[.pointer (some ⟨ad, 0, none⟩)] (by rfl) rfl rfl gm_ ?_; refine (spec_l05Conf.calls k1 ad ah ec ed e3 g2 g3 w _ B18x0_ (Ae4 HB (IsS80.gf J) ai aj ao) fr.out).mono ?_; rintro e cZ ⟨i1, rfl, bh, hi, hb, hk⟩; refine ⟨_, rfl, ?_⟩; replace ac := am (Kd.R_mono (Kd.R_keep (IsS80.apart (show IsS80 w _ ad ah ec ed from B18x0_) (Ar ac) (by decide)) hk (fun _ h => h.2)) (fun _ h => h.1)); replace U := kA hk U ba; replace D := kA hk D bd; replace Z := kA hk Z a4; have ew := am (Kd.R_lower bh (below_size (Ae4 HB (IsS80.gf J) ai aj ao))); replace HB := am hb; replace J := am hi; obtain ⟨fD, gx, eR⟩ := Kd.R_slice ew.out
   (first | subst eR | (injection eR with f1_ f2_ f3_; have f4_ := f1_.symm; have f5_ := f3_.symm; clear f1_ f2_ f3_; subst f4_; subst f5_))
   obtain ⟨fE, gy, eS⟩ := Kd.R_slice ac.out
   (first | subst eS | (injection eS with f1_ f2_ f3_; have f4_ := f1_.symm; have f5_ := f3_.symm; clear f1_ f2_ f3_; subst f4_; subst f5_))
   refine hK.out _ _ (bc Z 0) (fun aU => nm_ ?_); clear hK K; refine pu_ 9 66 ap ?_; refine on_ 10 none ap (fun K hK => ?_)
   have iL : cZ.cell? ⟨ct, 0, none⟩ = some (.slice none 0 0) := bc U 0
   have hU := blk_frozen U.out 0; obtain ⟨iA, iB, h4, h5⟩ := o4_ bP df bO ch; refine skip_ (w1 := ?_) (by rfl) rfl ?_ ?_; rotate_left
   ·go_simp; rfl
   refine hK.out _ _ (((cell_far (p := ⟨ct, _, none⟩) df.out _).trans (aU))) (fun aU => ?_); clear hK K; refine on_ 11 none ap (fun K hK => ?_)
   have iM : cZ.cell? ⟨a5, 0, none⟩ = some (.int .i64 0) := bc D 0
   have hV := blk_frozen D.out 0; obtain ⟨iC, iD, h6, h7⟩ := o4_ bO be bP bB
   have iN : cZ.cell? ⟨a5, 1, none⟩ = some (.int .i64 0) := bc D 1
   have hW := blk_frozen D.out 1; obtain ⟨iE, iF, h8, h9⟩ := o4_ bO be bP bB
   have iO : cZ.cell? ⟨a5, 2, none⟩ = some (.slice none 0 0) := bc D 2
   have hX := blk_frozen D.out 2; obtain ⟨iG, iH, ia, ib⟩ := o4_ bO be bP bB
   have iP : cZ.cell? ⟨a5, 3, none⟩ = some (.string (⟨#[]⟩ : ByteArray)) := bc D 3
   have hY := blk_frozen D.out 3; obtain ⟨iI, iJ, ic, ie⟩ := o4_ bO be bP bB; refine skip_ (w1 := ?_) (by rfl) rfl ?_ ?_; rotate_left
   ·go_simp; rfl
   refine hK.out _ _ (((cell_far (p := ⟨a5, _, none⟩) be.out _).trans (((cell_far (p := ⟨a5, _, none⟩) be.out _).trans (((cell_far (p := ⟨a5, _, none⟩) be.out _).trans (((cell_far (p := ⟨a5, _, none⟩) be.out _).trans (aU))))))))) (fun aU => ?_); clear hK K; refine done_ (done_of ap.out gk_) ?_
   try go_wp2
   refine bodyPost_ret (results_cc rfl _ _ ct a5 26 29 #[.slice fE bL.length gy] #[.int .i64 (wrap64 (9 + e1)), .int .i64 e2, .slice fD e3.length gx, .string e0] (0, 0) (0, 0) _ _ rfl (Ap1 U bO) Tryz.underlying26 rfl gk_ rfl (Ap1 D bP) Tryz.underlying29 rfl gk_) rfl ?_; exact ⟨_, _, B18x17_, (tfh ac.out U.out (by decide) D.out (by decide)), (tfh ew.out U.out (by decide) D.out (by decide)), (Ae4 HB (IsS80.gf J) ai aj ao)⟩

def impl_within.f (j : Int) (a1 : Int) (a2 : Int) : Option (Bool) := if j ≥ a1 then (some (decide (j ≤ a2))) else (some false)
theorem impl_within.calls (j : Int) (a1 : Int) (a2 : Int) (r : Bool) (w : World) (h : impl_within.f j a1 a2 = some r) :
  Calls Tryz.prog 56 #[.int .i64 j, .int .i64 a1, .int .i64 a2] w fun e w' => e = .returned (.bool r) ∧ Drawn0 w w' := by
 have q := h
 clear h
 unfold impl_within.f at q
 obtain ⟨c4, l⟩ | ⟨c4, l⟩ := sp q
 ·have aZ : decide (a1 ≤ j) = true := decide_eq_true c4
  clear c4; obtain rfl := Option.some.inj l; clear l q; go_enter Tryz.func56, Tryz.ntmps56
  go_wp2
  go_ret; exact ⟨gr_, gd_⟩
 ·have aZ : decide (a1 ≤ j) = false := decide_eq_false c4
  clear c4; obtain rfl := Option.some.inj l; clear l q; go_enter Tryz.func56, Tryz.ntmps56
  go_wp2
  go_ret; exact ⟨gr_, gd_⟩

def impl_isNode.f (j : Int) : Option (Bool) := (impl_within.f j 1 4).bind fun ee => (some ee)
theorem impl_isNode.calls (j : Int) (r : Bool) (w : World) (h : impl_isNode.f j = some r) :
  Calls Tryz.prog 90 #[.int .i64 j] w fun e w' => e = .returned (.bool r) ∧ Drawn0 w w' := by
 have q := h
 clear h
 unfold impl_isNode.f at q
 obtain ⟨ee, A2, l⟩ := bsi q
 (try dsimp only at l)
 obtain rfl := Option.some.inj l
 clear l q
 go_enter Tryz.func90, Tryz.ntmps90
 go_wp2_with (first | ((with_reducible refine gate_callee (f := 56) rfl ?_); refine goesL_ (some 4) rfl rfl Tryz.func56 gk_ rfl #[.int .i64 j, .int .i64 1, .int .i64 4] rfl gm_ ?_; refine (impl_within.calls j 1 4 ee _ A2.out).mono ?_; rintro e w' ⟨rfl, ⟨nd, rfl⟩⟩; refine ⟨_, rfl, ?_⟩))
 go_ret
 exact ⟨gr_, gd_⟩
theorem B19x9_ (h : p := by have := au.out; omega) : p := h
theorem B19x11_ (h : p := by have := au.out; have := dc.out; omega) : p := h
theorem B19x12_ (h : p := by exact (below_size (Ae0 HB))) : p := h
def impl_nodesOk.l0 : Nat → List Int → List Int → Int → Int → Option (Bool)
 | 0, _, _, _, _ => none
 | k + 1, x0, x5, x6, x7 => if x7 < x6 then (if 0 ≤ x7 then (if x7 < (x5.length : Int) then ((impl_isNode.f (rd x5 x7)).bind fun e4 => (if e4 = true then (if x7 > 0 then (if 0 ≤ (wrap64 (x7 - 1)) then (if (wrap64 (x7 - 1)) < (x0.length : Int) then (if (rd x0 (wrap64 (x7 - 1))) ≥ (rd x5 x7) then (some false) else (impl_nodesOk.l0 k x0 x5 x6 (wrap64 (x7 + 1)))) else (none)) else (none)) else (impl_nodesOk.l0 k x0 x5 x6 (wrap64 (x7 + 1)))) else (some false))) else (none)) else (none)) else (some true)
def impl_nodesOk.f (k : Nat) (l0 : List Int) : Option (Bool) := impl_nodesOk.l0 k l0 l0 (l0.length : Int) 0
theorem impl_nodesOk.calls (k : Nat) (A0 : Option Addr) (c0 : Nat) (l0 : List Int) (r : Bool) (w : World) (aC : Kd.C (Kd.int .i64) w A0 l0.length l0) (aA : l0.length ≤ c0) (h : impl_nodesOk.f k l0 = some r) :
  Calls Tryz.prog 78 #[.slice A0 l0.length c0] w fun e w' => e = .returned (.bool r) ∧ Drawn0 w w' := by
 have ay := am aC
 have a3 := am aA
 clear aC aA
 have q := h
 clear h
 unfold impl_nodesOk.f at q
 replace q := am q
 go_enter Tryz.func78, Tryz.ntmps78
 go_wp2
 go_loopg [7] k (fun kq v7 w' => ∃ (ag : Int), v7 = .int .i64 ag ∧ Aside0 (impl_nodesOk.l0 kq l0 l0 (l0.length : Int) ag = some r) ∧ Aside0 (kq ≤ k) ∧ Drawn0 w w')
 case atStart => exact ⟨(0), be_, q, ⟨Nat.le_refl _⟩, gd_⟩
 case round =>
  clear q; obtain ⟨ag, rfl, l, au, ⟨m1, rfl⟩⟩ := hrel
  cases gk with
  | zero => exact absurd l.out (by simp [impl_nodesOk.l0])
  | succ k1 => ?_
  replace l := l.out; simp only [impl_nodesOk.l0] at l
  obtain ⟨aX, z⟩ | ⟨aX, z⟩ := sd l
  ·obtain ⟨bD, B⟩ := yd z; obtain ⟨aZ, M⟩ := yd B; obtain ⟨e4, A5, Y⟩ := bsi M; (try dsimp only at Y)
   obtain ⟨rfl, aa⟩ | ⟨rfl, aa⟩ := sb Y
   ·obtain ⟨c7, aI⟩ | ⟨c7, aI⟩ := sp aa
    ·have cq : decide (0 < ag) = true := decide_eq_true c7
     clear c7; obtain ⟨br, cu⟩ : ∃ j_ : Int, (wrap64 (ag - 1)) = j_ := ⟨_, rfl⟩
     (first | rw [cu] at aI | simp only [cu] at aI)
     (try rw [cu] at A5)
     have h0 : (IntKind.i64.wrap (ag - 1)) = br := (i64_w _).trans cu
     obtain ⟨eM, aJ⟩ := yd aI; obtain ⟨fZ, aD⟩ := yd aJ
     obtain ⟨cn, az⟩ | ⟨cn, az⟩ := sp aD
     ·have f0 : decide ((rd l0 ag) ≤ (rd l0 (br))) = true := decide_eq_true cn
      clear cn; obtain rfl := Option.some.inj az; clear az l z B M Y aa aI aJ aD
      have aV : 0 ≤ (ag : Int) := dga
      have aW : ag < (l0.length : Int) := dga
      obtain ⟨ci, bE, dQ⟩ := Kd.at_int ay.out ag aV aW; cases bE; replace aV := eq_true aV; replace aW := eq_true aW
      go_wp2_with (first | ((with_reducible refine gate_callee (f := 90) rfl ?_); refine goesL_ (some 13) rfl rfl Tryz.func90 gk_ rfl #[.int .i64 (rd l0 ag)] rfl gm_ ?_; refine (impl_isNode.calls (rd l0 ag) true _ A5.out).mono ?_; rintro e w' ⟨rfl, ⟨nd, rfl⟩⟩; refine ⟨_, rfl, ?_⟩; have bF : 0 ≤ ((br) : Int) := dga; have bG : (br) < (l0.length : Int) := dga; obtain ⟨dy, dN, gY⟩ := Kd.at_int ay.out (br) bF bG; obtain rfl : ci = dy := (by injection dN); replace bF := eq_true bF; replace bG := eq_true bG))
      go_ret
      exact ⟨(by first | rfl | (simp; done) | (simp only [← cu] <;> (first | rfl | simp)) | (simp [*]; done)), gd_⟩
     ·have f0 : decide ((rd l0 ag) ≤ (rd l0 (br))) = false := decide_eq_false cn
      clear cn; replace az := am az; clear l z B M Y aa aI aJ aD
      have aV : 0 ≤ (ag : Int) := dga
      have aW : ag < (l0.length : Int) := dga
      obtain ⟨ci, bE, dQ⟩ := Kd.at_int ay.out ag aV aW; cases bE; replace aV := eq_true aV; replace aW := eq_true aW
      go_wp2_with (first | ((with_reducible refine gate_callee (f := 90) rfl ?_); refine goesL_ (some 13) rfl rfl Tryz.func90 gk_ rfl #[.int .i64 (rd l0 ag)] rfl gm_ ?_; refine (impl_isNode.calls (rd l0 ag) true _ A5.out).mono ?_; rintro e w' ⟨rfl, ⟨nd, rfl⟩⟩; refine ⟨_, rfl, ?_⟩; have bF : 0 ≤ ((br) : Int) := dga; have bG : (br) < (l0.length : Int) := dga; obtain ⟨dy, dN, gY⟩ := Kd.at_int ay.out (br) bF bG; obtain rfl : ci = dy := (by injection dN); replace bF := eq_true bF; replace bG := eq_true bG))
      go_roundg k1
      case measure => have := au.out; omega
      case rel => exact ⟨(wrap64 (ag + 1)), be_, az, ⟨B19x9_⟩, gd_⟩
    ·have cq : decide (0 < ag) = false := decide_eq_false c7
     clear c7; replace aI := am aI; clear l z B M Y aa
     have aV : 0 ≤ (ag : Int) := dga
     have aW : ag < (l0.length : Int) := dga
     obtain ⟨ci, bE, dQ⟩ := Kd.at_int ay.out ag aV aW; cases bE; replace aV := eq_true aV; replace aW := eq_true aW
     go_wp2_with (first | ((with_reducible refine gate_callee (f := 90) rfl ?_); refine goesL_ (some 13) rfl rfl Tryz.func90 gk_ rfl #[.int .i64 (rd l0 ag)] rfl gm_ ?_; refine (impl_isNode.calls (rd l0 ag) true _ A5.out).mono ?_; rintro e w' ⟨rfl, ⟨nd, rfl⟩⟩; refine ⟨_, rfl, ?_⟩))
     go_roundg k1
     case measure => have := au.out; omega
     case rel => exact ⟨(wrap64 (ag + 1)), be_, aI, ⟨B19x9_⟩, gd_⟩
   ·obtain rfl := Option.some.inj aa; clear aa l z B M Y
    have aV : 0 ≤ (ag : Int) := dga
    have aW : ag < (l0.length : Int) := dga
    obtain ⟨ci, bE, dQ⟩ := Kd.at_int ay.out ag aV aW; cases bE; replace aV := eq_true aV; replace aW := eq_true aW
    go_wp2_with (first | ((with_reducible refine gate_callee (f := 90) rfl ?_); refine goesL_ (some 13) rfl rfl Tryz.func90 gk_ rfl #[.int .i64 (rd l0 ag)] rfl gm_ ?_; refine (impl_isNode.calls (rd l0 ag) false _ A5.out).mono ?_; rintro e w' ⟨rfl, ⟨nd, rfl⟩⟩; refine ⟨_, rfl, ?_⟩))
    go_ret; exact ⟨gr_, gd_⟩
  ·obtain rfl := Option.some.inj z; clear z l
   go_wp2
   go_ret; exact ⟨gr_, gd_⟩

def impl_ConfOk.f (k : Nat) (l0 : List Int) : Option (Bool) := if (l0.length : Int) > 0 then ((impl_nodesOk.f k l0).bind fun ef => (some ef)) else (some false)
theorem impl_ConfOk.calls (k : Nat) (A0 : Option Addr) (c0 : Nat) (l0 : List Int) (r : Bool) (w : World) (aC : Kd.C (Kd.int .i64) w A0 l0.length l0) (aA : l0.length ≤ c0) (h : impl_ConfOk.f k l0 = some r) :
  Calls Tryz.prog 53 #[.slice A0 l0.length c0] w fun e w' => e = .returned (.bool r) ∧ Drawn0 w w' := by
 have ay := am aC
 have a3 := am aA
 clear aC aA
 have q := h
 clear h
 unfold impl_ConfOk.f at q
 obtain ⟨c2, l⟩ | ⟨c2, l⟩ := sp q
 ·have aX : decide (0 < (l0.length : Int)) = true := decide_eq_true c2
  have cp : decide (0 < l0.length) = true := decide_eq_true (by omega)
  clear c2; obtain ⟨ef, A3, z⟩ := bsi l; (try dsimp only at z); obtain rfl := Option.some.inj z; clear z q l; go_enter Tryz.func53, Tryz.ntmps53
  go_wp2_with (first | (go_at_call 78; refine (impl_nodesOk.calls k _ _ l0 ef _ (Ac ay) a3.out A3.out).mono ?_; rintro e w' ⟨rfl, ⟨nd, rfl⟩⟩))
  go_ret; exact ⟨gr_, gd_⟩
 ·have aX : decide (0 < (l0.length : Int)) = false := decide_eq_false c2
  have cp : decide (0 < l0.length) = false := decide_eq_false (by omega)
  clear c2; obtain rfl := Option.some.inj l; clear l q; go_enter Tryz.func53, Tryz.ntmps53
  go_wp2
  go_ret; exact ⟨gr_, gd_⟩

def impl_byteTexts.l0 : Nat → List Int → List Int → Int → Int → Option (ByteArray)
 | 0, _, _, _, _ => none
 | k + 1, x3, x7, x8, x9 => if x9 < x8 then (if 0 ≤ x9 then (if x9 < (x7.length : Int) then (if x3.length < 140737488355328 then (impl_byteTexts.l0 k (x3 ++ [(rd x7 x9) % 256]) x7 x8 (wrap64 (x9 + 1))) else (none)) else (none)) else (none)) else (some (strOfNums x3))
def impl_byteTexts.f (k : Nat) (l0 : List Int) : Option (ByteArray) := impl_byteTexts.l0 k (([] : List Int)) l0 (l0.length : Int) 0
theorem impl_byteTexts.calls (k : Nat) (A0 : Option Addr) (c0 : Nat) (l0 : List Int) (r : ByteArray) (w : World) (aC : Kd.C (Kd.int .i64) w A0 l0.length l0) (aA : l0.length ≤ c0) (h : impl_byteTexts.f k l0 = some r) :
  Calls Tryz.prog 54 #[.slice A0 l0.length c0] w fun e w' => e = .returned (.string r) ∧ Below w.heap.size w w' := by
 have ay := am aC
 have a3 := am aA
 clear aC aA
 have HB := am (Below.refl w.heap.size w)
 have q := h
 clear h
 unfold impl_byteTexts.f at q
 obtain ⟨hx, cE⟩ : ∃ y_ : List Int, y_ = (([] : List Int)) := ⟨_, rfl⟩
 (first | with_reducible replace q := hq cE q | rw [← cE] at q | simp only [← cE] at q)
 have eC := am cE
 clear cE
 replace q := am q
 go_enter Tryz.func54, Tryz.ntmps54
 go_wp2_with (first | ((with_reducible refine gate_dst (N := 6) rfl ?_); refine lL (Kd.int .u8) 5 6 ([] : List Int) [] (Reps.none _ _) ?_; intro i2 w2 cw hb; (first | rw [← eC.out] at cw | (simp only [Int.reduceToNat] at cw; rw [← eC.out] at cw)); have fH := am (Kd.R_lower cw (below_size (Ae0 HB))); replace HB := hA HB hb; clear hb cw))
 go_loopg [3, 9] k (fun kq v3 v9 w' => ∃ (aK : List Int) (bk : Int), v9 = .int .i64 bk ∧ Aside0 (impl_byteTexts.l0 kq aK l0 (l0.length : Int) bk = some r) ∧ Aside0 (kq ≤ k) ∧ Aside0 (Kd.R (Kd.int .u8) 5 w' w.heap.size (fun _ => True) v3 aK) ∧ Aside0 (Below w.heap.size w w'))
 case atStart => exact ⟨(hx), 0, be_, q, ⟨Nat.le_refl _⟩, Cr fH, Ce0 HB⟩
 case round =>
  clear q; obtain ⟨aK, bk, rfl, l, au, dq, HB⟩ := hrel
  cases gk with
  | zero => exact absurd l.out (by simp [impl_byteTexts.l0])
  | succ k1 => ?_
  replace l := l.out; simp only [impl_byteTexts.l0] at l
  obtain ⟨aZ, z⟩ | ⟨aZ, z⟩ := sd l
  ·obtain ⟨dI, B⟩ := yd z; obtain ⟨bS, M⟩ := yd B; obtain ⟨dt, Y⟩ := ya M; obtain ⟨hz, cF⟩ : ∃ y_ : List Int, y_ = (aK ++ [(rd l0 bk) % 256]) := ⟨_, rfl⟩
   (first | with_reducible replace Y := hq cF Y | rw [← cF] at Y | simp only [← cF] at Y)
   have fS := am cF; clear cF; replace Y := am Y; clear l z B M
   have dV : 0 ≤ (bk : Int) := dga
   have dZ : bk < (l0.length : Int) := dga
   obtain ⟨hG, gB, dR⟩ := Kd.at_int ay.out bk dV dZ; cases gB; replace dR := (hbc HB dR).trans dR; replace dV := eq_true dV; replace dZ := eq_true dZ
   go_wp2_with (first | ((with_reducible refine gate_builtin (b := .append) (xs := #[.tmp 13, .tmp 16]) rfl ?_); at_builtin; refine Kd.R_append (Kd.int .u8) (w0 := w) w.heap.size rfl (.tmp 13) (.tmp 16) 22 5 (.int .u8 0) 1 rfl Tryz.underlying22 info5 rfl (by decide) (by omega) u3 aK ((rd l0 bk) % 256) [.int .u8 ((rd l0 bk) % 256)] (fun _ => True) (fun _ => False) rfl rfl ?aP (fun _ hk => hk.elim) ?aF ?aO ?aB ?aS ?aL ?_; (case aP => exact rfl); (case aB => exact (Ae0 HB)); (case aF => exact (fun _ _ => trivial)); (case aO => (with_reducible repeat (first | apply Kd.R_alloc | apply Kd.R_drewN | apply Kd.R_drew)); exact dq.out); (case aS => exact B19x12_); (case aL => have := dt.out; omega); intro i3 w8 ho hb hg hat; rw [← fS.out] at ho; replace HB := am hb; have fI := am ho; clear dq; clear ho hb hg hat))
   go_roundg k1
   case measure => have := au.out; omega
   case rel => exact ⟨(hz), (wrap64 (bk + 1)), be_, Y, ⟨B19x9_⟩, Cr fI, Ce0 HB⟩
  ·obtain rfl := Option.some.inj z; clear z l; have hR := own_string (P := Tryz.prog) Tryz.underlying22 Tryz.underlying5 Tryz.underlying9 (Kd.own_of_R dq.out)
   go_wp2
   go_ret; exact D6x0_

def impl_ConfText.f (k : Nat) (l0 : List Int) : Option (ByteArray × Bool) := (impl_ConfOk.f k l0).bind fun e5 => (if e5 = true then ((impl_byteTexts.f k l0).bind fun eg => (some (eg, true))) else (some ((⟨#[]⟩ : ByteArray), false)))
theorem impl_ConfText.calls (k : Nat) (A0 : Option Addr) (c0 : Nat) (l0 : List Int) (r1 : ByteArray) (r2 : Bool) (w : World) (aC : Kd.C (Kd.int .i64) w A0 l0.length l0) (aA : l0.length ≤ c0) (h : impl_ConfText.f k l0 = some (r1, r2)) :
  Calls Tryz.prog 22 #[.slice A0 l0.length c0] w fun e w' => e = .returned (.tuple #[.string r1, .bool r2]) ∧ Below w.heap.size w w' := by
 have ay := am aC
 have a3 := am aA
 clear aC aA
 have HB := am (Below.refl w.heap.size w)
 have q := h
 clear h
 unfold impl_ConfText.f at q
 obtain ⟨e5, A2, l⟩ := bsi q
 (try dsimp only at l)
 obtain ⟨rfl, z⟩ | ⟨rfl, z⟩ := sb l
 ·obtain ⟨eg, A4, B⟩ := bsi z; (try dsimp only at B); obtain ⟨rfl, rfl⟩ := s2 B; clear B q l z; go_enter Tryz.func22, Tryz.ntmps22
  go_wp2_with (first | ((with_reducible refine gate_callee (f := 53) rfl ?_); refine goesL_ (some 5) rfl rfl Tryz.func53 gk_ rfl #[.slice A0 l0.length c0] rfl gm_ ?_; refine (impl_ConfOk.calls k _ _ l0 true _ (Ac ay) a3.out A2.out).mono ?_; rintro e w' ⟨rfl, ⟨nd, rfl⟩⟩; refine ⟨_, rfl, ?_⟩) | ((with_reducible refine gate_callee (f := 54) rfl ?_); refine goesL_ (some 8) rfl rfl Tryz.func54 gk_ rfl #[.slice A0 l0.length c0] rfl gm_ ?_; refine (impl_byteTexts.calls k _ _ l0 eg _ (Ac ay) a3.out A4.out).mono ?_; rintro e w5 ⟨rfl, hb⟩; refine ⟨_, rfl, ?_⟩; replace HB := hA HB hb))
  go_ret2
  exact D6x0_
 ·obtain ⟨rfl, rfl⟩ := s2 z; clear z q l; go_enter Tryz.func22, Tryz.ntmps22
  go_wp2_with (first | ((with_reducible refine gate_callee (f := 53) rfl ?_); refine goesL_ (some 5) rfl rfl Tryz.func53 gk_ rfl #[.slice A0 l0.length c0] rfl gm_ ?_; refine (impl_ConfOk.calls k _ _ l0 false _ (Ac ay) a3.out A2.out).mono ?_; rintro e w' ⟨rfl, ⟨nd, rfl⟩⟩; refine ⟨_, rfl, ?_⟩))
  go_ret2
  exact D6x0_

def impl_VarText.l0 : Nat → Int → List Int → Option (ByteArray × Bool)
 | 0, _, _ => none
 | k + 1, x0, x4 => if x0 > 127 then (if x4.length < 140737488355328 then (impl_VarText.l0 k (wrap64 (Int.tdiv x0 128)) (x4 ++ [(wrap64 ((Int.tmod x0 128) + 128)) % 256])) else (none)) else (if x4.length < 140737488355328 then (some (strOfNums (x4 ++ [(x0) % 256]), true)) else (none))
def impl_VarText.f (k : Nat) (j : Int) : Option (ByteArray × Bool) := (impl_within.f j 0 1000000000).bind fun e6 => (if e6 = true then (impl_VarText.l0 k j (([] : List Int))) else (some ((⟨#[]⟩ : ByteArray), false)))
theorem impl_VarText.calls (k : Nat) (j : Int) (r1 : ByteArray) (r2 : Bool) (w : World) (h : impl_VarText.f k j = some (r1, r2)) :
  Calls Tryz.prog 55 #[.int .i64 j] w fun e w' => e = .returned (.tuple #[.string r1, .bool r2]) ∧ Below w.heap.size w w' := by
 have HB := am (Below.refl w.heap.size w)
 have q := h
 clear h
 unfold impl_VarText.f at q
 obtain ⟨e6, A2, l⟩ := bsi q
 (try dsimp only at l)
 obtain ⟨rfl, z⟩ | ⟨rfl, z⟩ := sb l
 ·obtain ⟨hB, cG⟩ : ∃ y_ : List Int, y_ = (([] : List Int)) := ⟨_, rfl⟩
  (first | with_reducible replace z := hq cG z | rw [← cG] at z | simp only [← cG] at z)
  have eD := am cG; clear cG; replace z := am z; clear q l; go_enter Tryz.func55, Tryz.ntmps55
  go_wp2_with (first | ((with_reducible refine gate_callee (f := 56) rfl ?_); refine goesL_ (some 6) rfl rfl Tryz.func56 gk_ rfl #[.int .i64 j, .int .i64 0, .int .i64 1000000000] rfl gm_ ?_; refine (impl_within.calls j 0 1000000000 true _ A2.out).mono ?_; rintro e w' ⟨rfl, ⟨nd, rfl⟩⟩; refine ⟨_, rfl, ?_⟩) | ((with_reducible refine gate_dst (N := 8) rfl ?_); refine lL (Kd.int .u8) 5 8 ([] : List Int) [] (Reps.none _ _) ?_; intro i4 w4 cB hb; (first | rw [← eD.out] at cB | (simp only [Int.reduceToNat] at cB; rw [← eD.out] at cB)); have fJ := am (Kd.R_lower cB (below_size (Ae0 HB))); replace HB := hA HB hb; clear hb cB))
  go_loopg [0, 4] k (fun kq v0 v4 w' => ∃ (ar : Int) (bM : List Int), v0 = .int .i64 ar ∧ Aside0 (impl_VarText.l0 kq ar bM = some (r1, r2)) ∧ Aside0 (kq ≤ k) ∧ Aside0 (Kd.R (Kd.int .u8) 5 w' w.heap.size (fun _ => True) v4 bM) ∧ Aside0 (Below w.heap.size w w'))
  case atStart => exact ⟨(j), hB, be_, z, ⟨Nat.le_refl _⟩, Cr fJ, Ce0 HB⟩
  case round =>
   clear z
   try clear c3
   obtain ⟨ar, bM, rfl, B, au, dd, HB⟩ := hrel
   cases gk with
   | zero => exact absurd B.out (by simp [impl_VarText.l0])
   | succ k1 => ?_
   replace B := B.out; simp only [impl_VarText.l0] at B
   obtain ⟨c6, M⟩ | ⟨c6, M⟩ := sp B
   ·have bS : decide (127 < ar) = true := decide_eq_true c6
    clear c6; obtain ⟨dt, Y⟩ := ya M; obtain ⟨hC, cH⟩ : ∃ y_ : List Int, y_ = (bM ++ [(wrap64 ((Int.tmod ar 128) + 128)) % 256]) := ⟨_, rfl⟩
    (first | with_reducible replace Y := hq cH Y | rw [← cH] at Y | simp only [← cH] at Y)
    have fT := am cH; clear cH; replace Y := am Y; clear B M
    go_wp2_with (first | ((with_reducible refine gate_builtin (b := .append) (xs := #[.tmp 11, .tmp 16]) rfl ?_); at_builtin; refine Kd.R_append (Kd.int .u8) (w0 := w) w.heap.size rfl (.tmp 11) (.tmp 16) 22 5 (.int .u8 0) 1 rfl Tryz.underlying22 info5 rfl (by decide) (by omega) u4 bM ((wrap64 ((Int.tmod ar 128) + 128)) % 256) [.int .u8 ((wrap64 ((Int.tmod ar 128) + 128)) % 256)] (fun _ => True) (fun _ => False) rfl rfl ?aP (fun _ hk => hk.elim) ?aF ?aO ?aB ?aS ?aL ?_; (case aP => exact rfl); (case aB => exact (Ae0 HB)); (case aF => exact (fun _ _ => trivial)); (case aO => exact (Ar dd)); (case aS => exact B19x12_); (case aL => have := dt.out; omega); intro i5 w8 ho hb hg hat; rw [← fT.out] at ho; replace HB := am hb; have fK := am ho; clear dd; clear ho hb hg hat))
    go_roundg k1
    case measure => have := au.out; omega
    case rel => exact ⟨(wrap64 (Int.tdiv ar 128)), hC, be_, Y, ⟨B19x9_⟩, Cr fK, Ce0 HB⟩
   ·have bS : decide (127 < ar) = false := decide_eq_false c6
    clear c6; obtain ⟨fO, aa⟩ := ya M; obtain ⟨ju, cI⟩ : ∃ y_ : List Int, y_ = (bM ++ [(ar) % 256]) := ⟨_, rfl⟩
    (first | with_reducible replace aa := hq cI aa | rw [← cI] at aa | simp only [← cI] at aa)
    have fU := am cI; clear cI; obtain ⟨rfl, rfl⟩ := s2 aa; clear aa B M
    go_wp2_with (first | ((with_reducible refine gate_builtin (b := .append) (xs := #[.tmp 20, .tmp 23]) rfl ?_); at_builtin; refine Kd.R_append (Kd.int .u8) (w0 := w) w.heap.size rfl (.tmp 20) (.tmp 23) 22 5 (.int .u8 0) 1 rfl Tryz.underlying22 info5 rfl (by decide) (by omega) u4 bM ((ar) % 256) [.int .u8 ((ar) % 256)] (fun _ => True) (fun _ => False) rfl rfl ?aP (fun _ hk => hk.elim) ?aF ?aO ?aB ?aS ?aL ?_; (case aP => exact rfl); (case aB => exact (Ae0 HB)); (case aF => exact (fun _ _ => trivial)); (case aO => exact (Ar dd)); (case aS => exact B19x12_); (case aL => have := fO.out; omega); intro i6 i7 ho hb hg hat; rw [← fU.out] at ho; replace HB := am hb; have fL := am ho; clear dd; clear ho hb hg hat; have hP := own_string (P := Tryz.prog) Tryz.underlying22 Tryz.underlying5 Tryz.underlying9 (Kd.own_of_R fL.out)))
    go_ret2
    exact D6x0_
 ·obtain ⟨rfl, rfl⟩ := s2 z; clear z q l; go_enter Tryz.func55, Tryz.ntmps55
  go_wp2_with (first | ((with_reducible refine gate_callee (f := 56) rfl ?_); refine goesL_ (some 6) rfl rfl Tryz.func56 gk_ rfl #[.int .i64 j, .int .i64 0, .int .i64 1000000000] rfl gm_ ?_; refine (impl_within.calls j 0 1000000000 false _ A2.out).mono ?_; rintro e w' ⟨rfl, ⟨nd, rfl⟩⟩; refine ⟨_, rfl, ?_⟩))
  go_ret2
  exact D6x0_

def impl_ShortText.f (k : Nat) (j : ByteArray) : Option (ByteArray × Bool) := if (j.size : Int) > 20000 then (some ((⟨#[]⟩ : ByteArray), false)) else ((impl_VarText.f k (j.size : Int)).bind fun eG => (if eG.1.size + j.size ≤ 9223372036854775807 then (some (eG.1 ++ j, true)) else (none)))
theorem impl_ShortText.calls (k : Nat) (j : ByteArray) (r1 : ByteArray) (r2 : Bool) (w : World) (h : impl_ShortText.f k j = some (r1, r2)) :
  Calls Tryz.prog 23 #[.string j] w fun e w' => e = .returned (.tuple #[.string r1, .bool r2]) ∧ Below w.heap.size w w' := by
 have HB := am (Below.refl w.heap.size w)
 have q := h
 clear h
 unfold impl_ShortText.f at q
 obtain ⟨c2, l⟩ | ⟨c2, l⟩ := sp q
 ·have aX : decide (20000 < (j.size : Int)) = true := decide_eq_true c2
  have cp : decide (20000 < j.size) = true := decide_eq_true (by omega)
  clear c2; obtain ⟨rfl, rfl⟩ := s2 l; clear l q; go_enter Tryz.func23, Tryz.ntmps23
  go_wp2
  go_ret2
  exact D6x0_
 ·have aX : decide (20000 < (j.size : Int)) = false := decide_eq_false c2
  have cp : decide (20000 < j.size) = false := decide_eq_false (by omega)
  clear c2; obtain ⟨⟨e7, g4⟩, A3, z⟩ := bsi l; (try dsimp only at z); obtain ⟨c4, B⟩ := yn z; have aZ := eq_true c4; have dH := decide_eq_true c4
  try have f9 : (9223372036854775807 < e7.size + j.size) = False := eq_false (Nat.not_lt.2 c4)
  try (have ga := f9; simp only [ByteArray.size_append] at ga)
  obtain ⟨rfl, rfl⟩ := s2 B; clear B q l z; go_enter Tryz.func23, Tryz.ntmps23
  go_wp2_with (first | ((with_reducible refine gate_callee (f := 55) rfl ?_); refine goesL_ (some 12) rfl rfl Tryz.func55 gk_ rfl #[.int .i64 (j.size : Int)] rfl gm_ ?_; refine (impl_VarText.calls k (j.size : Int) e7 g4 _ A3.out).mono ?_; rintro e w5 ⟨rfl, hb⟩; refine ⟨_, rfl, ?_⟩; replace HB := hA HB hb))
  go_ret2
  exact D6x0_

def impl_isIndex.f (j : Int) : Option (Bool) := (impl_within.f j 0 1000000).bind fun eh => (some eh)
theorem impl_isIndex.calls (j : Int) (r : Bool) (w : World) (h : impl_isIndex.f j = some r) :
  Calls Tryz.prog 24 #[.int .i64 j] w fun e w' => e = .returned (.bool r) ∧ Drawn0 w w' := by
 have q := h
 clear h
 unfold impl_isIndex.f at q
 obtain ⟨eh, A2, l⟩ := bsi q
 (try dsimp only at l)
 obtain rfl := Option.some.inj l
 clear l q
 go_enter Tryz.func24, Tryz.ntmps24
 go_wp2_with (first | ((with_reducible refine gate_callee (f := 56) rfl ?_); refine goesL_ (some 4) rfl rfl Tryz.func56 gk_ rfl #[.int .i64 j, .int .i64 0, .int .i64 1000000] rfl gm_ ?_; refine (impl_within.calls j 0 1000000 eh _ A2.out).mono ?_; rintro e w' ⟨rfl, ⟨nd, rfl⟩⟩; refine ⟨_, rfl, ?_⟩))
 go_ret
 exact ⟨gr_, gd_⟩

def impl_isTerm.f (j : Int) : Option (Bool) := (impl_within.f j 0 100000).bind fun ei => (some ei)
theorem impl_isTerm.calls (j : Int) (r : Bool) (w : World) (h : impl_isTerm.f j = some r) :
  Calls Tryz.prog 25 #[.int .i64 j] w fun e w' => e = .returned (.bool r) ∧ Drawn0 w w' := by
 have q := h
 clear h
 unfold impl_isTerm.f at q
 obtain ⟨ei, A2, l⟩ := bsi q
 (try dsimp only at l)
 obtain rfl := Option.some.inj l
 clear l q
 go_enter Tryz.func25, Tryz.ntmps25
 go_wp2_with (first | ((with_reducible refine gate_callee (f := 56) rfl ?_); refine goesL_ (some 4) rfl rfl Tryz.func56 gk_ rfl #[.int .i64 j, .int .i64 0, .int .i64 100000] rfl gm_ ?_; refine (impl_within.calls j 0 100000 ei _ A2.out).mono ?_; rintro e w' ⟨rfl, ⟨nd, rfl⟩⟩; refine ⟨_, rfl, ?_⟩))
 go_ret
 exact ⟨gr_, gd_⟩

def impl_highFirst.l0 : Nat → Int → List Int → Int → Option (ByteArray)
 | 0, _, _, _ => none
 | k + 1, x0, x5, x6 => if x6 ≥ 0 then (if 0 ≤ x6 then (if x6 < (x5.length : Int) then (impl_highFirst.l0 k (x0 / 256) (x5.set (x6 : Int).toNat ((Go.bits .and .i64 x0 255) % 256)) (wrap64 (x6 - 1))) else (none)) else (none)) else (some (strOfNums x5))
def impl_highFirst.f (k : Nat) (j : Int) (a1 : Int) : Option (ByteArray) := if 0 ≤ a1 then (if (a1 : Int).toNat ≤ 281474976710656 then (impl_highFirst.l0 k j (List.replicate (a1 : Int).toNat 0) (wrap64 (a1 - 1))) else (none)) else (none)
theorem impl_highFirst.calls (k : Nat) (j : Int) (a1 : Int) (r : ByteArray) (w : World) (h : impl_highFirst.f k j a1 = some r) :
  Calls Tryz.prog 57 #[.int .i64 j, .int .i64 a1] w fun e w' => e = .returned (.string r) ∧ Below w.heap.size w w' := by
 have HB := am (Below.refl w.heap.size w)
 have q := h
 clear h
 unfold impl_highFirst.f at q
 obtain ⟨bD, f8, l⟩ := ye q
 obtain ⟨aZ, dH, z⟩ := ye l
 obtain ⟨hD, cJ⟩ : ∃ y_ : List Int, y_ = (List.replicate (a1 : Int).toNat 0) := ⟨_, rfl⟩
 (first | with_reducible replace z := hq cJ z | rw [← cJ] at z | simp only [← cJ] at z)
 have eE := am cJ
 clear cJ
 replace z := am z
 clear q l
 go_enter Tryz.func57, Tryz.ntmps57
 go_wp2_with (first | ((with_reducible refine gate_dst (N := 8) rfl ?_); refine Kd.R_make (Kd.int .u8) _ 5 rfl (N := 8) rfl 22 _ _ rfl a1 rfl rfl Tryz.underlying22 (.int .u8 0) 1 info5 rfl (by decide) (by omega) 0 (ok := fun _ => True) (okp := fun _ => True) rfl (fun _ hk => hk) trivial (dga) (Nat.le_trans (Nat.mul_le_mul_right _ (dga : a1.toNat ≤ 281474976710656)) (by omega)) (Below.refl _ _) (Nat.le_refl _) ?_; intro he w5 cD hb hg_ hnew_; clear hg_ hnew_; (first | rw [← eE.out] at cD | (simp only [Int.reduceToNat] at cD; rw [← eE.out] at cD)); have fM := am (Kd.R_lower cD (below_size (Ae0 HB))); replace HB := hA HB hb; clear hb cD))
 go_loopg [0, 6] k (fun kq v0 v6 w' => ∃ (ar : Int) (aT : List Int) (aM : Int), v0 = .int .i64 ar ∧ v6 = .int .i64 aM ∧ Aside0 (impl_highFirst.l0 kq ar aT aM = some r) ∧ Aside0 (kq ≤ k) ∧ Aside0 (Kd.R (Kd.int .u8) 5 w' w.heap.size (fun _ => True) he aT) ∧ Aside0 (Below w.heap.size w w'))
 case atStart => exact ⟨(j), hD, (wrap64 (a1 - 1)), be_, be_, z, ⟨Nat.le_refl _⟩, Cr fM, Ce0 HB⟩
 case round =>
  clear z
  try clear c3
  try clear bD
  try clear f8
  try clear c4
  try clear aZ
  try clear dH
  obtain ⟨ar, aT, aM, rfl, rfl, B, au, bN, HB⟩ := hrel
  cases gk with
  | zero => exact absurd B.out (by simp [impl_highFirst.l0])
  | succ k1 => ?_
  replace B := B.out; simp only [impl_highFirst.l0] at B
  obtain ⟨c7, M⟩ | ⟨c7, M⟩ := sp B
  ·have cq : decide (0 ≤ aM) = true := decide_eq_true c7
   clear c7; obtain ⟨eL, Y⟩ := yd M; obtain ⟨eM, aa⟩ := yd Y; obtain ⟨fh, cK⟩ : ∃ y_ : List Int, y_ = (aT.set (aM : Int).toNat ((Go.bits .and .i64 ar 255) % 256)) := ⟨_, rfl⟩
   (first | with_reducible replace aa := hq cK aa | rw [← cK] at aa | simp only [← cK] at aa)
   have fV := am cK; clear cK; replace aa := am aa; clear B M Y
   have dU : 0 ≤ (aM : Int) := dga
   have dY : (aM : Int) < ((aT.length : Int) : Int) := dga
   obtain ⟨dO, gi, eO, eT, gV, cl10, eu⟩ := Kd.R_form bN.out (by omega)
   (first | cases eO | (injection eO with ea_ en_ ec_; (first | subst ea_ | (injection ea_ with ea_; subst ea_)); subst ec_; clear en_))
   have fF := am eT; have hE := am eu; clear eT gV eu; obtain ⟨iS, hS⟩ := Kd.R_celln 0 bN.out (aM : Int) dU dY; replace dU := eq_true dU; replace dY := eq_true dY; have dr := Kd.R_putg bN.out (aM : Int) ((Go.bits .and .i64 ar 255) % 256)
   go_wp2_with (first | ((with_reducible refine gate_store (t := 5) (p := 20) rfl ?_); refine store_event (t := 5) (p := 20) (v := ?vo_w12) (w1 := (wr.setCell ⟨dO, (aM : Int).toNat, none⟩ (.int .u8 ((Go.bits .and .i64 ar 255) % 256)))) ?hg ?ho ?hn ?hr ?_; (case ho => rfl); (case hg => rfl); (case hn => rfl); (case hr => exact gs_); intro dm hw; have hg : wr.grownBy dm (some dO) := (by rw [hw]; exact dr.2); have hp_ : Kd.R (Kd.int .u8) 5 dm w.heap.size (fun _ => True) (.slice (some ⟨dO, 0, none⟩) aT.length gi) fh := (by rw [hw, fV.out]; exact dr.1); clear dr; replace bN := am hp_; replace HB := am (by rw [hw]; exact below_set (HB.out) fF.out : Below w.heap.size w dm); clear hg hw hp_))
   go_roundg k1
   case measure => have := au.out; omega
   case rel => exact ⟨(ar / 256), fh, (wrap64 (aM - 1)), be_, be_, aa, ⟨B19x9_⟩, Cr bN, Ce0 HB⟩
  ·have cq : decide (0 ≤ aM) = false := decide_eq_false c7
   clear c7; obtain rfl := Option.some.inj M; clear M B; have hQ := own_string (P := Tryz.prog) Tryz.underlying22 Tryz.underlying5 Tryz.underlying9 (Kd.own_of_R bN.out)
   go_wp2
   go_ret; exact D6x0_

mutual
def impl_SumMore.l0 : Nat → Int → ByteArray → Int → Option (Int)
 | 0, _, _, _ => none
 | k + 1, x0, x1, x5 => if x5 < (x1.size : Int) then (if 0 ≤ x5 then (impl_SumMore.l1 k (Go.bits .xor .u32 x0 ((bt x1 x5) % 4294967296)) x1 x5 0) else (none)) else (some x0)
def impl_SumMore.l1 : Nat → Int → ByteArray → Int → Int → Option (Int)
 | 0, _, _, _, _ => none
 | k + 1, x0, x1, x5, eo => if eo < 8 then (if (Int.tmod x0 2) = 1 then (impl_SumMore.l1 k (Go.bits .xor .u32 ((Int.tdiv x0 2) % 4294967296) 3558460437) x1 x5 (wrap64 (eo + 1))) else (impl_SumMore.l1 k ((Int.tdiv x0 2) % 4294967296) x1 x5 (wrap64 (eo + 1)))) else (impl_SumMore.l0 k x0 x1 (wrap64 (x5 + 1)))
end
def impl_SumMore.f (k : Nat) (j : Int) (a1 : ByteArray) : Option (Int) := impl_SumMore.l0 k j a1 0
theorem impl_SumMore.calls (k : Nat) (j : Int) (a1 : ByteArray) (r : Int) (w : World) (h : impl_SumMore.f k j a1 = some r) :
  Calls Tryz.prog 79 #[.int .u32 j, .string a1] w fun e w' => e = .returned (.int .u32 r) ∧ Drawn0 w w' := by
 have q := h
 clear h
 unfold impl_SumMore.f at q
 replace q := am q
 go_enter Tryz.func79, Tryz.ntmps79
 go_wp2
 go_loopg [0, 5] k (fun kq v0 v5 w' => ∃ (ar : Int) (aT : Int), v0 = .int .u32 ar ∧ v5 = .int .i64 aT ∧ Aside0 (impl_SumMore.l0 kq ar a1 aT = some r) ∧ Aside0 (kq ≤ k) ∧ Drawn0 w w')
 case atStart => exact ⟨(j), 0, be_, be_, q, ⟨Nat.le_refl _⟩, gd_⟩
 case round =>
  clear q; obtain ⟨ar, aT, rfl, rfl, l, au, ⟨m1, rfl⟩⟩ := hrel
  cases gk with
  | zero => exact absurd l.out (by simp [impl_SumMore.l0])
  | succ k1 => ?_
  replace l := l.out; simp only [impl_SumMore.l0] at l
  obtain ⟨bD, z⟩ | ⟨bD, z⟩ := sd l
  ·obtain ⟨aZ, B⟩ := yd z; replace B := am B; clear l z
   have p5 : 0 ≤ (aT : Int) := dga
   have q5 : aT < (a1.size : Int) := dga
   have gX := bt_at a1 aT; replace p5 := eq_true p5; replace q5 := eq_true q5
   go_wp2
   go_loopg [0, 19] k1 (fun kq v0 g9 w' => ∃ (b1 : Int) (da : Int), v0 = .int .u32 b1 ∧ g9 = .int .i64 da ∧ Aside0 (impl_SumMore.l1 kq b1 a1 aT da = some r) ∧ Aside0 (kq ≤ k1) ∧ Drawn0 w w')
   case atStart => exact ⟨(Go.bits .xor .u32 ar ((bt a1 aT) % 4294967296)), 0, be_, be_, B, ⟨Nat.le_refl _⟩, gd_⟩
   case round =>
    clear B
    try clear c3
    try clear bD
    try clear c4
    try clear aZ
    try clear p5
    try clear q5
    try clear gX
    try clear p5
    try clear q5
    obtain ⟨b1, da, rfl, rfl, M, dc, ⟨m2, rfl⟩⟩ := hrel
    cases gk with
    | zero => exact absurd M.out (by simp [impl_SumMore.l1])
    | succ k2 => ?_
    replace M := M.out; simp only [impl_SumMore.l1] at M
    obtain ⟨bS, Y⟩ | ⟨bS, Y⟩ := sd M
    ·obtain ⟨c7, aa⟩ | ⟨c7, aa⟩ := sp Y
     ·obtain ⟨cq, gg⟩ := yE c7; clear c7; replace aa := am aa; clear M Y
      go_wp2
      go_roundg k2
      case measure => have := au.out; have := dc.out; omega
      case rel => exact ⟨(Go.bits .xor .u32 ((Int.tdiv b1 2) % 4294967296) 3558460437), (wrap64 (da + 1)), be_, be_, aa, ⟨B19x11_⟩, gd_⟩
     obtain ⟨cq, gg⟩ := nE c7; replace aa := am aa; clear M Y
     go_wp2
     go_roundg k2
     case measure => have := au.out; have := dc.out; omega
     case rel => exact ⟨((Int.tdiv b1 2) % 4294967296), (wrap64 (da + 1)), be_, be_, aa, ⟨B19x11_⟩, gd_⟩
    replace Y := am Y; clear M
    go_wp2
    go_roundg k2
    case measure => have := au.out; have := dc.out; omega
    case rel => exact ⟨(b1), (wrap64 (aT + 1)), be_, be_, Y, ⟨B19x11_⟩, gd_⟩
  obtain rfl := Option.some.inj z; clear z l
  go_wp2
  go_ret; exact ⟨gr_, gd_⟩
theorem B20x7_ (h : p := by repeat (first | exact (Kd.R_reads' ae.out).2.2 | (with_reducible refine Kd.C_alloc ?_ _) | (with_reducible refine Kd.C_drewN ?_ _) | (with_reducible refine Kd.C_drew ?_))) : p := h
theorem B20x8_ (h : p := by repeat (first | exact (Kd.R_reads' aw.out).2.2 | (with_reducible refine Kd.C_alloc ?_ _) | (with_reducible refine Kd.C_drewN ?_ _) | (with_reducible refine Kd.C_drew ?_))) : p := h
theorem B20x9_ (h : p := by first | rfl | (simp [errW_none, errW_some] <;> rfl) | (simp only [← bV]; first | rfl | (simp [errW_none, errW_some] <;> rfl)) | (simp [*, errW_none, errW_some] <;> rfl)) : p := h
theorem B20x10_ (h : p := by exact (Reps.one (show Kd.M (Kd.int .i64) _ _ _ av [.int .i64 av] from rfl) (Reps.one (show Kd.M (Kd.int .i64) _ _ _ ax [.int .i64 ax] from rfl) (Reps.none _ _)))) : p := h
theorem B20x11_ (h : p := by (try simp only [List.map_toArray, List.map_cons, List.map_nil]); first | done | (simp only [bV]; rfl) | rfl | (simp only [List.length_drop, List.length_take]; rfl)) : p := h
theorem B20x15_ (h : p := by exact (Reps.one (show Kd.M Kd.string _ _ _ a6 [.string a6] from rfl) (Reps.none _ _))) : p := h
def impl_SumOf.f (k : Nat) (j : ByteArray) : Option (Int) := (impl_SumMore.f k 4294967295 j).bind fun ej => (some ej)
theorem impl_SumOf.calls (k : Nat) (j : ByteArray) (r : Int) (w : World) (h : impl_SumOf.f k j = some r) :
  Calls Tryz.prog 58 #[.string j] w fun e w' => e = .returned (.int .u32 r) ∧ Drawn0 w w' := by
 have q := h
 clear h
 unfold impl_SumOf.f at q
 obtain ⟨ej, A2, l⟩ := bsi q
 (try dsimp only at l)
 obtain rfl := Option.some.inj l
 clear l q
 go_enter Tryz.func58, Tryz.ntmps58
 go_wp2_with (first | ((with_reducible refine gate_callee (f := 79) rfl ?_); refine goesL_ (some 4) rfl rfl Tryz.func79 gk_ rfl #[.int .u32 4294967295, .string j] rfl gm_ ?_; refine (impl_SumMore.calls k 4294967295 j ej _ A2.out).mono ?_; rintro e w' ⟨rfl, ⟨nd, rfl⟩⟩; refine ⟨_, rfl, ?_⟩))
 go_ret
 exact ⟨gr_, gd_⟩

def impl_Sealed.f (k : Nat) (j : ByteArray) : Option (ByteArray × Bool) := if (j.size : Int) > 20000 then (some ((⟨#[]⟩ : ByteArray), false)) else ((impl_SumOf.f k j).bind fun cX => ((impl_highFirst.f k (wrap64 (cX)) 4).bind fun cY => (if j.size + cY.size ≤ 9223372036854775807 then (some (j ++ cY, true)) else (none))))
theorem impl_Sealed.calls (k : Nat) (j : ByteArray) (r1 : ByteArray) (r2 : Bool) (w : World) (h : impl_Sealed.f k j = some (r1, r2)) :
  Calls Tryz.prog 26 #[.string j] w fun e w' => e = .returned (.tuple #[.string r1, .bool r2]) ∧ Below w.heap.size w w' := by
 have HB := am (Below.refl w.heap.size w)
 have q := h
 clear h
 unfold impl_Sealed.f at q
 obtain ⟨c2, l⟩ | ⟨c2, l⟩ := sp q
 ·have aX : decide (20000 < (j.size : Int)) = true := decide_eq_true c2
  have cp : decide (20000 < j.size) = true := decide_eq_true (by omega)
  clear c2; obtain ⟨rfl, rfl⟩ := s2 l; clear l q; go_enter Tryz.func26, Tryz.ntmps26
  go_wp2
  go_ret2
  exact D6x0_
 ·have aX : decide (20000 < (j.size : Int)) = false := decide_eq_false c2
  have cp : decide (20000 < j.size) = false := decide_eq_false (by omega)
  clear c2; obtain ⟨cX, A3, z⟩ := bsi l; (try dsimp only at z); obtain ⟨cY, A4, B⟩ := bsi z; (try dsimp only at B); obtain ⟨c5, M⟩ := yn B; have dI := eq_true c5; have eK := decide_eq_true c5
  try have dJ : (9223372036854775807 < j.size + cY.size) = False := eq_false (Nat.not_lt.2 c5)
  try (have dK := dJ; simp only [ByteArray.size_append] at dK)
  obtain ⟨rfl, rfl⟩ := s2 M; clear M q l z B; go_enter Tryz.func26, Tryz.ntmps26
  go_wp2_with (first | ((with_reducible refine gate_callee (f := 58) rfl ?_); refine goesL_ (some 9) rfl rfl Tryz.func58 gk_ rfl #[.string j] rfl gm_ ?_; refine (impl_SumOf.calls k j cX _ A3.out).mono ?_; rintro e w' ⟨rfl, ⟨nd, rfl⟩⟩; refine ⟨_, rfl, ?_⟩) | ((with_reducible refine gate_callee (f := 57) rfl ?_); refine goesL_ (some 11) rfl rfl Tryz.func57 gk_ rfl #[.int .i64 (wrap64 (cX)), .int .i64 4] rfl gm_ ?_; refine (impl_highFirst.calls k (wrap64 (cX)) 4 cY _ A4.out).mono ?_; rintro e w6 ⟨rfl, hb⟩; refine ⟨_, rfl, ?_⟩; replace HB := hA HB hb))
  go_ret2
  exact D6x0_

def impl_varTexts.l0 : Nat → ByteArray → List Int → Int → Int → Option (ByteArray)
 | 0, _, _, _, _ => none
 | k + 1, x3, x8, x9, a7 => if a7 < x9 then (if 0 ≤ a7 then (if a7 < (x8.length : Int) then ((impl_VarText.f k (rd x8 a7)).bind fun eH => (if x3.size + eH.1.size ≤ 9223372036854775807 then (impl_varTexts.l0 k (x3 ++ eH.1) x8 x9 (wrap64 (a7 + 1))) else (none))) else (none)) else (none)) else (some x3)
def impl_varTexts.f (k : Nat) (l0 : List Int) : Option (ByteArray) := impl_varTexts.l0 k (⟨#[]⟩ : ByteArray) l0 (l0.length : Int) 0
theorem impl_varTexts.calls (k : Nat) (A0 : Option Addr) (c0 : Nat) (l0 : List Int) (r : ByteArray) (w : World) (aC : Kd.C (Kd.int .i64) w A0 l0.length l0) (aA : l0.length ≤ c0) (h : impl_varTexts.f k l0 = some r) :
  Calls Tryz.prog 27 #[.slice A0 l0.length c0] w fun e w' => e = .returned (.string r) ∧ Below w.heap.size w w' := by
 have ay := am aC
 have a3 := am aA
 clear aC aA
 have HB := am (Below.refl w.heap.size w)
 have q := h
 clear h
 unfold impl_varTexts.f at q
 replace q := am q
 go_enter Tryz.func27, Tryz.ntmps27
 go_wp2
 go_loopg [3, 10] k (fun kq v3 en w' => ∃ (aK : ByteArray) (aE : Int), v3 = .string aK ∧ en = .int .i64 aE ∧ Aside0 (impl_varTexts.l0 kq aK l0 (l0.length : Int) aE = some r) ∧ Aside0 (kq ≤ k) ∧ Aside0 (Below w.heap.size w w'))
 case atStart => exact ⟨((⟨#[]⟩ : ByteArray)), 0, be_, be_, q, ⟨Nat.le_refl _⟩, Ce0 HB⟩
 case round =>
  clear q; obtain ⟨aK, aE, rfl, rfl, l, au, HB⟩ := hrel
  cases gk with
  | zero => exact absurd l.out (by simp [impl_varTexts.l0])
  | succ k1 => ?_
  replace l := l.out; simp only [impl_varTexts.l0] at l
  obtain ⟨aX, z⟩ | ⟨aX, z⟩ := sd l
  ·obtain ⟨bD, B⟩ := yd z; obtain ⟨aZ, M⟩ := yd B; obtain ⟨⟨ek, g5⟩, A5, Y⟩ := bsi M; (try dsimp only at Y); obtain ⟨c6, aa⟩ := yn Y; have bS := eq_true c6; have gb := decide_eq_true c6
   try have dL : (9223372036854775807 < aK.size + ek.size) = False := eq_false (Nat.not_lt.2 c6)
   try (have dM := dL; simp only [ByteArray.size_append] at dM)
   replace aa := am aa; clear l z B M Y
   have dW : 0 ≤ (aE : Int) := dga
   have d0 : aE < (l0.length : Int) := dga
   obtain ⟨hH, gC, dS⟩ := Kd.at_int ay.out aE dW d0; cases gC; replace dS := (hbc HB dS).trans dS; replace dW := eq_true dW; replace d0 := eq_true d0
   go_wp2_with (first | ((with_reducible refine gate_callee (f := 55) rfl ?_); refine goesL_ (some 16) rfl rfl Tryz.func55 gk_ rfl #[.int .i64 (rd l0 aE)] rfl gm_ ?_; refine (impl_VarText.calls k1 (rd l0 aE) ek g5 _ A5.out).mono ?_; rintro e w7 ⟨rfl, hb⟩; refine ⟨_, rfl, ?_⟩; replace HB := hA HB hb))
   go_roundg k1
   case measure => have := au.out; omega
   case rel => exact ⟨(aK ++ ek), (wrap64 (aE + 1)), be_, be_, aa, ⟨(by have := au.out; omega)⟩, Ce0 HB⟩
  ·obtain rfl := Option.some.inj z; clear z l
   go_wp2
   go_ret; exact D6x0_

def impl_shortTexts.l0 : Nat → ByteArray → List ByteArray → Int → Int → Option (ByteArray)
 | 0, _, _, _, _ => none
 | k + 1, x3, x8, x9, a7 => if a7 < x9 then (if 0 ≤ a7 then (if a7 < (x8.length : Int) then ((impl_ShortText.f k (rdOf ByteArray.empty x8 a7)).bind fun eI => (if x3.size + eI.1.size ≤ 9223372036854775807 then (impl_shortTexts.l0 k (x3 ++ eI.1) x8 x9 (wrap64 (a7 + 1))) else (none))) else (none)) else (none)) else (some x3)
def impl_shortTexts.f (k : Nat) (l0 : List ByteArray) : Option (ByteArray) := impl_shortTexts.l0 k (⟨#[]⟩ : ByteArray) l0 (l0.length : Int) 0
theorem impl_shortTexts.calls (k : Nat) (A0 : Option Addr) (c0 : Nat) (l0 : List ByteArray) (r : ByteArray) (w : World) (aC : Kd.C Kd.string w A0 l0.length l0) (aA : l0.length ≤ c0) (h : impl_shortTexts.f k l0 = some r) :
  Calls Tryz.prog 28 #[.slice A0 l0.length c0] w fun e w' => e = .returned (.string r) ∧ Below w.heap.size w w' := by
 have ay := am aC
 have a3 := am aA
 clear aC aA
 have HB := am (Below.refl w.heap.size w)
 have q := h
 clear h
 unfold impl_shortTexts.f at q
 replace q := am q
 go_enter Tryz.func28, Tryz.ntmps28
 go_wp2
 go_loopg [3, 10] k (fun kq v3 en w' => ∃ (aK : ByteArray) (aE : Int), v3 = .string aK ∧ en = .int .i64 aE ∧ Aside0 (impl_shortTexts.l0 kq aK l0 (l0.length : Int) aE = some r) ∧ Aside0 (kq ≤ k) ∧ Aside0 (Below w.heap.size w w'))
 case atStart => exact ⟨((⟨#[]⟩ : ByteArray)), 0, be_, be_, q, ⟨Nat.le_refl _⟩, Ce0 HB⟩
 case round =>
  clear q; obtain ⟨aK, aE, rfl, rfl, l, au, HB⟩ := hrel
  cases gk with
  | zero => exact absurd l.out (by simp [impl_shortTexts.l0])
  | succ k1 => ?_
  replace l := l.out; simp only [impl_shortTexts.l0] at l
  obtain ⟨aX, z⟩ | ⟨aX, z⟩ := sd l
  ·obtain ⟨bD, B⟩ := yd z; obtain ⟨aZ, M⟩ := yd B; obtain ⟨⟨el, g6⟩, A5, Y⟩ := bsi M; (try dsimp only at Y); obtain ⟨c6, aa⟩ := yn Y; have bS := eq_true c6; have gb := decide_eq_true c6
   try have dL : (9223372036854775807 < aK.size + el.size) = False := eq_false (Nat.not_lt.2 c6)
   try (have dM := dL; simp only [ByteArray.size_append] at dM)
   replace aa := am aa; clear l z B M Y
   have dX : 0 ≤ (aE : Int) := dga
   have d1 : aE < (l0.length : Int) := dga
   obtain ⟨hI, gD, dT⟩ := Kd.at_string ay.out aE dX d1; cases gD; replace dT := (hbc HB dT).trans dT; replace dX := eq_true dX; replace d1 := eq_true d1
   go_wp2_with (first | ((with_reducible refine gate_callee (f := 23) rfl ?_); refine goesL_ (some 16) rfl rfl Tryz.func23 gk_ rfl #[.string (rdOf ByteArray.empty l0 aE)] rfl gm_ ?_; refine (impl_ShortText.calls k1 (rdOf ByteArray.empty l0 aE) el g6 _ A5.out).mono ?_; rintro e w7 ⟨rfl, hb⟩; refine ⟨_, rfl, ?_⟩; replace HB := hA HB hb))
   go_roundg k1
   case measure => have := au.out; omega
   case rel => exact ⟨(aK ++ el), (wrap64 (aE + 1)), be_, be_, aa, ⟨(by have := au.out; omega)⟩, Ce0 HB⟩
  ·obtain rfl := Option.some.inj z; clear z l
   go_wp2
   go_ret; exact D6x0_

def impl_SnapText.j0 : Nat → ByteArray → ByteArray → Bool → Int → Int → List Int → ByteArray → Option (ByteArray × Bool)
 | 0, _, _, _, _, _, _, _ => none
 | k + 1, x4, x6, hp, hu, hv, js, jt => if hp = true then (some ((⟨#[]⟩ : ByteArray), false)) else ((impl_varTexts.f k (([hu, hv] : List Int))).bind fun aQ => ((impl_shortTexts.f k (([x4] : List ByteArray))).bind fun aR => (if aQ.size + aR.size ≤ 9223372036854775807 then (if (aQ ++ aR).size + x6.size ≤ 9223372036854775807 then ((impl_Sealed.f k ((aQ ++ aR) ++ x6)).bind fun dF => (if dF.2 = true then (if (dF.1.size : Int) > 20000 then (some ((⟨#[]⟩ : ByteArray), false)) else (some (dF.1, true))) else (some ((⟨#[]⟩ : ByteArray), false)))) else (none)) else (none))))
def impl_SnapText.f (k : Nat) (av : Int) (ax : Int) (aN : List Int) (aY : ByteArray) : Option (ByteArray × Bool) := (impl_ConfText.f k aN).bind fun ck => ((impl_ShortText.f k aY).bind fun cl => (if ck.2 = true then (if cl.2 = true then ((impl_isIndex.f av).bind fun e8 => (if e8 = true then ((impl_isTerm.f ax).bind fun dl => (impl_SnapText.j0 k ck.1 cl.1 (!dl) av ax aN aY)) else (impl_SnapText.j0 k ck.1 cl.1 true av ax aN aY))) else (impl_SnapText.j0 k ck.1 cl.1 true av ax aN aY)) else (impl_SnapText.j0 k ck.1 cl.1 true av ax aN aY)))
theorem impl_SnapText.calls (k : Nat) (av : Int) (ax : Int) (cd : Option Addr) (cm : Nat) (aN : List Int) (aY : ByteArray) (r1 : ByteArray) (r2 : Bool) (w : World) (eV : Kd.C (Kd.int .i64) w cd aN.length aN) (eU : aN.length ≤ cm) (h : impl_SnapText.f k av ax aN aY = some (r1, r2)) :
  Calls Tryz.prog 6 #[.agg #[.int .i64 av, .int .i64 ax, .slice cd aN.length cm, .string aY]] w fun e w' => e = .returned (.tuple #[.string r1, .bool r2]) ∧ Below w.heap.size w w' := by
 have gW := Tryz.underlying29
 have fN := am eV
 have fG := am eU
 clear eV eU
 have HB := am (Below.refl w.heap.size w)
 have q := h
 clear h
 unfold impl_SnapText.f at q
 obtain ⟨⟨a6, g7⟩, A2, l⟩ := bsi q
 (try dsimp only at l)
 obtain ⟨⟨bi, g8⟩, A3, z⟩ := bsi l
 (try dsimp only at z)
 replace z := am z
 clear q l
 go_enter Tryz.func6, Tryz.ntmps6
 go_upto_region 3 with (first | ((with_reducible refine gate_dst (N := 1) rfl ?_); (try (refine gate_guard (by rfl) ?_; dsimp only)); refine bx (N := 1) (cs := #[.int .i64 av, .int .i64 ax, .slice cd aN.length cm, .string aY]) (t := 29) ?_; intro gU hg w5 hbox hb; have al := am hbox; have af := gA hg HB; replace HB := hA HB hb; clear hb hbox hg; obtain ⟨b4, b5, b6, b7, b8, b9, ca, cc⟩ := cf4 al) | ((with_reducible refine gate_callee (f := 22) rfl ?_); refine goesL_ (some 12) rfl rfl Tryz.func22 gk_ rfl #[.slice cd aN.length cm] rfl gm_ ?_; (with_reducible refine (impl_ConfText.calls k _ _ aN a6 g7 _ ?z1 ?z2 A2.out).mono ?_); (case z1 => repeat (first | exact (Kd.C_below fN.out HB.out) | (with_reducible refine Kd.C_alloc ?_ _) | (with_reducible refine Kd.C_drewN ?_ _) | (with_reducible refine Kd.C_drew ?_))); (case z2 => exact fG.out); rintro e w7 ⟨rfl, hb⟩; refine ⟨_, rfl, ?_⟩; replace al := bA al hb; replace HB := De1 HB af hb; obtain ⟨b4, b5, b6, b7, b8, b9, ca, cc⟩ := cf4 al) | ((with_reducible refine gate_callee (f := 23) rfl ?_); refine goesL_ (some 18) rfl rfl Tryz.func23 gk_ rfl #[.string aY] rfl gm_ ?_; refine (impl_ShortText.calls k aY bi g8 _ A3.out).mono ?_; rintro e w9 ⟨rfl, hb⟩; refine ⟨_, rfl, ?_⟩; replace al := bA al hb; replace HB := De1 HB af hb))
 (try simp only [Act.put, List.setIfInBounds_toArray, List.set_cons_zero, List.set_cons_succ])
 go_cut [38] (fun ha wc => ∃ (kq : Nat) (ep : Bool), ha = .bool ep ∧ Aside0 (impl_SnapText.j0 kq a6 bi ep av ax aN aY = some (r1, r2)) ∧ Aside0 (kq ≤ k) ∧ Hc wc gU #[.int .i64 av, .int .i64 ax, (.slice cd aN.length cm), .string aY] 29 ∧ Hb w wc)
 case first =>
  replace z := z.out
  obtain ⟨rfl, B⟩ | ⟨rfl, B⟩ := sb z
  ·obtain ⟨rfl, M⟩ | ⟨rfl, M⟩ := sb B
   ·obtain ⟨e8, er, Y⟩ := bsi M; (try dsimp only at Y)
    obtain ⟨rfl, aa⟩ | ⟨rfl, aa⟩ := sb Y
    ·obtain ⟨dl, dn, aI⟩ := bsi aa; (try dsimp only at aI); replace aI := am aI; clear z B M Y aa; obtain ⟨b4, b5, b6, b7, b8, b9, ca, cc⟩ := cf4 al
     go_wp2_with (first | (go_at_call 24; refine (impl_isIndex.calls av true _ er.out).mono ?_; rintro e w' ⟨rfl, ⟨nd, rfl⟩⟩) | (go_at_call 25; refine (impl_isTerm.calls ax dl _ dn.out).mono ?_; rintro e w' ⟨rfl, ⟨nd, rfl⟩⟩))
     go_meet
     case rel => exact ⟨_, (!dl), be_, aI, ⟨gl_⟩, Cb al, Ce1 HB af⟩
    ·replace aa := am aa; clear z B M Y; obtain ⟨b4, b5, b6, b7, b8, b9, ca, cc⟩ := cf4 al
     go_wp2_with (first | (go_at_call 24; refine (impl_isIndex.calls av false _ er.out).mono ?_; rintro e w' ⟨rfl, ⟨nd, rfl⟩⟩))
     go_meet
     case rel => exact ⟨_, true, be_, aa, ⟨gl_⟩, Cb al, Ce1 HB af⟩
   ·replace M := am M; clear z B
    go_wp2
    go_meet
    case rel => exact ⟨_, true, be_, M, ⟨gl_⟩, Cb al, Ce1 HB af⟩
  ·replace B := am B; clear z
   go_wp2
   go_meet
   case rel => exact ⟨_, true, be_, B, ⟨gl_⟩, Cb al, Ce1 HB af⟩
 case rest =>
  clear z; obtain ⟨kq, ep, rfl, aJ, hF, al, HB⟩ := hcut
  cases kq with
  | zero => exact absurd aJ.out (by simp [impl_SnapText.j0])
  | succ bu => ?_
  replace aJ := aJ.out; simp only [impl_SnapText.j0] at aJ
  obtain ⟨rfl, aD⟩ | ⟨rfl, aD⟩ := sb aJ
  ·obtain ⟨rfl, rfl⟩ := s2 aD; clear aD aJ
   go_wp2
   go_ret2
   exact ⟨B18x17_, (Ae1 HB af)⟩
  ·obtain ⟨b2, cL⟩ : ∃ y_ : List Int, y_ = (([av, ax] : List Int)) := ⟨_, rfl⟩
   (first | with_reducible replace aD := hq cL aD | rw [← cL] at aD | simp only [← cL] at aD)
   have bQ := am cL; clear cL; obtain ⟨aQ, ce, az⟩ := bsi aD; (try dsimp only at az); obtain ⟨b3, cM⟩ : ∃ y_ : List ByteArray, y_ = (([a6] : List ByteArray)) := ⟨_, rfl⟩
   (first | with_reducible replace az := hq cM az | rw [← cM] at az | simp only [← cM] at az)
   have bR := am cM; clear cM; obtain ⟨aR, cf, bl⟩ := bsi az; (try dsimp only at bl); obtain ⟨dG, bm⟩ := yn bl; have hJ := eq_true dG; have hL := decide_eq_true dG
   try have f2 : (9223372036854775807 < aQ.size + aR.size) = False := eq_false (Nat.not_lt.2 dG)
   try (have f3 := f2; simp only [ByteArray.size_append] at f3)
   obtain ⟨dk, bz⟩ := yn bm; have hM := eq_true dk; have hN := decide_eq_true dk
   try have f4 : (9223372036854775807 < (aQ ++ aR).size + bi.size) = False := eq_false (Nat.not_lt.2 dk)
   try have hO : (9223372036854775807 < aQ.size + aR.size + bi.size) = False := eq_false (by have h_ := dk; simp only [ByteArray.size_append, ByteArray.size_extract, decide_eq_true_eq, decide_eq_false_iff_not] at *; omega)
   try (have f5 := f4; simp only [ByteArray.size_append] at f5)
   obtain ⟨⟨bI, iT⟩, dp, bn⟩ := bsi bz; (try dsimp only at bn)
   obtain ⟨rfl, a9⟩ | ⟨rfl, a9⟩ := sb bn
   ·obtain ⟨co, bo⟩ | ⟨co, bo⟩ := sp a9
    ·have f6 : decide (20000 < (bI.size : Int)) = true := decide_eq_true co
     have f7 : decide (20000 < bI.size) = true := decide_eq_true (by omega)
     clear co; obtain ⟨rfl, rfl⟩ := s2 bo; clear bo aJ aD az bl bm bz bn a9; obtain ⟨b4, b5, b6, b7, b8, b9, ca, cc⟩ := cf4 al
     go_wp2_with (first | ((with_reducible refine gate_dst (N := 44) rfl ?_); (try (refine gate_guard (by rfl) ?_; dsimp only)); refine lL (Kd.int .i64) 3 44 ([av, ax] : List Int) [.int .i64 av, .int .i64 ax] B20x10_ ?_; intro fb hf cv hb; (first | rw [← bQ.out] at cv | (simp only [Int.reduceToNat] at cv; rw [← bQ.out] at cv)); have ae := am (Kd.R_lower cv (below_size (Ae1 HB af))); replace al := bA al hb; replace HB := De1 HB af hb; clear hb cv; obtain ⟨fu, gm, gG⟩ := Kd.R_slice ae.out; subst gG) | ((with_reducible refine gate_callee (f := 27) rfl ?_); refine goesL_ (some 45) rfl rfl Tryz.func27 gk_ rfl #[.slice fu b2.length gm] rfl gm_ ?_; refine (impl_varTexts.calls bu _ _ b2 aQ _ B20x7_ ((Kd.R_reads' ae.out).2.1) ce.out).mono ?_; rintro e jg ⟨rfl, hb⟩; refine ⟨_, rfl, ?_⟩; replace ae := rA ae hb; replace al := bA al hb; replace HB := De1 HB af hb) | ((with_reducible refine gate_dst (N := 47) rfl ?_); (try (refine gate_guard (by rfl) ?_; dsimp only)); refine lL Kd.string 9 47 ([a6] : List ByteArray) [.string a6] B20x15_ ?_; intro fc fd cx hb; (first | rw [← bR.out] at cx | (simp only [Int.reduceToNat] at cx; rw [← bR.out] at cx)); replace ae := rA ae hb; have aw := am (Kd.R_lower cx (below_size (Ae1 HB af))); replace al := bA al hb; replace HB := De1 HB af hb; clear hb cx; obtain ⟨fv, gn, gI⟩ := Kd.R_slice aw.out; subst gI) | ((with_reducible refine gate_callee (f := 28) rfl ?_); refine goesL_ (some 48) rfl rfl Tryz.func28 gk_ rfl #[.slice fv b3.length gn] rfl gm_ ?_; refine (impl_shortTexts.calls bu _ _ b3 aR _ B20x8_ ((Kd.R_reads' aw.out).2.1) cf.out).mono ?_; rintro e jh ⟨rfl, hb⟩; refine ⟨_, rfl, ?_⟩; replace ae := rA ae hb; replace aw := rA aw hb; replace al := bA al hb; replace HB := De1 HB af hb) | ((with_reducible refine gate_callee (f := 26) rfl ?_); refine goesL_ (some 52) rfl rfl Tryz.func26 gk_ rfl #[.string ((aQ ++ aR) ++ bi)] rfl gm_ ?_; refine (impl_Sealed.calls bu ((aQ ++ aR) ++ bi) bI true _ dp.out).mono ?_; rintro e ji ⟨rfl, hb⟩; refine ⟨_, rfl, ?_⟩; replace ae := rA ae hb; replace aw := rA aw hb; replace al := bA al hb; replace HB := De1 HB af hb))
     go_ret2
     exact ⟨B18x17_, (Ae1 HB af)⟩
    ·have f6 : decide (20000 < (bI.size : Int)) = false := decide_eq_false co
     have f7 : decide (20000 < bI.size) = false := decide_eq_false (by omega)
     clear co; obtain ⟨rfl, rfl⟩ := s2 bo; clear bo aJ aD az bl bm bz bn a9; obtain ⟨b4, b5, b6, b7, b8, b9, ca, cc⟩ := cf4 al
     go_wp2_with (first | ((with_reducible refine gate_dst (N := 44) rfl ?_); (try (refine gate_guard (by rfl) ?_; dsimp only)); refine lL (Kd.int .i64) 3 44 ([av, ax] : List Int) [.int .i64 av, .int .i64 ax] B20x10_ ?_; intro fb fe cy hb; (first | rw [← bQ.out] at cy | (simp only [Int.reduceToNat] at cy; rw [← bQ.out] at cy)); have ae := am (Kd.R_lower cy (below_size (Ae1 HB af))); replace HB := De1 HB af hb; clear hb cy; obtain ⟨fw, gp, gJ⟩ := Kd.R_slice ae.out; subst gJ) | ((with_reducible refine gate_callee (f := 27) rfl ?_); refine goesL_ (some 45) rfl rfl Tryz.func27 gk_ rfl #[.slice fw b2.length gp] rfl gm_ ?_; refine (impl_varTexts.calls bu _ _ b2 aQ _ B20x7_ ((Kd.R_reads' ae.out).2.1) ce.out).mono ?_; rintro e jl ⟨rfl, hb⟩; refine ⟨_, rfl, ?_⟩; replace ae := rA ae hb; replace HB := De1 HB af hb) | ((with_reducible refine gate_dst (N := 47) rfl ?_); (try (refine gate_guard (by rfl) ?_; dsimp only)); refine lL Kd.string 9 47 ([a6] : List ByteArray) [.string a6] B20x15_ ?_; intro fc ff cz hb; (first | rw [← bR.out] at cz | (simp only [Int.reduceToNat] at cz; rw [← bR.out] at cz)); replace ae := rA ae hb; have aw := am (Kd.R_lower cz (below_size (Ae1 HB af))); replace HB := De1 HB af hb; clear hb cz; obtain ⟨fy, gr, gN⟩ := Kd.R_slice aw.out; subst gN) | ((with_reducible refine gate_callee (f := 28) rfl ?_); refine goesL_ (some 48) rfl rfl Tryz.func28 gk_ rfl #[.slice fy b3.length gr] rfl gm_ ?_; refine (impl_shortTexts.calls bu _ _ b3 aR _ B20x8_ ((Kd.R_reads' aw.out).2.1) cf.out).mono ?_; rintro e jm ⟨rfl, hb⟩; refine ⟨_, rfl, ?_⟩; replace ae := rA ae hb; replace aw := rA aw hb; replace HB := De1 HB af hb) | ((with_reducible refine gate_callee (f := 26) rfl ?_); refine goesL_ (some 52) rfl rfl Tryz.func26 gk_ rfl #[.string ((aQ ++ aR) ++ bi)] rfl gm_ ?_; refine (impl_Sealed.calls bu ((aQ ++ aR) ++ bi) bI true _ dp.out).mono ?_; rintro e jn ⟨rfl, hb⟩; refine ⟨_, rfl, ?_⟩; replace ae := rA ae hb; replace aw := rA aw hb; replace HB := De1 HB af hb))
     go_ret2
     exact ⟨B18x17_, (Ae1 HB af)⟩
   ·obtain ⟨rfl, rfl⟩ := s2 a9; clear a9 aJ aD az bl bm bz bn; obtain ⟨b4, b5, b6, b7, b8, b9, ca, cc⟩ := cf4 al
    go_wp2_with (first | ((with_reducible refine gate_dst (N := 44) rfl ?_); (try (refine gate_guard (by rfl) ?_; dsimp only)); refine lL (Kd.int .i64) 3 44 ([av, ax] : List Int) [.int .i64 av, .int .i64 ax] B20x10_ ?_; intro fb jo cA hb; (first | rw [← bQ.out] at cA | (simp only [Int.reduceToNat] at cA; rw [← bQ.out] at cA)); have ae := am (Kd.R_lower cA (below_size (Ae1 HB af))); replace HB := De1 HB af hb; clear hb cA; obtain ⟨fz, gs, gO⟩ := Kd.R_slice ae.out; subst gO) | ((with_reducible refine gate_callee (f := 27) rfl ?_); refine goesL_ (some 45) rfl rfl Tryz.func27 gk_ rfl #[.slice fz b2.length gs] rfl gm_ ?_; refine (impl_varTexts.calls bu _ _ b2 aQ _ B20x7_ ((Kd.R_reads' ae.out).2.1) ce.out).mono ?_; rintro e hh ⟨rfl, hb⟩; refine ⟨_, rfl, ?_⟩; replace ae := rA ae hb; replace HB := De1 HB af hb) | ((with_reducible refine gate_dst (N := 47) rfl ?_); (try (refine gate_guard (by rfl) ?_; dsimp only)); refine lL Kd.string 9 47 ([a6] : List ByteArray) [.string a6] B20x15_ ?_; intro fc jq cC hb; (first | rw [← bR.out] at cC | (simp only [Int.reduceToNat] at cC; rw [← bR.out] at cC)); replace ae := rA ae hb; have aw := am (Kd.R_lower cC (below_size (Ae1 HB af))); replace HB := De1 HB af hb; clear hb cC; obtain ⟨fC, gw, gR⟩ := Kd.R_slice aw.out; subst gR) | ((with_reducible refine gate_callee (f := 28) rfl ?_); refine goesL_ (some 48) rfl rfl Tryz.func28 gk_ rfl #[.slice fC b3.length gw] rfl gm_ ?_; refine (impl_shortTexts.calls bu _ _ b3 aR _ B20x8_ ((Kd.R_reads' aw.out).2.1) cf.out).mono ?_; rintro e hl ⟨rfl, hb⟩; refine ⟨_, rfl, ?_⟩; replace ae := rA ae hb; replace aw := rA aw hb; replace HB := De1 HB af hb) | ((with_reducible refine gate_callee (f := 26) rfl ?_); refine goesL_ (some 52) rfl rfl Tryz.func26 gk_ rfl #[.string ((aQ ++ aR) ++ bi)] rfl gm_ ?_; refine (impl_Sealed.calls bu ((aQ ++ aR) ++ bi) bI false _ dp.out).mono ?_; rintro e hm ⟨rfl, hb⟩; refine ⟨_, rfl, ?_⟩; replace ae := rA ae hb; replace aw := rA aw hb; replace HB := De1 HB af hb))
    go_ret2
    exact ⟨B18x17_, (Ae1 HB af)⟩

def impl_Unsealed.f (k : Nat) (j : ByteArray) : Option (ByteArray × Bool) := if (wrap64 ((j.size : Int) - 4)) < 0 then (some ((⟨#[]⟩ : ByteArray), false)) else (if 0 ≤ (wrap64 ((j.size : Int) - 4)) then (if (wrap64 ((j.size : Int) - 4)) ≤ (j.size : Int) then ((impl_Sealed.f k (j.extract 0 ((wrap64 ((j.size : Int) - 4)) : Int).toNat)).bind fun eJ => (if eJ.2 = true then (if eJ.1.toList = j.toList then (some (j.extract 0 ((wrap64 ((j.size : Int) - 4)) : Int).toNat, true)) else (some ((⟨#[]⟩ : ByteArray), false))) else (some ((⟨#[]⟩ : ByteArray), false)))) else (none)) else (none))
theorem impl_Unsealed.calls (k : Nat) (j : ByteArray) (r1 : ByteArray) (r2 : Bool) (w : World) (h : impl_Unsealed.f k j = some (r1, r2)) :
  Calls Tryz.prog 29 #[.string j] w fun e w' => e = .returned (.tuple #[.string r1, .bool r2]) ∧ Below w.heap.size w w' := by
 have HB := am (Below.refl w.heap.size w)
 have q := h
 clear h
 unfold impl_Unsealed.f at q
 obtain ⟨aX, l⟩ | ⟨aX, l⟩ := sd q
 ·obtain ⟨rfl, rfl⟩ := s2 l; clear l q; go_enter Tryz.func29, Tryz.ntmps29
  go_wp2
  go_ret2
  exact D6x0_
 obtain ⟨bq, bV⟩ : ∃ j_ : Int, (wrap64 ((j.size : Int) - 4)) = j_ := ⟨_, rfl⟩
 (first | rw [bV] at l | simp only [bV] at l)
 (try rw [bV] at aX)
 have hZ : (IntKind.i64.wrap ((j.size : Int) - 4)) = bq := (i64_w _).trans bV
 obtain ⟨aZ, dH, z⟩ := ye l
 obtain ⟨dI, eK, B⟩ := ye z
 obtain ⟨⟨em, iU⟩, A6, M⟩ := bsi B
 (try dsimp only at M)
 obtain ⟨rfl, Y⟩ | ⟨rfl, Y⟩ := sb M
 ·obtain ⟨c8, aa⟩ | ⟨c8, aa⟩ := sp Y
  ·obtain ⟨eL, gh⟩ := yE c8; clear c8; have eM := eq_true (dga : 0 ≤ (bq)); have fZ := eq_true (dga : (bq) ≤ (j.size : Int)); obtain ⟨rfl, rfl⟩ := s2 aa; clear aa q l z B M Y; go_enter Tryz.func29, Tryz.ntmps29
   go_wp2_with (first | ((with_reducible refine gate_callee (f := 26) rfl ?_); refine goesL_ (some 16) rfl rfl Tryz.func26 gk_ rfl #[.string (j.extract 0 ((bq) : Int).toNat)] rfl B20x11_ ?_; refine (impl_Sealed.calls k (j.extract 0 ((bq) : Int).toNat) em true _ A6.out).mono ?_; rintro e i9 ⟨rfl, hb⟩; refine ⟨_, rfl, ?_⟩; replace HB := hA HB hb))
   go_ret2
   exact ⟨B20x9_, (Ae0 HB)⟩
  obtain ⟨eL, gh⟩ := nE c8; obtain ⟨rfl, rfl⟩ := s2 aa; clear aa q l z B M Y; go_enter Tryz.func29, Tryz.ntmps29
  go_wp2_with (first | ((with_reducible refine gate_callee (f := 26) rfl ?_); refine goesL_ (some 16) rfl rfl Tryz.func26 gk_ rfl #[.string (j.extract 0 ((bq) : Int).toNat)] rfl B20x11_ ?_; refine (impl_Sealed.calls k (j.extract 0 ((bq) : Int).toNat) em true _ A6.out).mono ?_; rintro e dm ⟨rfl, hb⟩; refine ⟨_, rfl, ?_⟩; replace HB := hA HB hb))
  go_ret2
  exact ⟨B20x9_, (Ae0 HB)⟩
 obtain ⟨rfl, rfl⟩ := s2 Y
 clear Y q l z B M
 go_enter Tryz.func29, Tryz.ntmps29
 go_wp2_with (first | ((with_reducible refine gate_callee (f := 26) rfl ?_); refine goesL_ (some 16) rfl rfl Tryz.func26 gk_ rfl #[.string (j.extract 0 ((bq) : Int).toNat)] rfl B20x11_ ?_; refine (impl_Sealed.calls k (j.extract 0 ((bq) : Int).toNat) em false _ A6.out).mono ?_; rintro e ja ⟨rfl, hb⟩; refine ⟨_, rfl, ?_⟩; replace HB := hA HB hb))
 go_ret2
 exact ⟨B20x9_, (Ae0 HB)⟩
end
end Go.Proofs.YtfikaimmclgajaaGreatDoor.QFnSnaps
