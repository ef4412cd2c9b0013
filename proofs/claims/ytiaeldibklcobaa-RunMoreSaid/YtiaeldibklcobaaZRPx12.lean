import Derived.Test.YtiaeldibklcobaaZRPx11
namespace Go.Proofs.Ytiaeldibklcobaa.eZ
open Go.RowKit Go.Proofs.YtiaeldibklcobaaW.bL Go.Proofs.YtiaeldibklcobaaW.fV Go.Proofs.YtiaeldibklcobaaW.iZ
set_option maxHeartbeats 8000000
set_option maxRecDepth 100000
attribute [local go_sem] kL kM lX lY jC jD kN kP
set_option linter.unusedVariables false
set_option linter.unusedSimpArgs false
mutual
def dW.j1 : Nat → List (iJ) → Int → Int → Int → Int → ByteArray → List (Ha) → Bool → ByteArray → ByteArray → Int → Option (ByteArray × (List (Ha)) × Bool × ByteArray × ByteArray × List ByteArray × (List (mO)) × Int × Int × Int × Int × Int)
 | 0, _, _, _, _, _, _, _, _, _, _, _ => none
 | k + 1, x1000, jK, kE, jE, kF, uA, uB, uT, uU, wG, uC => (dI.f x1000 jK kE jE kF (⟨#[41]⟩ : ByteArray)).bind fun ib => ((eX.f x1000 ib.1 ib.2.1 ib.2.2.1 ib.2.2.2 (⟨#[45, 62]⟩ : ByteArray)).bind fun Sn => (if Sn.1 = true then ((gG.f x1000 Sn.2.1 Sn.2.2.1 Sn.2.2.2.1 Sn.2.2.2.2).bind fun VI => (dW.j2 k x1000 VI.2.1 VI.2.2.1 VI.2.2.2.1 VI.2.2.2.2 uA uB true VI.1 wG uC)) else (dW.j2 k x1000 Sn.2.1 Sn.2.2.1 Sn.2.2.2.1 Sn.2.2.2.2 uA uB uT uU wG uC)))
def dW.j2 : Nat → List (iJ) → Int → Int → Int → Int → ByteArray → List (Ha) → Bool → ByteArray → ByteArray → Int → Option (ByteArray × (List (Ha)) × Bool × ByteArray × ByteArray × List ByteArray × (List (mO)) × Int × Int × Int × Int × Int)
 | 0, _, _, _, _, _, _, _, _, _, _, _ => none
 | k + 1, x1000, jK, kE, jE, kF, uA, uB, uT, uU, wG, uC => (dI.f x1000 jK kE jE kF (⟨#[112, 99]⟩ : ByteArray)).bind fun ic => ((gG.f x1000 ic.1 ic.2.1 ic.2.2.1 ic.2.2.2).bind fun LV => ((dI.f x1000 LV.2.1 LV.2.2.1 LV.2.2.2.1 LV.2.2.2.2 (⟨#[117, 115, 101, 115]⟩ : ByteArray)).bind fun ig => ((dI.f x1000 ig.1 ig.2.1 ig.2.2.1 ig.2.2.2 (⟨#[123]⟩ : ByteArray)).bind fun ik => ((nN.f x1000 ik.1 ik.2.1 ik.2.2.1 ik.2.2.2 (⟨#[125]⟩ : ByteArray)).bind fun Sq => (if Sq.1 = true then ((dI.f x1000 Sq.2.1 Sq.2.2.1 Sq.2.2.2.1 Sq.2.2.2.2 (⟨#[125]⟩ : ByteArray)).bind fun il => ((fO.f k x1000 il.1 il.2.1 il.2.2.1 il.2.2.2).bind fun VJ => (some (uA, uB, uT, uU, LV.1, ([] : List ByteArray), VJ.1, uC, VJ.2.1, VJ.2.2.1, VJ.2.2.2.1, VJ.2.2.2.2)))) else (dW.l1 k x1000 Sq.2.1 Sq.2.2.1 Sq.2.2.2.1 Sq.2.2.2.2 uA uB uT uU LV.1 ([] : List ByteArray) uC))))))
def dW.l1 : Nat → List (iJ) → Int → Int → Int → Int → ByteArray → List (Ha) → Bool → ByteArray → ByteArray → List ByteArray → Int → Option (ByteArray × (List (Ha)) × Bool × ByteArray × ByteArray × List ByteArray × (List (mO)) × Int × Int × Int × Int × Int)
 | 0, _, _, _, _, _, _, _, _, _, _, _, _ => none
 | k + 1, x1000, jK, kE, jE, kF, uA, uB, uT, uU, wG, QD, uC => if jE = 0 then ((gG.f x1000 jK kE jE kF).bind fun VK => (if QD.length < 8796093022208 then ((some (QD ++ [VK.1] : List ByteArray)).bind fun QE => ((eX.f x1000 VK.2.1 VK.2.2.1 VK.2.2.2.1 VK.2.2.2.2 (⟨#[44]⟩ : ByteArray)).bind fun wH => (if wH.1 = true then (dW.l1 k x1000 wH.2.1 wH.2.2.1 wH.2.2.2.1 wH.2.2.2.2 uA uB uT uU wG QE uC) else ((dI.f x1000 wH.2.1 wH.2.2.1 wH.2.2.2.1 wH.2.2.2.2 (⟨#[125]⟩ : ByteArray)).bind fun Sr => ((fO.f k x1000 Sr.1 Sr.2.1 Sr.2.2.1 Sr.2.2.2).bind fun Ip => (some (uA, uB, uT, uU, wG, QE, Ip.1, uC, Ip.2.1, Ip.2.2.1, Ip.2.2.2.1, Ip.2.2.2.2))))))) else (none))) else ((dI.f x1000 jK kE jE kF (⟨#[125]⟩ : ByteArray)).bind fun iq => ((fO.f k x1000 iq.1 iq.2.1 iq.2.2.1 iq.2.2.2).bind fun VL => (some (uA, uB, uT, uU, wG, QD, VL.1, uC, VL.2.1, VL.2.2.1, VL.2.2.2.1, VL.2.2.2.2))))
def dW.l0 : Nat → List (iJ) → Int → Int → Int → Int → ByteArray → List (Ha) → Bool → ByteArray → ByteArray → Int → Option (ByteArray × (List (Ha)) × Bool × ByteArray × ByteArray × List ByteArray × (List (mO)) × Int × Int × Int × Int × Int)
 | 0, _, _, _, _, _, _, _, _, _, _, _ => none
 | k + 1, x1000, jK, kE, jE, kF, uA, uB, uT, uU, wG, uC => if jE = 0 then ((mD.f x1000 jK kE jE kF).bind fun VM => ((gG.f x1000 VM.2.1 VM.2.2.1 VM.2.2.2.1 VM.2.2.2.2).bind fun VN => ((dI.f x1000 VN.2.1 VN.2.2.1 VN.2.2.2.1 VN.2.2.2.2 (⟨#[58]⟩ : ByteArray)).bind fun iw => ((gG.f x1000 iw.1 iw.2.1 iw.2.2.1 iw.2.2.2).bind fun VO => (if uB.length < 3518437208883 then ((some (uB ++ [(⟨VN.1, VO.1, VM.1⟩ : Ha)] : List (Ha))).bind fun JK => ((eX.f x1000 VO.2.1 VO.2.2.1 VO.2.2.2.1 VO.2.2.2.2 (⟨#[44]⟩ : ByteArray)).bind fun wI => (if wI.1 = true then (dW.l0 k x1000 wI.2.1 wI.2.2.1 wI.2.2.2.1 wI.2.2.2.2 uA JK uT uU wG uC) else (dW.j1 k x1000 wI.2.1 wI.2.2.1 wI.2.2.2.1 wI.2.2.2.2 uA JK uT uU wG uC)))) else (none)))))) else (dW.j1 k x1000 jK kE jE kF uA uB uT uU wG uC)
end
def dW.f (k : Nat) (aK : List (iJ)) (aX : Int) (bM : Int) (bN : Int) (bQ : Int) : Option (ByteArray × (List (Ha)) × Bool × ByteArray × ByteArray × List ByteArray × (List (mO)) × Int × Int × Int × Int × Int) := (mD.f aK aX bM bN bQ).bind fun En => ((gG.f aK En.2.1 En.2.2.1 En.2.2.2.1 En.2.2.2.2).bind fun Eo => ((dI.f aK Eo.2.1 Eo.2.2.1 Eo.2.2.2.1 Eo.2.2.2.2 (⟨#[40]⟩ : ByteArray)).bind fun Su => ((nN.f aK Su.1 Su.2.1 Su.2.2.1 Su.2.2.2 (⟨#[41]⟩ : ByteArray)).bind fun wJ => (if wJ.1 = true then (dW.j1 k aK wJ.2.1 wJ.2.2.1 wJ.2.2.2.1 wJ.2.2.2.2 Eo.1 ([] : List (Ha)) false (⟨#[]⟩ : ByteArray) (⟨#[]⟩ : ByteArray) En.1) else (dW.l0 k aK wJ.2.1 wJ.2.2.1 wJ.2.2.2.1 wJ.2.2.2.2 Eo.1 ([] : List (Ha)) false (⟨#[]⟩ : ByteArray) (⟨#[]⟩ : ByteArray) En.1)))))
theorem dW.fT : ∀ k, (∀ y0 y1 y2 y3 y4 y5 y6 y7 y8 y9 uL, bV (dW.j1 k y0 y1 y2 y3 y4 y5 y6 y7 y8 y9 uL) (dW.j1 (k + 1) y0 y1 y2 y3 y4 y5 y6 y7 y8 y9 uL)) ∧ (∀ y0 y1 y2 y3 y4 y5 y6 y7 y8 y9 uL, bV (dW.j2 k y0 y1 y2 y3 y4 y5 y6 y7 y8 y9 uL) (dW.j2 (k + 1) y0 y1 y2 y3 y4 y5 y6 y7 y8 y9 uL)) ∧ (∀ y0 y1 y2 y3 y4 y5 y6 y7 y8 y9 uL zX, bV (dW.l1 k y0 y1 y2 y3 y4 y5 y6 y7 y8 y9 uL zX) (dW.l1 (k + 1) y0 y1 y2 y3 y4 y5 y6 y7 y8 y9 uL zX)) ∧ (∀ y0 y1 y2 y3 y4 y5 y6 y7 y8 y9 uL, bV (dW.l0 k y0 y1 y2 y3 y4 y5 y6 y7 y8 y9 uL) (dW.l0 (k + 1) y0 y1 y2 y3 y4 y5 y6 y7 y8 y9 uL))
 | 0 => ⟨fun _ _ _ _ _ _ _ _ _ _ _ r h => by simp [dW.j1] at h, fun _ _ _ _ _ _ _ _ _ _ _ r h => by simp [dW.j2] at h, fun _ _ _ _ _ _ _ _ _ _ _ _ r h => by simp [dW.l1] at h, fun _ _ _ _ _ _ _ _ _ _ _ r h => by simp [dW.l0] at h⟩
 | k + 1 => by
  obtain ⟨nV, ih1, ih2, ih3⟩ := dW.fT k
  refine ⟨?_, ?_, ?_, ?_⟩
  ·
   intro y0 y1 y2 y3 y4 y5 y6 y7 y8 y9 uL
   unfold dW.j1
   repeat' with_reducible first | apply nV | apply ih1 | apply ih2 | apply ih3 | apply fO.mono | exact bV.refl _ | exact bV.none _ | refine bV.ite ?_ ?_ | refine bV.bind ?_ (fun _ => ?_)
  ·
   intro y0 y1 y2 y3 y4 y5 y6 y7 y8 y9 uL
   unfold dW.j2
   repeat' with_reducible first | apply nV | apply ih1 | apply ih2 | apply ih3 | apply fO.mono | exact bV.refl _ | exact bV.none _ | refine bV.ite ?_ ?_ | refine bV.bind ?_ (fun _ => ?_)
  ·
   intro y0 y1 y2 y3 y4 y5 y6 y7 y8 y9 uL zX
   unfold dW.l1
   repeat' with_reducible first | apply nV | apply ih1 | apply ih2 | apply ih3 | apply fO.mono | exact bV.refl _ | exact bV.none _ | refine bV.ite ?_ ?_ | refine bV.bind ?_ (fun _ => ?_)
  ·
   intro y0 y1 y2 y3 y4 y5 y6 y7 y8 y9 uL
   unfold dW.l0
   repeat' with_reducible first | apply nV | apply ih1 | apply ih2 | apply ih3 | apply fO.mono | exact bV.refl _ | exact bV.none _ | refine bV.ite ?_ ?_ | refine bV.bind ?_ (fun _ => ?_)
theorem dW.mono : ∀ a0 a1 a2 a3 a4 k, bV (dW.f k a0 a1 a2 a3 a4) (dW.f (k + 1) a0 a1 a2 a3 a4) := by
 intro a0 a1 a2 a3 a4 k
 obtain ⟨nV, ih1, ih2, ih3⟩ := dW.fT k
 unfold dW.f
 repeat' with_reducible first | apply nV | apply ih1 | apply ih2 | apply ih3 | apply fO.mono | exact bV.refl _ | exact bV.none _ | refine bV.ite ?_ ?_ | refine bV.bind ?_ (fun _ => ?_)
def dW.T20 : Bool × List (List Nat × List Nat) := (true, [([], []), ([0], [0]), ([], []), ([2], [2]), ([3], [3]), ([1, 4, 3], [1, 4]), ([0, 1, 2, 3, 4, 5], []), ([6, 5, 5, 0, 1, 2, 3, 4, 5], [5, 6])])
def dW.B20 : List Nat := [0, 1, 0, 4, 12, 31, 63, 127]
theorem dW.aBf : oL .any (opsOf Try.f32 20) = dW.T20 := by kernel_rfl
theorem dW.I1 : kH dW.T20.2 dW.B20 = true := by kernel_rfl
theorem dW.calls (k : Nat) (g : Nat) (aK : List (iJ)) (aX : Int) (bM : Int) (bN : Int) (bQ : Int) (r1 : ByteArray) (r2 : List (Ha)) (r3 : Bool) (r4 : ByteArray) (r5 : ByteArray) (r6 : List ByteArray) (r7 : List (mO)) (r8 : Int) (r9 : Int) (Hu : Int) (Hw : Int) (Ml : Int) (w0 w : World) (hI : aH w0 w g aK aX bM bN bQ) (hB : Below w0.heap.size w0 w) (h : dW.f k aK aX bM bN bQ = some (r1, r2, r3, r4, r5, r6, r7, r8, r9, Hu, Hw, Ml)) :
  Calls Try.prog 32 #[.pointer (some ⟨g, 0, none⟩)] w fun e w' => ∃ v1_ v5_ v6_ : Value, e = .returned (.agg #[.string r1, v1_, .bool r3, .string r4, .string r5, v5_, v6_, .int .i64 r8]) ∧ Kd.R ZV 76 w' w.heap.size (fun _ => True) v1_ r2 ∧ Kd.R Kd.string 9 w' w.heap.size (fun _ => True) v5_ r6 ∧ Kd.R Fv 94 w' w.heap.size (fun _ => True) v6_ r7 ∧ aH w0 w' g aK r9 Hu Hw Ml ∧ Below w0.heap.size w0 w' ∧ aU w w' g none := by
 have bKl := Try.underlying38
 have bQj := Try.underlying76
 have HI0 := za hI
 have HK := za (aU.refl w g none)
 have HL := za hB.size
 clear hI
 have HW0 := za hB.size
 have HB := za hB
 clear hB
 have H : ((mD.f aK aX bM bN bQ).bind fun En => ((gG.f aK En.2.1 En.2.2.1 En.2.2.2.1 En.2.2.2.2).bind fun Eo => ((dI.f aK Eo.2.1 Eo.2.2.1 Eo.2.2.2.1 Eo.2.2.2.2 (⟨#[40]⟩ : ByteArray)).bind fun Su => ((nN.f aK Su.1 Su.2.1 Su.2.2.1 Su.2.2.2 (⟨#[41]⟩ : ByteArray)).bind fun wJ => (if wJ.1 = true then (dW.j1 k aK wJ.2.1 wJ.2.2.1 wJ.2.2.2.1 wJ.2.2.2.2 Eo.1 ([] : List (Ha)) false (⟨#[]⟩ : ByteArray) (⟨#[]⟩ : ByteArray) En.1) else (dW.l0 k aK wJ.2.1 wJ.2.2.1 wJ.2.2.2.1 wJ.2.2.2.2 Eo.1 ([] : List (Ha)) false (⟨#[]⟩ : ByteArray) (⟨#[]⟩ : ByteArray) En.1)))))) = some (r1, r2, r3, r4, r5, r6, r7, r8, r9, Hu, Hw, Ml) := h
 clear h
 replace H := jT H
 obtain ⟨⟨Dh, aUS, aUT, aUU, aUV⟩, A2, H⟩ := H
 (try dsimp only at H)
 replace H := jT H
 obtain ⟨⟨Di, aHG, aHH, aHI, aHJ⟩, A3, H⟩ := H
 (try dsimp only at H)
 replace H := jT H
 obtain ⟨⟨aUW, aUX, aUY, aUZ⟩, A4, H⟩ := H
 (try dsimp only at H)
 replace H := jT H
 obtain ⟨⟨bKm, aMQ, aMR, aMS, aMT⟩, A5, H⟩ := H
 (try dsimp only at H)
 have KH := za H
 clear H
 go_enter Try.func32, Try.ntmps32
 go_upto_if 14 with (first | ((with_reducible refine bO (N := 2) rfl ?_); refine bZ ?hg (N := 2) ?hd (cs := #[.string (⟨#[]⟩ : ByteArray), .slice none 0 0, .bool false, .string (⟨#[]⟩ : ByteArray), .string (⟨#[]⟩ : ByteArray), .slice none 0 0, .slice none 0 0, .int .i64 0]) (t := 38) ?hr ?_; (case hd => rfl); (case hg => rfl); (case hr => exact jA); intro sQ hg w7 gP hb; replace HB := za (aM qJ hb); have fH := za (gP); have zi := za ((by rw [hg]; exact (eG (w := w) (g := g) (row := none) vN) : w.heap.size ≤ sQ)); have zk := za ((Nat.le_trans HW0.out (by rw [hg]; exact (eG (w := w) (g := g) (row := none) vN) : w.heap.size ≤ sQ) : w0.heap.size ≤ sQ)); replace HK := za (aU.trans vN (aU.of_below hb g none) (.inl rfl)); have Ma := za ((by rw [hg]; exact Nat.ne_of_lt (aH.lt (show aH w0 _ g aK aX bM bN bQ from mZ)) : g ≠ sQ)); have kI := za ((by rw [hg]; exact Nat.ne_of_gt (aH.lt (show aH w0 _ g aK aX bM bN bQ from mZ)) : sQ ≠ g)); replace HI0 := za (aH.below mZ hb); clear hb gP hg) | ((with_reducible refine zg 28 rfl ?_); refine kZ (some 6) Try.func28 #[.pointer (some ⟨g, 0, none⟩)] ?_; refine (mD.calls g aK aX bM bN bQ Dh aUS aUT aUU aUV w0 _ zx aAa A2.out).mono ?_; rintro e w8 ⟨rfl, hi, hb, hk⟩; refine ⟨_, rfl, ?_⟩; replace fH := nE hk (zb fH.out) kI; replace HK := sN o8 hk; replace HB := za (hb); replace HI0 := za (hi)) | ((with_reducible refine zg 29 rfl ?_); refine kZ (some 8) Try.func29 #[.pointer (some ⟨g, 0, none⟩)] ?_; refine (gG.calls g aK aUS aUT aUU aUV Di aHG aHH aHI aHJ w0 _ zx aAa A3.out).mono ?_; rintro e w9 ⟨rfl, hi, hb, hk⟩; refine ⟨_, rfl, ?_⟩; replace fH := nE hk (zb fH.out) kI; replace HK := sN o8 hk; replace HB := za (hb); replace HI0 := za (hi)) | ((with_reducible refine bO (N := 3) rfl ?_); refine bZ ?hg (N := 3) ?hd (cs := #[.string (⟨#[]⟩ : ByteArray), .slice none 0 0, .bool false, .string (⟨#[]⟩ : ByteArray), .string (⟨#[]⟩ : ByteArray), .slice none 0 0, .slice none 0 0, .int .i64 0]) (t := 38) ?hr ?_; (case hd => rfl); (case hg => rfl); (case hr => exact jA); intro mF hg w10 gP hb; replace HB := za (aM aAa hb); have dH := za (gP); have aJo := za ((by rw [hg]; exact (eG (w := w) (g := g) (row := none) o8) : w.heap.size ≤ mF)); have aJp := za ((Nat.le_trans HW0.out (by rw [hg]; exact (eG (w := w) (g := g) (row := none) o8) : w.heap.size ≤ mF) : w0.heap.size ≤ mF)); replace HK := za (aU.trans o8 (aU.of_below hb g none) (.inl rfl)); have lL := za ((by rw [hg]; exact Nat.ne_of_lt (gB (g := sQ) (zb fH.out)) : sQ ≠ mF)); have vG := za ((by rw [hg]; exact Nat.ne_of_gt (gB (g := sQ) (zb fH.out)) : mF ≠ sQ)); replace fH := za (aY (g := sQ) (zb fH.out) hb); have zF := za ((by rw [hg]; exact Nat.ne_of_lt (aH.lt (show aH w0 _ g aK aHG aHH aHI aHJ from zx)) : g ≠ mF)); have jQ := za ((by rw [hg]; exact Nat.ne_of_gt (aH.lt (show aH w0 _ g aK aHG aHH aHI aHJ from zx)) : mF ≠ g)); replace HI0 := za (aH.below zx hb); clear hb gP hg; have aU0 := vG.out; have aU1 := lL.out; have aU2 := jQ.out; have aU3 := zF.out; obtain ⟨NY, NZ, OA, OB, OC, bEh, bEi, bEj⟩ := qi dH.out; obtain ⟨iy, OD, OE, OG, OH, bEk, bEl⟩ := zf7 dH.out; have bEm := aD dH.out 7) | ((with_reducible refine zg 27 rfl ?_); refine kZ (some 11) Try.func27 #[.pointer (some ⟨g, 0, none⟩), .string (⟨#[40]⟩ : ByteArray)] ?_; refine (dI.calls g aK aHG aHH aHI aHJ (⟨#[40]⟩ : ByteArray) aUW aUX aUY aUZ w0 _ wO uN A4.out).mono ?_; rintro e w14 ⟨rfl, hi, hb, hk⟩; refine ⟨_, rfl, ?_⟩; replace fH := nE hk (zF8 fH.out lL.out) kI; replace dH := nE hk (zP8 dH.out) jQ; replace HK := sN rW hk; replace HB := za (hb); replace HI0 := za (hi)) | ((with_reducible refine zg 35 rfl ?_); refine kZ (some 13) Try.func35 #[.pointer (some ⟨g, 0, none⟩), .string (⟨#[41]⟩ : ByteArray)] ?_; refine (nN.calls g aK aUW aUX aUY aUZ (⟨#[41]⟩ : ByteArray) bKm aMQ aMR aMS aMT w0 _ wO uN A5.out).mono ?_; rintro e w15 ⟨rfl, hi, hb, hk⟩; refine ⟨_, rfl, ?_⟩; replace fH := nE hk (zb fH.out) kI; replace dH := nE hk (zb dH.out) jQ; replace HK := sN rW hk; replace HB := za (hb); replace HI0 := za (hi)))
 (try simp only [Act.put, List.setIfInBounds_toArray, List.set_cons_zero, List.set_cons_succ])
 go_cut [] (fun wc => ∃ (kq : Nat) (Sv : Int) (Sw : Int) (Sy : Int) (bRV : Int) (pF : List (Ha)) (u753001 : Value), aG (dW.j1 kq aK Sv Sw Sy bRV Di pF false (⟨#[]⟩ : ByteArray) (⟨#[]⟩ : ByteArray) Dh = some (r1, r2, r3, r4, r5, r6, r7, r8, r9, Hu, Hw, Ml)) ∧ aG (kq ≤ k) ∧ aG (Kd.R ZV 76 wc w.heap.size (fun _ => True) u753001 pF) ∧ aG (wc.heap[sQ]? = some (.cells #[.string (⟨#[]⟩ : ByteArray), (.slice none 0 0), .bool false, .string (⟨#[]⟩ : ByteArray), .string (⟨#[]⟩ : ByteArray), (.slice none 0 0), (.slice none 0 0), .int .i64 0] 38 (0, 0))) ∧ aG (wc.heap[mF]? = some (.cells #[.string Di, u753001, .bool false, .string (⟨#[]⟩ : ByteArray), .string (⟨#[]⟩ : ByteArray), (.slice none 0 0), (.slice none 0 0), .int .i64 Dh] 38 (0, 0))) ∧ aG (aH w0 wc g aK Sv Sw Sy bRV) ∧ aG (aU w wc g none) ∧ aG (Below w0.heap.size w0 wc))
 case first =>
  have H := KH.out
  clear KH
  replace H := Bq H
  rcases H with ⟨rfl, H⟩ | ⟨rfl, H⟩
  ·
   have H' := za H
   clear H
   go_wp2
   go_meet
   case rel => exact ⟨_, (aMQ), (aMR), (aMS), (aMT), (([] : List (Ha))), (.slice none 0 0), H', ⟨Cm⟩, ⟨vJ⟩, ⟨SS⟩, ⟨SX⟩, ⟨wO⟩, ⟨rW⟩, ⟨uN⟩⟩
  ·
   have H' := za H
   clear H
   go_wp2
   go_loopg [] k (fun kq w' => ∃ (iE : Int) (iF : Int) (iG : Int) (iH : Int) (zY : List (Ha)) (u753001 : Value), aG (dW.l0 kq aK iE iF iG iH Di zY false (⟨#[]⟩ : ByteArray) (⟨#[]⟩ : ByteArray) Dh = some (r1, r2, r3, r4, r5, r6, r7, r8, r9, Hu, Hw, Ml)) ∧ aG (kq ≤ k) ∧ aG (Kd.R ZV 76 w' w.heap.size (fun _ => True) u753001 zY) ∧ aG (w'.heap[sQ]? = some (.cells #[.string (⟨#[]⟩ : ByteArray), (.slice none 0 0), .bool false, .string (⟨#[]⟩ : ByteArray), .string (⟨#[]⟩ : ByteArray), (.slice none 0 0), (.slice none 0 0), .int .i64 0] 38 (0, 0))) ∧ aG (w'.heap[mF]? = some (.cells #[.string Di, u753001, .bool false, .string (⟨#[]⟩ : ByteArray), .string (⟨#[]⟩ : ByteArray), (.slice none 0 0), (.slice none 0 0), .int .i64 Dh] 38 (0, 0))) ∧ aG (aH w0 w' g aK iE iF iG iH) ∧ aG (aU w w' g none) ∧ aG (Below w0.heap.size w0 w'))
   case atStart => exact ⟨(aMQ), (aMR), (aMS), (aMT), (([] : List (Ha))), (.slice none 0 0), H', ⟨Nat.le_refl _⟩, ⟨vJ⟩, ⟨SS⟩, ⟨SX⟩, ⟨wO⟩, ⟨rW⟩, ⟨uN⟩⟩
   case round =>
    clear H'
    obtain ⟨iE, iF, iG, iH, zY, u753001, HA, lH, bY, fH, dH, HI0, HK, HB⟩ := hrel
    cases gk with
    | zero => exact absurd HA.out (by simp [dW.l0])
    | succ k1 =>
     have H := HA.out
     clear HA
     simp only [dW.l0] at H
     have aU4 := za H
     clear H
     obtain ⟨aE3, aE4, uP, aAM, aE5⟩ := HI0.out
     have V8 := fI uP
     have V9 := fJ uP
     have W9 := fK uP
     have X4 := fM uP
     have Y1 := fG uP
     have Y2 := aD uP 1
     have Y3 := aD uP 2
     have Y4 := aD uP 3
     have Y5 := aD uP 4
     clear uP aAM
     go_upto_if 19 with (fail)
     have H := aU4.out
     clear aU4
     revert H; refine oW (fun Dz aU5 H => ?_) (fun c19 Dz aU5 H => ?_)
     ·
      (first | rw [Dz] | (simp only [dO, dQ]; rw [Dz]) | skip)
      replace H := jT H
      obtain ⟨⟨J2, aMU, aMV, aMW, aMX⟩, A20, H⟩ := H
      (try dsimp only at H)
      replace H := jT H
      obtain ⟨⟨J3, aB9, aCa, aCb, aCc⟩, A21, H⟩ := H
      (try dsimp only at H)
      replace H := jT H
      obtain ⟨⟨aMY, aMZ, aM0, aM1⟩, qp, H⟩ := H
      (try dsimp only at H)
      replace H := jT H
      obtain ⟨⟨J4, aHK, aHL, aHM, aHN⟩, A23, H⟩ := H
      (try dsimp only at H)
      revert H; refine IP fun aU6 H => ?_
      obtain ⟨JK, VP⟩ : ∃ y_ : List (Ha), y_ = (zY ++ [(⟨J3, J4, J2⟩ : Ha)]) := ⟨_, rfl⟩
      replace H : ((eX.f aK aHK aHL aHM aHN (⟨#[44]⟩ : ByteArray)).bind fun wI => (if wI.1 = true then (dW.l0 k1 aK wI.2.1 wI.2.2.1 wI.2.2.2.1 wI.2.2.2.2 Di JK false (⟨#[]⟩ : ByteArray) (⟨#[]⟩ : ByteArray) Dh) else (dW.j1 k1 aK wI.2.1 wI.2.2.1 wI.2.2.2.1 wI.2.2.2.2 Di JK false (⟨#[]⟩ : ByteArray) (⟨#[]⟩ : ByteArray) Dh))) = some (r1, r2, r3, r4, r5, r6, r7, r8, r9, Hu, Hw, Ml) := by first | (rw [VP]; with_reducible exact H) | (have lS := (Option.bind_some _ _).symm.trans H; rw [VP]; with_reducible exact lS) | (have lS := (Option.bind_some _ _).symm.trans H; with_reducible exact lS) | with_reducible exact H | (rw [VP]; exact H) | exact H
      have aU7 := za VP
      clear VP
      replace H := jT H
      obtain ⟨⟨bKn, aM2, aM3, aM4, aM5⟩, A25, H⟩ := H
      (try dsimp only at H)
      have aU8 := za H
      clear H
      go_upto_if 38 with (first | ((with_reducible refine zg 28 rfl ?_); refine kZ (some 21) Try.func28 #[.pointer (some ⟨g, 0, none⟩)] ?_; refine (mD.calls g aK iE iF iG iH J2 aMU aMV aMW aMX w0 _ wO uN A20.out).mono ?_; rintro e w27 ⟨rfl, hi, hb, hk⟩; refine ⟨_, rfl, ?_⟩; replace bY := za (Kd.aQ (Kd.fC (aH.apart (show aH w0 _ g aK iE iF iG iH from wO) (zr bY.out) (by decide)) hk (fun _ h => h.2)) (fun _ h => h.1)); replace fH := nE hk (zb fH.out) kI; replace dH := nE hk (zb dH.out) jQ; replace HK := sN rW hk; replace HB := za (hb); replace HI0 := za (hi)) | ((with_reducible refine zg 29 rfl ?_); refine kZ (some 23) Try.func29 #[.pointer (some ⟨g, 0, none⟩)] ?_; refine (gG.calls g aK aMU aMV aMW aMX J3 aB9 aCa aCb aCc w0 _ wO uN A21.out).mono ?_; rintro e w28 ⟨rfl, hi, hb, hk⟩; refine ⟨_, rfl, ?_⟩; replace bY := za (Kd.aQ (Kd.fC (aH.apart (show aH w0 _ g aK aMU aMV aMW aMX from wO) (zr bY.out) (by decide)) hk (fun _ h => h.2)) (fun _ h => h.1)); replace fH := nE hk (zb fH.out) kI; replace dH := nE hk (zb dH.out) jQ; replace HK := sN rW hk; replace HB := za (hb); replace HI0 := za (hi)) | ((with_reducible refine bO (N := 4) rfl ?_); refine bZ ?hg (N := 4) ?hd (cs := #[.string (⟨#[]⟩ : ByteArray), .string (⟨#[]⟩ : ByteArray), .int .i64 0]) (t := 76) ?hr ?_; (case hd => rfl); (case hg => rfl); (case hr => exact jA); intro Ar hg w29 gP hb; replace bY := za (Kd.iX (Kd.xR (zr bY.out) Ar (Nat.le_of_eq hg.symm)) hb); replace HB := za (aM uN hb); have Cw := za (gP); have aPu := za ((by rw [hg]; exact (eG (w := w) (g := g) (row := none) rW) : w.heap.size ≤ Ar)); have aPz := za ((Nat.le_trans HW0.out (by rw [hg]; exact (eG (w := w) (g := g) (row := none) rW) : w.heap.size ≤ Ar) : w0.heap.size ≤ Ar)); replace HK := za (aU.trans rW (aU.of_below hb g none) (.inl rfl)); have Ws := za ((by rw [hg]; exact Nat.ne_of_lt (gB (g := sQ) (zb fH.out)) : sQ ≠ Ar)); have bSL := za ((by rw [hg]; exact Nat.ne_of_gt (gB (g := sQ) (zb fH.out)) : Ar ≠ sQ)); replace fH := za (aY (g := sQ) (zb fH.out) hb); have Wt := za ((by rw [hg]; exact Nat.ne_of_lt (gB (g := mF) (zb dH.out)) : mF ≠ Ar)); have LW := za ((by rw [hg]; exact Nat.ne_of_gt (gB (g := mF) (zb dH.out)) : Ar ≠ mF)); replace dH := za (aY (g := mF) (zb dH.out) hb); have Q9 := za ((by rw [hg]; exact Nat.ne_of_lt (aH.lt (show aH w0 _ g aK aB9 aCa aCb aCc from wO)) : g ≠ Ar)); have Zv := za ((by rw [hg]; exact Nat.ne_of_gt (aH.lt (show aH w0 _ g aK aB9 aCa aCb aCc from wO)) : Ar ≠ g)); replace HI0 := za (aH.below wO hb); clear hb gP hg; have aTV := bSL.out; have aTW := Ws.out; have aKr := LW.out; have aKs := Wt.out; have aKt := Zv.out; have aKu := Q9.out; obtain ⟨bEn, bEo, bEp⟩ := Zi Cw.out; obtain ⟨bEq, bEr⟩ := zf2 Cw.out; have bEs := aD Cw.out 2) | ((with_reducible refine zg 27 rfl ?_); refine kZ (some 26) Try.func27 #[.pointer (some ⟨g, 0, none⟩), .string (⟨#[58]⟩ : ByteArray)] ?_; refine (dI.calls g aK aB9 aCa aCb aCc (⟨#[58]⟩ : ByteArray) aMY aMZ aM0 aM1 w0 _ NK pq qp.out).mono ?_; rintro e w34 ⟨rfl, hi, hb, hk⟩; refine ⟨_, rfl, ?_⟩; replace bY := za (Kd.aQ (Kd.fC (aH.apart (show aH w0 _ g aK aB9 aCa aCb aCc from NK) (by (with_reducible repeat (first | apply Kd.bC | apply Kd.bF | apply Kd.bP)); exact (Kd.aQ (zR3 (Kd.aQ bY.out (fun k_ hk => (⟨hk, hk.2⟩ : _ ∧ k_ ≠ Ar))) (fun _ hk => hk.2)) (fun _ h_ => h_.1))) (by decide)) hk (fun _ h => h.2)) (fun _ h => h.1)); replace fH := nE hk (zF3 fH.out Ws.out) kI; replace dH := nE hk (zF3 dH.out Wt.out) jQ; replace Cw := nE hk (zP3 Cw.out) Zv; replace HK := sN F6 hk; replace HB := za (hb); replace HI0 := za (hi)) | ((with_reducible refine zg 29 rfl ?_); refine kZ (some 28) Try.func29 #[.pointer (some ⟨g, 0, none⟩)] ?_; refine (gG.calls g aK aMY aMZ aM0 aM1 J4 aHK aHL aHM aHN w0 _ NK pq A23.out).mono ?_; rintro e w35 ⟨rfl, hi, hb, hk⟩; refine ⟨_, rfl, ?_⟩; replace bY := za (Kd.aQ (Kd.fC (aH.apart (show aH w0 _ g aK aMY aMZ aM0 aM1 from NK) (zr bY.out) (by decide)) hk (fun _ h => h.2)) (fun _ h => h.1)); replace fH := nE hk (zb fH.out) kI; replace dH := nE hk (zb dH.out) jQ; replace Cw := nE hk (zb Cw.out) Zv; replace HK := sN F6 hk; replace HB := za (hb); replace HI0 := za (hi); (try clear hb hk hi); obtain ⟨PI, PK, PL⟩ := Zi Cw.out; obtain ⟨Q_, PM, PN⟩ := Xk Cw.out; have aU9 := vG.out; have aVa := lL.out; have aVb := jQ.out; have aVc := zF.out; obtain ⟨aHO, aHP, aHQ, aHR, aHS, bEt, bEu, bEv⟩ := qi dH.out; obtain ⟨aHT, aHU, aHV, aHW, aHX, bEw, bEx⟩ := zf7 dH.out; have bEy := aD dH.out 7) | ((with_reducible refine iK (b := .append) (xs := #[.tmp 31, .tmp 33]) rfl ?_); at_builtin; refine Kd.nP ZV w.heap.size rfl (.tmp 31) (.tmp 33) 35 76 (.agg #[(.string ⟨#[]⟩), (.string ⟨#[]⟩), (.int .i64 0)]) 40 rfl Try.underlying35 aLi rfl (by decide) (by omega) u753001 zY (⟨J3, J4, J2⟩ : Ha) [.string J3, .string J4, .int .i64 J2] (fun k_ => k_ ≠ Ar) (fun _ => False) rfl jA ?aP (fun _ hk => hk.elim) ?aF ?aO (Below.refl _ _) ?aS ?aL ?_; (case aP => exact aEv _ _ _ (⟨J3, J4, J2⟩ : Ha)); (case aF => exact (fun k_ hk => Kd.MS (g := Ar) (o := .cells #[.string J3, .string J4, .int .i64 J2] 76 (0, 0)) (aJV Cw.out) k_ hk)); (case aO => exact (by (with_reducible repeat (first | apply Kd.bC | apply Kd.bF | apply Kd.bP)); exact Kd.aQ (RL (Kd.aQ bY.out (fun k_ hk => (⟨hk, hk.2⟩ : _ ∧ k_ ≠ Ar))) (fun _ hk => hk.2)) (fun _ hk => hk.1.2))); (case aS => exact (eG (w := w) (g := g) (row := none) F6)); (case aL => have := aU6.out; omega); intro bQk w40 ho hb hg hat; rw [← aU7.out] at ho; replace fH := za (eD (g := sQ) (Vp fH.out Ws.out) hg (Kd.nA bY.out fH.out (by decide))); replace dH := za (eD (g := mF) (Vp dH.out Wt.out) hg (Kd.nA bY.out dH.out (by decide))); replace Cw := za (eD (g := Ar) (o := .cells #[.string J3, .string J4, .int .i64 J2] 76 (0, 0)) (aJV Cw.out) hg (Kd.wW bY.out (fun _ hk => hk.2))); replace HB := za (rR pq HL.out hb); replace HI0 := za (aH.grown NK hg (aH.own_ne HI0.out bY.out (by decide))); replace HK := za (aU.trans F6 (aU.mV hg g) (Kd.Fj bY.out)); have U3 := za (ho); clear bY; clear ho hb hg hat; obtain ⟨aM6, aM7, bKo⟩ := Kd.bJ U3.out; subst bKo; obtain ⟨l_, m_, n_, aFD, bEz, bEA, bEB, bEC⟩ := qi dH.out; obtain ⟨o_, p_, r_, aFE, bED, bEE, bEF⟩ := zf7 dH.out; have bEG := aD dH.out 7) | ((with_reducible refine zg 30 rfl ?_); refine kZ (some 37) Try.func30 #[.pointer (some ⟨g, 0, none⟩), .string (⟨#[44]⟩ : ByteArray)] ?_; refine (eX.calls g aK aHK aHL aHM aHN (⟨#[44]⟩ : ByteArray) bKn aM2 aM3 aM4 aM5 w0 _ NK pq A25.out).mono ?_; rintro e w43 ⟨rfl, hi, hb, hk⟩; refine ⟨_, rfl, ?_⟩; replace fH := nE hk (Vp fH.out lL.out) kI; replace Cw := nE hk (Vp Cw.out LW.out) Zv; replace U3 := za (Kd.aQ (Kd.fC (aH.apart (show aH w0 _ g aK aHK aHL aHM aHN from NK) (by (with_reducible repeat (first | apply Kd.bC | apply Kd.bF | apply Kd.bP)); exact (Kd.aQ (RL (Kd.dS U3.out dH.out (by decide)) (fun _ hk => hk.2)) (fun _ h_ => h_.1))) (by decide)) hk (fun _ h => h.2)) (fun _ h => h.1)); replace dH := za (aU.blk hk (g' := mF) (o := .cells #[.string Di, .slice aM6 JK.length aM7, .bool false, .string (⟨#[]⟩ : ByteArray), .string (⟨#[]⟩ : ByteArray), .slice none 0 0, .slice none 0 0, .int .i64 Dh] 38 (0, 0)) (aPU dH.out) jQ.out (by simp)); replace HK := sN F6 hk; replace HB := za (hb); replace HI0 := za (hi)))
      (try simp only [Act.put, List.setIfInBounds_toArray, List.set_cons_zero, List.set_cons_succ])
      have H := aU8.out
      clear aU8
      replace H := Bq H
      rcases H with ⟨rfl, H⟩ | ⟨rfl, H⟩
      ·
       have H' := za H
       clear H
       go_wp2
       go_roundg k1
       case measure => have := lH.out; omega
       case rel => exact ⟨(aM2), (aM3), (aM4), (aM5), (JK), (.slice aM6 JK.length aM7), H', ⟨by have := lH.out; omega⟩, ⟨aJM⟩, ⟨SS⟩, ⟨SX⟩, ⟨NK⟩, ⟨F6⟩, ⟨pq⟩⟩
      ·
       have H' := za H
       clear H
       go_wp2
       go_meet
       case rel => exact ⟨_, (aM2), (aM3), (aM4), (aM5), (JK), (.slice aM6 JK.length aM7), H', ⟨by have := lH.out; first | omega | exact Nat.le_refl _⟩, ⟨aJM⟩, ⟨SS⟩, ⟨SX⟩, ⟨NK⟩, ⟨F6⟩, ⟨pq⟩⟩
     ·
      (first | rw [Dz] | (simp only [dO, dQ]; rw [Dz]) | skip)
      have H' := za H
      clear H
      go_wp2
      go_meet
      case rel => exact ⟨_, (iE), (iF), (iG), (iH), (zY), (u753001), H', ⟨by have := lH.out; first | omega | exact Nat.le_refl _⟩, ⟨R9⟩, ⟨SS⟩, ⟨SX⟩, ⟨wO⟩, ⟨rW⟩, ⟨uN⟩⟩
 case rest =>
  clear KH
  obtain ⟨kq, Sv, Sw, Sy, bRV, pF, u753001, HA, Dp, bY, fH, dH, HI0, HK, HB⟩ := hcut
  cases kq with
  | zero => exact absurd HA.out (by simp [dW.j1])
  | succ Ia =>
   have H := HA.out
   clear HA
   simp only [dW.j1] at H
   replace H := jT H
   obtain ⟨⟨aM8, aM9, aNa, aNb⟩, A45, H⟩ := H
   (try dsimp only at H)
   replace H := jT H
   obtain ⟨⟨bKp, aHY, aHZ, aH0, aH1⟩, A46, H⟩ := H
   (try dsimp only at H)
   have bSJ := za H
   clear H
   go_upto_if 42 with (first | ((with_reducible refine zg 27 rfl ?_); refine kZ (some 40) Try.func27 #[.pointer (some ⟨g, 0, none⟩), .string (⟨#[41]⟩ : ByteArray)] ?_; refine (dI.calls g aK Sv Sw Sy bRV (⟨#[41]⟩ : ByteArray) aM8 aM9 aNa aNb w0 _ wO uN A45.out).mono ?_; rintro e w48 ⟨rfl, hi, hb, hk⟩; refine ⟨_, rfl, ?_⟩; replace bY := za (Kd.aQ (Kd.fC (aH.apart (show aH w0 _ g aK Sv Sw Sy bRV from wO) (zr bY.out) (by decide)) hk (fun _ h => h.2)) (fun _ h => h.1)); replace fH := nE hk (zb fH.out) kI; replace dH := nE hk (zb dH.out) jQ; replace HK := sN rW hk; replace HB := za (hb); replace HI0 := za (hi)) | ((with_reducible refine zg 30 rfl ?_); refine kZ (some 42) Try.func30 #[.pointer (some ⟨g, 0, none⟩), .string (⟨#[45, 62]⟩ : ByteArray)] ?_; refine (eX.calls g aK aM8 aM9 aNa aNb (⟨#[45, 62]⟩ : ByteArray) bKp aHY aHZ aH0 aH1 w0 _ wO uN A46.out).mono ?_; rintro e w49 ⟨rfl, hi, hb, hk⟩; refine ⟨_, rfl, ?_⟩; replace bY := za (Kd.aQ (Kd.fC (aH.apart (show aH w0 _ g aK aM8 aM9 aNa aNb from wO) (zr bY.out) (by decide)) hk (fun _ h => h.2)) (fun _ h => h.1)); replace fH := nE hk (zb fH.out) kI; replace dH := nE hk (zb dH.out) jQ; replace HK := sN rW hk; replace HB := za (hb); replace HI0 := za (hi)))
   (try simp only [Act.put, List.setIfInBounds_toArray, List.set_cons_zero, List.set_cons_succ])
   go_cut [] (fun wc => ∃ (kq : Nat) (Iq : Int) (Ir : Int) (Iu : Int) (Iw : Int) (nJ : Bool) (nK : ByteArray), aG (dW.j2 kq aK Iq Ir Iu Iw Di pF nJ nK (⟨#[]⟩ : ByteArray) Dh = some (r1, r2, r3, r4, r5, r6, r7, r8, r9, Hu, Hw, Ml)) ∧ aG (kq ≤ Ia) ∧ aG (Kd.R ZV 76 wc w.heap.size (fun _ => True) u753001 pF) ∧ aG (wc.heap[sQ]? = some (.cells #[.string (⟨#[]⟩ : ByteArray), (.slice none 0 0), .bool false, .string (⟨#[]⟩ : ByteArray), .string (⟨#[]⟩ : ByteArray), (.slice none 0 0), (.slice none 0 0), .int .i64 0] 38 (0, 0))) ∧ aG (wc.heap[mF]? = some (.cells #[.string Di, u753001, .bool nJ, .string nK, .string (⟨#[]⟩ : ByteArray), (.slice none 0 0), (.slice none 0 0), .int .i64 Dh] 38 (0, 0))) ∧ aG (aH w0 wc g aK Iq Ir Iu Iw) ∧ aG (aU w wc g none) ∧ aG (Below w0.heap.size w0 wc))
   case first =>
    have H := bSJ.out
    clear bSJ
    replace H := Bq H
    rcases H with ⟨rfl, H⟩ | ⟨rfl, H⟩
    ·
     replace H := jT H
     obtain ⟨⟨aVd, aVe, aVf, aVg, aVh⟩, A51, H⟩ := H
     (try dsimp only at H)
     have H' := za H
     clear H
     have aUf := vG.out
     have aUg := lL.out
     have aBc := jQ.out
     have aBd := zF.out
     obtain ⟨V_, W_, X_, aG7, aG8, aG9, aHa, aHb⟩ := qi dH.out
     obtain ⟨Y_, Z_, aa, aHc, aHd, aHe, aHf, aHg⟩ := zf8 dH.out
     go_wp2_with (first | ((with_reducible refine zg 29 rfl ?_); refine kZ (some 45) Try.func29 #[.pointer (some ⟨g, 0, none⟩)] ?_; refine (gG.calls g aK aHY aHZ aH0 aH1 aVd aVe aVf aVg aVh w0 _ wO uN A51.out).mono ?_; rintro e w55 ⟨rfl, hi, hb, hk⟩; refine ⟨_, rfl, ?_⟩; replace bY := za (Kd.aQ (Kd.fC (aH.apart (show aH w0 _ g aK aHY aHZ aH0 aH1 from wO) aAb (by decide)) hk (fun _ h => h.2)) (fun _ h => h.1)); replace fH := nE hk (Vp fH.out lL.out) kI; replace dH := za (aU.blk hk (g' := mF) (o := .cells #[.string Di, u753001, .bool true, .string (⟨#[]⟩ : ByteArray), .string (⟨#[]⟩ : ByteArray), .slice none 0 0, .slice none 0 0, .int .i64 Dh] 38 (0, 0)) (aPV dH.out) jQ.out (by simp)); replace HK := sN rW hk; replace HB := za (hb); replace HI0 := za (hi); (try clear hb hk hi); obtain ⟨aHh, aHi, aHj, aHk, aHl, aHm, aHn, aHo⟩ := qi dH.out; obtain ⟨aHp, aHq, aHr, aHs, aHt, aHu, aHv⟩ := zf7 dH.out; have aHw := aD dH.out 7))
     go_meet
     case rel => exact ⟨_, (aVe), (aVf), (aVg), (aVh), (true), (aVd), H', ⟨by have := Dp.out; first | omega | exact Nat.le_refl _⟩, ⟨by (with_reducible repeat (first | apply Kd.bC | apply Kd.bF | apply Kd.bP)); exact Kd.aQ (RL (Kd.dS bY.out dH.out (by decide)) (fun _ hk => hk.2)) (fun _ hk => trivial)⟩, ⟨Vp fH.out lL.out⟩, ⟨aPW dH.out⟩, ⟨wO⟩, ⟨rW⟩, ⟨uN⟩⟩
    ·
     have H' := za H
     clear H
     go_wp2
     go_meet
     case rel => exact ⟨_, (aHY), (aHZ), (aH0), (aH1), (false), ((⟨#[]⟩ : ByteArray)), H', ⟨by have := Dp.out; first | omega | exact Nat.le_refl _⟩, ⟨R9⟩, ⟨SS⟩, ⟨SX⟩, ⟨wO⟩, ⟨rW⟩, ⟨uN⟩⟩
   case rest =>
    clear bSJ
    obtain ⟨kq, Iq, Ir, Iu, Iw, nJ, nK, HA, aVi, bY, fH, dH, HI0, HK, HB⟩ := hcut
    cases kq with
    | zero => exact absurd HA.out (by simp [dW.j2])
    | succ aNc =>
     have H := HA.out
     clear HA
     simp only [dW.j2] at H
     replace H := jT H
     obtain ⟨⟨aNd, aNe, aNf, aNg⟩, A57, H⟩ := H
     (try dsimp only at H)
     replace H := jT H
     obtain ⟨⟨EG, aNh, aNi, aNj, aNk⟩, A58, H⟩ := H
     (try dsimp only at H)
     replace H := jT H
     obtain ⟨⟨aNl, aNm, aNn, aNo⟩, A59, H⟩ := H
     (try dsimp only at H)
     replace H := jT H
     obtain ⟨⟨aNp, aNq, aNr, aNs⟩, A60, H⟩ := H
     (try dsimp only at H)
     replace H := jT H
     obtain ⟨⟨bKq, aH2, aH3, aH4, aH5⟩, A61, H⟩ := H
     (try dsimp only at H)
     have aBo := za H
     clear H
     go_upto_if 58 with (first | ((with_reducible refine zg 27 rfl ?_); refine kZ (some 48) Try.func27 #[.pointer (some ⟨g, 0, none⟩), .string (⟨#[112, 99]⟩ : ByteArray)] ?_; refine (dI.calls g aK Iq Ir Iu Iw (⟨#[112, 99]⟩ : ByteArray) aNd aNe aNf aNg w0 _ wO uN A57.out).mono ?_; rintro e w63 ⟨rfl, hi, hb, hk⟩; refine ⟨_, rfl, ?_⟩; replace bY := za (Kd.aQ (Kd.fC (aH.apart (show aH w0 _ g aK Iq Ir Iu Iw from wO) (zr bY.out) (by decide)) hk (fun _ h => h.2)) (fun _ h => h.1)); replace fH := nE hk (zb fH.out) kI; replace dH := nE hk (zb dH.out) jQ; replace HK := sN rW hk; replace HB := za (hb); replace HI0 := za (hi)) | ((with_reducible refine zg 29 rfl ?_); refine kZ (some 50) Try.func29 #[.pointer (some ⟨g, 0, none⟩)] ?_; refine (gG.calls g aK aNd aNe aNf aNg EG aNh aNi aNj aNk w0 _ wO uN A58.out).mono ?_; rintro e w64 ⟨rfl, hi, hb, hk⟩; refine ⟨_, rfl, ?_⟩; replace bY := za (Kd.aQ (Kd.fC (aH.apart (show aH w0 _ g aK aNd aNe aNf aNg from wO) (zr bY.out) (by decide)) hk (fun _ h => h.2)) (fun _ h => h.1)); replace fH := nE hk (zb fH.out) kI; replace dH := nE hk (zb dH.out) jQ; replace HK := sN rW hk; replace HB := za (hb); replace HI0 := za (hi); (try clear hb hk hi); have aKx := vG.out; have aKy := lL.out; have aVj := jQ.out; have aVk := zF.out; obtain ⟨bEH, bEI, bEJ, bEK, bEL, bEM, bEN, bEO⟩ := qi dH.out; obtain ⟨bEP, bEQ, bER, bES, bET, bEU, bEV⟩ := zf7 dH.out; have bEW := aD dH.out 7) | ((with_reducible refine zg 27 rfl ?_); refine kZ (some 53) Try.func27 #[.pointer (some ⟨g, 0, none⟩), .string (⟨#[117, 115, 101, 115]⟩ : ByteArray)] ?_; refine (dI.calls g aK aNh aNi aNj aNk (⟨#[117, 115, 101, 115]⟩ : ByteArray) aNl aNm aNn aNo w0 _ wO uN A59.out).mono ?_; rintro e w68 ⟨rfl, hi, hb, hk⟩; refine ⟨_, rfl, ?_⟩; replace bY := za (Kd.aQ (Kd.fC (aH.apart (show aH w0 _ g aK aNh aNi aNj aNk from wO) aAb (by decide)) hk (fun _ h => h.2)) (fun _ h => h.1)); replace fH := nE hk (Vp fH.out lL.out) kI; replace dH := za (aU.blk hk (g' := mF) (o := .cells #[.string Di, u753001, .bool nJ, .string nK, .string EG, .slice none 0 0, .slice none 0 0, .int .i64 Dh] 38 (0, 0)) (aPX dH.out) jQ.out (by simp)); replace HK := sN rW hk; replace HB := za (hb); replace HI0 := za (hi)) | ((with_reducible refine zg 27 rfl ?_); refine kZ (some 55) Try.func27 #[.pointer (some ⟨g, 0, none⟩), .string (⟨#[123]⟩ : ByteArray)] ?_; refine (dI.calls g aK aNl aNm aNn aNo (⟨#[123]⟩ : ByteArray) aNp aNq aNr aNs w0 _ wO uN A60.out).mono ?_; rintro e w69 ⟨rfl, hi, hb, hk⟩; refine ⟨_, rfl, ?_⟩; replace bY := za (Kd.aQ (Kd.fC (aH.apart (show aH w0 _ g aK aNl aNm aNn aNo from wO) (zr bY.out) (by decide)) hk (fun _ h => h.2)) (fun _ h => h.1)); replace fH := nE hk (zb fH.out) kI; replace dH := nE hk (zb dH.out) jQ; replace HK := sN rW hk; replace HB := za (hb); replace HI0 := za (hi)) | ((with_reducible refine zg 35 rfl ?_); refine kZ (some 57) Try.func35 #[.pointer (some ⟨g, 0, none⟩), .string (⟨#[125]⟩ : ByteArray)] ?_; refine (nN.calls g aK aNp aNq aNr aNs (⟨#[125]⟩ : ByteArray) bKq aH2 aH3 aH4 aH5 w0 _ wO uN A61.out).mono ?_; rintro e w70 ⟨rfl, hi, hb, hk⟩; refine ⟨_, rfl, ?_⟩; replace bY := za (Kd.aQ (Kd.fC (aH.apart (show aH w0 _ g aK aNp aNq aNr aNs from wO) (zr bY.out) (by decide)) hk (fun _ h => h.2)) (fun _ h => h.1)); replace fH := nE hk (zb fH.out) kI; replace dH := nE hk (zb dH.out) jQ; replace HK := sN rW hk; replace HB := za (hb); replace HI0 := za (hi)))
     (try simp only [Act.put, List.setIfInBounds_toArray, List.set_cons_zero, List.set_cons_succ])
     have H := aBo.out
     clear aBo
     replace H := Bq H
     rcases H with ⟨rfl, H⟩ | ⟨rfl, H⟩
     ·
      replace H := jT H
      obtain ⟨⟨aNt, aNu, aNv, aNw⟩, A72, H⟩ := H
      (try dsimp only at H)
      replace H := jT H
      obtain ⟨⟨aH6, bKr, bKs, bKt, bKu⟩, A73, H⟩ := H
      (try dsimp only at H)
      simp only [Option.some.injEq, Prod.mk.injEq] at H
      obtain ⟨rfl, rfl, rfl, rfl, rfl, rfl, rfl, rfl, rfl, rfl, rfl, rfl⟩ := H
      go_wp2_with (first | ((with_reducible refine zg 27 rfl ?_); refine kZ (some 75) Try.func27 #[.pointer (some ⟨g, 0, none⟩), .string (⟨#[125]⟩ : ByteArray)] ?_; refine (dI.calls g aK aH2 aH3 aH4 aH5 (⟨#[125]⟩ : ByteArray) aNt aNu aNv aNw w0 _ wO uN A72.out).mono ?_; rintro e w74 ⟨rfl, hi, hb, hk⟩; refine ⟨_, rfl, ?_⟩; replace bY := za (Kd.aQ (Kd.fC (aH.apart (show aH w0 _ g aK aH2 aH3 aH4 aH5 from wO) (zr bY.out) (by decide)) hk (fun _ h => h.2)) (fun _ h => h.1)); replace fH := nE hk (zb fH.out) kI; replace dH := nE hk (zb dH.out) jQ; replace HK := sN rW hk; replace HB := za (hb); replace HI0 := za (hi)) | ((with_reducible refine zg 37 rfl ?_); refine kZ (some 77) Try.func37 #[.pointer (some ⟨g, 0, none⟩)] ?_; refine (fO.calls aNc g aK aNt aNu aNv aNw aH6 bKr bKs bKt bKu w0 _ wO uN A73.out).mono ?_; rintro e w75 ⟨bQl, rfl, ho0, hi, hb, hk⟩; refine ⟨_, rfl, ?_⟩; replace bY := za (Kd.aQ (Kd.fC (aH.apart (show aH w0 _ g aK aNt aNu aNv aNw from wO) (zr bY.out) (by decide)) hk (fun _ h => h.2)) (fun _ h => h.1)); replace fH := nE hk (zb fH.out) kI; replace dH := nE hk (zb dH.out) jQ; have aKD := za (Kd.eU ho0 (eG (w := w) (g := g) (row := none) rW)); replace HK := sN rW hk; replace HB := za (hb); replace HI0 := za (hi); (try clear hb hk hi ho0); obtain ⟨aNx, aNy, bKv⟩ := Kd.bJ aKD.out; subst bKv; have bOs := vG.out; have bOt := lL.out; have bOu := jQ.out; have bOv := zF.out; obtain ⟨bEX, bEY, bEZ, bE0, bE1, bE2, bE3, bE4⟩ := qi dH.out; obtain ⟨bE5, bE6, bE7, bE8, bE9, bFa, bFb, bFc⟩ := zf8 dH.out; have bOw := kI.out; have bOx := Ma.out; obtain ⟨bFd, bFe, bFf, bFg, bFh, bFi, bFj, bFk⟩ := qi fH.out; obtain ⟨bFl, bFm, bFn, bFo, bFp, bFq, bFr, bFs⟩ := zf8 fH.out; obtain ⟨bKw, bKx, bKy⟩ := Kd.bJ bY.out; subst bKy))
      refine bodyPost_ret (results_cell_row rfl _ _ sQ 38 #[.string Di, .slice bKw pF.length bKx, .bool nJ, .string nK, .string EG, .slice none 0 0, .slice aNx aH6.length aNy, .int .i64 Dh] (0, 0) _ rfl (zP8 (Vp fH.out lL.out)) Try.underlying38 rfl dU) rfl ?_
      exact ⟨_, _, _, jR, by (with_reducible repeat (first | apply Kd.bC | apply Kd.bF | apply Kd.bP)); exact Kd.aQ (zR8 (Kd.nL (p := ⟨mF, 6, none⟩) (Kd.dS (Kd.dS bY.out dH.out (by decide)) fH.out (by decide)) (fun _ hk => hk.1.2) (.slice aNx aH6.length aNy)) (fun _ hk => hk.2)) (fun _ hk => trivial), vJ, by (with_reducible repeat (first | apply Kd.bC | apply Kd.bF | apply Kd.bP)); exact Kd.aQ (zR8 (Kd.nL (p := ⟨mF, 6, none⟩) (Kd.dS (Kd.dS aKD.out dH.out (by decide)) fH.out (by decide)) (fun _ hk => hk.1.2) (.slice aNx aH6.length aNy)) (fun _ hk => hk.2)) (fun _ hk => trivial), wO, uN, rW⟩
     ·
      have H' := za H
      clear H
      go_wp2
      go_loopg [] aNc (fun kq w' => ∃ (zO : Int) (zP : Int) (zQ : Int) (zR : Int) (zZ : List ByteArray) (u753005 : Value), aG (dW.l1 kq aK zO zP zQ zR Di pF nJ nK EG zZ Dh = some (r1, r2, r3, r4, r5, r6, r7, r8, r9, Hu, Hw, Ml)) ∧ aG (kq ≤ aNc) ∧ aG (Kd.R ZV 76 w' w.heap.size (fun _ => True) u753001 pF) ∧ aG (Kd.R Kd.string 9 w' w.heap.size (fun _ => True) u753005 zZ) ∧ aG (w'.heap[sQ]? = some (.cells #[.string (⟨#[]⟩ : ByteArray), (.slice none 0 0), .bool false, .string (⟨#[]⟩ : ByteArray), .string (⟨#[]⟩ : ByteArray), (.slice none 0 0), (.slice none 0 0), .int .i64 0] 38 (0, 0))) ∧ aG (w'.heap[mF]? = some (.cells #[.string Di, u753001, .bool nJ, .string nK, .string EG, u753005, (.slice none 0 0), .int .i64 Dh] 38 (0, 0))) ∧ aG (aH w0 w' g aK zO zP zQ zR) ∧ aG (aU w w' g none) ∧ aG (Below w0.heap.size w0 w'))
      case atStart => exact ⟨(aH2), (aH3), (aH4), (aH5), (([] : List ByteArray)), (.slice none 0 0), H', ⟨Nat.le_refl _⟩, ⟨R9⟩, ⟨vJ⟩, ⟨SS⟩, ⟨SX⟩, ⟨wO⟩, ⟨rW⟩, ⟨uN⟩⟩
      case round =>
       clear H'
       obtain ⟨zO, zP, zQ, zR, zZ, u753005, HA, Vq, bY, lC, fH, dH, HI0, HK, HB⟩ := hrel
       cases gk with
       | zero => exact absurd HA.out (by simp [dW.l1])
       | succ k3 =>
        have H := HA.out
        clear HA
        simp only [dW.l1] at H
        have aVl := za H
        clear H
        obtain ⟨bFt, bFu, Nr, aVm, bFv⟩ := HI0.out
        have bFw := fI Nr
        have bFx := fJ Nr
        have bFy := fK Nr
        have bFz := fM Nr
        have bFA := fG Nr
        have bFB := aD Nr 1
        have bFC := aD Nr 2
        have bFD := aD Nr 3
        have bFE := aD Nr 4
        clear Nr aVm
        go_upto_if 63 with (fail)
        have H := aVl.out
        clear aVl
        revert H; refine oW (fun KG aVn H => ?_) (fun c85 KG aVn H => ?_)
        ·
         (first | rw [KG] | (simp only [dO, dQ]; rw [KG]) | skip)
         replace H := jT H
         obtain ⟨⟨aH7, aCd, aCe, aCf, aCg⟩, A86, H⟩ := H
         (try dsimp only at H)
         revert H; refine IP fun aVo H => ?_
         obtain ⟨QE, VQ⟩ : ∃ y_ : List ByteArray, y_ = (zZ ++ [aH7]) := ⟨_, rfl⟩
         replace H : ((eX.f aK aCd aCe aCf aCg (⟨#[44]⟩ : ByteArray)).bind fun wH => (if wH.1 = true then (dW.l1 k3 aK wH.2.1 wH.2.2.1 wH.2.2.2.1 wH.2.2.2.2 Di pF nJ nK EG QE Dh) else ((dI.f aK wH.2.1 wH.2.2.1 wH.2.2.2.1 wH.2.2.2.2 (⟨#[125]⟩ : ByteArray)).bind fun Sr => ((fO.f k3 aK Sr.1 Sr.2.1 Sr.2.2.1 Sr.2.2.2).bind fun Ip => (some (Di, pF, nJ, nK, EG, QE, Ip.1, Dh, Ip.2.1, Ip.2.2.1, Ip.2.2.2.1, Ip.2.2.2.2)))))) = some (r1, r2, r3, r4, r5, r6, r7, r8, r9, Hu, Hw, Ml) := by first | (rw [VQ]; with_reducible exact H) | (have lS := (Option.bind_some _ _).symm.trans H; rw [VQ]; with_reducible exact lS) | (have lS := (Option.bind_some _ _).symm.trans H; with_reducible exact lS) | with_reducible exact H | (rw [VQ]; exact H) | exact H
         have aVp := za VQ
         clear VQ
         replace H := jT H
         obtain ⟨⟨bKz, aCh, aCi, aCj, aCk⟩, A88, H⟩ := H
         (try dsimp only at H)
         have aVq := za H
         clear H
         try go_wp2
         replace bY := Ao bY
         replace lC := Ao lC
         replace fH := za (dE fH.out)
         replace dH := za (dE dH.out)
         replace HI0 := za (aH.drew HI0.out)
         replace HK := za (iY HK.out)
         replace HB := za (bK HB.out)
         refine lW (n := 8) (S := fun w' => w'.cell? ⟨mF, 0, none⟩ = some (.string Di) ∧ w'.cell? ⟨mF, 1, none⟩ = some (u753001) ∧ w'.cell? ⟨mF, 2, none⟩ = some (.bool nJ) ∧ w'.cell? ⟨mF, 3, none⟩ = some (.string nK) ∧ w'.cell? ⟨mF, 4, none⟩ = some (.string EG) ∧ w'.cell? ⟨mF, 5, none⟩ = some (u753005) ∧ w'.cell? ⟨mF, 6, none⟩ = some (.slice none 0 0) ∧ w'.cell? ⟨mF, 7, none⟩ = some (.int .i64 Dh)) (ds := [7]) #[false, false, false, false, false, false, false, false] dU rfl rfl ⟨(aA dH.out 0).trans rfl, (aA dH.out 1).trans rfl, (aA dH.out 2).trans rfl, (aA dH.out 3).trans rfl, (aA dH.out 4).trans rfl, (aA dH.out 5).trans rfl, (aA dH.out 6).trans rfl, (aA dH.out 7).trans rfl⟩ (fun hHeld => ?_); refine gX dW.aBf dW.I1 (fun dB qB => ?_)
         generalize wr.drew = w90 at bY lC fH dH HI0 HK HB hHeld ⊢
         refine gV 0 (some 64) dB ?_
         refine gV 2 (some 66) dB ?_
         refine vP 1 (some 65) dB qB hHeld ?_
         refine Cn 3 (some 67) dB (fun K hK => ?_)
         refine wT Try.func29 dU rfl #[.pointer (some ⟨g, 0, none⟩)] (by rfl) rfl rfl Fb ?_
         with_reducible refine (gG.calls g aK zO zP zQ zR aH7 aCd aCe aCf aCg w0 _ ?side1 ?side2 A86.out).mono ?_
         (case side1 => exact wO)
         (case side2 => exact uN)
         rintro e w91 ⟨rfl, hi, hb, hk⟩
         refine ⟨_, rfl, ?_⟩
         replace bY := za (Kd.aQ (Kd.fC (aH.apart (show aH w0 _ g aK zO zP zQ zR from wO) (zr bY.out) (by decide)) hk (fun _ h => h.2)) (fun _ h => h.1))
         replace lC := za (Kd.aQ (Kd.fC (aH.apart (show aH w0 _ g aK zO zP zQ zR from wO) (zr lC.out) (by decide)) hk (fun _ h => h.2)) (fun _ h => h.1))
         replace fH := nE hk (zb fH.out) kI
         replace dH := nE hk (zb dH.out) jQ
         replace HK := sN rW hk
         replace HB := za (hb)
         replace HI0 := za (hi)
         refine hK.out _ _ ⟨(aA dH.out 0).trans rfl, (aA dH.out 1).trans rfl, (aA dH.out 2).trans rfl, (aA dH.out 3).trans rfl, (aA dH.out 4).trans rfl, (aA dH.out 5).trans rfl, (aA dH.out 6).trans rfl, (aA dH.out 7).trans rfl⟩ (fun hHeld => ?_)
         clear hK K
         refine jS (a' := ?_) ?_ ?_
         rotate_left
         ·
          show Act.put _ (some 67) _ = _
          simp only [Act.put, List.setIfInBounds_toArray, List.set_cons_zero, List.set_cons_succ, dO, dQ]
          rfl
         refine Cn 4 (some 68) dB (fun K hK => ?_)
         refine Vw (w1 := ?_) (v := ?_) (by rfl) rfl ?_ ?_
         rotate_left 2
         ·
          go_simp
          constructor
          ·
           rfl
          ·
           rfl
         refine hK.out _ _ ⟨(aA (bX dH.out _) 0).trans rfl, (aA (bX dH.out _) 1).trans rfl, (aA (bX dH.out _) 2).trans rfl, (aA (bX dH.out _) 3).trans rfl, (aA (bX dH.out _) 4).trans rfl, (aA (bX dH.out _) 5).trans rfl, (aA (bX dH.out _) 6).trans rfl, (aA (bX dH.out _) 7).trans rfl⟩ (fun hHeld => ?_)
         clear hK K
         refine jS (a' := ?_) ?_ ?_
         rotate_left
         ·
          show Act.put _ (some 68) _ = _
          simp only [Act.put, List.setIfInBounds_toArray, List.set_cons_zero, List.set_cons_succ, dO, dQ]
          rfl
         refine Cn 5 (some 69) dB (fun K hK => ?_)
         refine Kd.nO Kd.string w.heap.size (by rfl) (.tmp 65) (.tmp 68) 22 9 (.string ⟨#[]⟩) 16 rfl Try.underlying22 yt rfl (by decide) (by omega) u753005 zZ aH7 [.string aH7] (fun _ => True) (fun _ => False) rfl rfl ?aP (fun _ hk => hk.elim) ?aF ?aO (Below.refl _ _) ?aS ?aL ?_
         (case aP => exact rfl)
         (case aF => exact (fun _ _ => trivial))
         (case aO => exact (zr lC.out))
         (case aS => exact (eG (w := w) (g := g) (row := none) rW))
         (case aL => have := aVo.out; omega)
         intro bQm w92 ho hb hg hat
         rw [← aVp.out] at ho
         replace bY := za (Kd.Pz (zr bY.out) (Kd.oG (zr lC.out)) (by decide) hg)
         replace fH := za (eD (g := sQ) (zb fH.out) hg (Kd.nA lC.out fH.out (by decide)))
         replace dH := za (eD (g := mF) (zb dH.out) hg (Kd.nA lC.out dH.out (by decide)))
         replace HB := za (rR uN HL.out hb)
         replace HI0 := za (aH.grown wO hg (aH.own_ne HI0.out lC.out (by decide)))
         replace HK := za (aU.trans rW (aU.mV hg g) (Kd.Fj lC.out))
         have Ta := za (ho)
         clear lC
         clear ho hb hg hat
         obtain ⟨aNz, aNA, aVr⟩ := Kd.bJ Ta.out
         (first | subst aVr | (injection aVr with wU Gu wV; have Gv := wU.symm; have Gw := wV.symm; clear wU Gu wV; subst Gv; subst Gw))
         refine hK.out _ _ ⟨(aA dH.out 0).trans rfl, (aA dH.out 1).trans rfl, (aA dH.out 2).trans rfl, (aA dH.out 3).trans rfl, (aA dH.out 4).trans rfl, (aA dH.out 5).trans rfl, (aA dH.out 6).trans rfl, (aA dH.out 7).trans rfl⟩ (fun hHeld => ?_)
         clear hK K
         refine jS (a' := ?_) ?_ ?_
         rotate_left
         ·
          show Act.put _ (some 69) _ = _
          simp only [Act.put, List.setIfInBounds_toArray, List.set_cons_zero, List.set_cons_succ, dO, dQ]
          rfl
         refine gV 6 (some 70) dB ?_
         refine Mo (i := 7) (N := none) #[true, true, true, true, true, true, true, true] rfl rfl (Ad dB.out dU) (by decide) (fun K hK => ?_)
         have bQn : w92.cell? ⟨mF, 5, none⟩ = some (u753005) := (aA dH.out 5).trans rfl
         have bOy := aD dH.out 5
         have bFF := lL.out
         have bFG := vG.out
         refine Cb (w1 := ?_) (by rfl) rfl ?_ ?_
         rotate_left
         ·
          go_simp
          rfl
         refine hK.out _ _ ?_
         clear hK K
         refine pO (jX dB.out dU) ?_
         go_upto_if 73 with (first | ((with_reducible refine zg 30 rfl ?_); refine kZ (some 72) Try.func30 #[.pointer (some ⟨g, 0, none⟩), .string (⟨#[44]⟩ : ByteArray)] ?_; refine (eX.calls g aK aCd aCe aCf aCg (⟨#[44]⟩ : ByteArray) bKz aCh aCi aCj aCk w0 _ wO uN A88.out).mono ?_; rintro e w95 ⟨rfl, hi, hb, hk⟩; refine ⟨_, rfl, ?_⟩; replace bY := za (Kd.aQ (Kd.fC (aH.apart (show aH w0 _ g aK aCd aCe aCf aCg from wO) aAb (by decide)) hk (fun _ h => h.2)) (fun _ h => h.1)); replace fH := nE hk (Vp fH.out lL.out) kI; replace Ta := za (Kd.aQ (Kd.fC (aH.apart (show aH w0 _ g aK aCd aCe aCf aCg from wO) (by (with_reducible repeat (first | apply Kd.bC | apply Kd.bF | apply Kd.bP)); exact (Kd.aQ (RL (Kd.dS Ta.out dH.out (by decide)) (fun _ hk => hk.2)) (fun _ h_ => h_.1))) (by decide)) hk (fun _ h => h.2)) (fun _ h => h.1)); replace dH := za (aU.blk hk (g' := mF) (o := .cells #[.string Di, u753001, .bool nJ, .string nK, .string EG, .slice aNz QE.length aNA, .slice none 0 0, .int .i64 Dh] 38 (0, 0)) (aPY dH.out) jQ.out (by simp)); replace HK := sN rW hk; replace HB := za (hb); replace HI0 := za (hi)))
         (try simp only [Act.put, List.setIfInBounds_toArray, List.set_cons_zero, List.set_cons_succ])
         have H := aVq.out
         clear aVq
         replace H := Bq H
         rcases H with ⟨rfl, H⟩ | ⟨rfl, H⟩
         ·
          have H' := za H
          clear H
          go_wp2
          go_roundg k3
          case measure => have := Dp.out; have := aVi.out; have := Vq.out; omega
          case rel => exact ⟨(aCh), (aCi), (aCj), (aCk), (QE), (.slice aNz QE.length aNA), H', ⟨by have := Dp.out; have := aVi.out; have := Vq.out; omega⟩, ⟨R9⟩, ⟨by (with_reducible repeat (first | apply Kd.bC | apply Kd.bF | apply Kd.bP)); exact Ta.out⟩, ⟨SS⟩, ⟨SX⟩, ⟨wO⟩, ⟨rW⟩, ⟨uN⟩⟩
         ·
          replace H := jT H
          obtain ⟨⟨aH8, aH9, aIa, aIb⟩, A97, H⟩ := H
          (try dsimp only at H)
          replace H := jT H
          obtain ⟨⟨aCl, bKA, bKB, bKC, bKD⟩, A98, H⟩ := H
          (try dsimp only at H)
          simp only [Option.some.injEq, Prod.mk.injEq] at H
          obtain ⟨rfl, rfl, rfl, rfl, rfl, rfl, rfl, rfl, rfl, rfl, rfl, rfl⟩ := H
          go_wp2_with (first | ((with_reducible refine zg 27 rfl ?_); refine kZ (some 75) Try.func27 #[.pointer (some ⟨g, 0, none⟩), .string (⟨#[125]⟩ : ByteArray)] ?_; refine (dI.calls g aK aCh aCi aCj aCk (⟨#[125]⟩ : ByteArray) aH8 aH9 aIa aIb w0 _ wO uN A97.out).mono ?_; rintro e w99 ⟨rfl, hi, hb, hk⟩; refine ⟨_, rfl, ?_⟩; replace bY := za (Kd.aQ (Kd.fC (aH.apart (show aH w0 _ g aK aCh aCi aCj aCk from wO) (zr bY.out) (by decide)) hk (fun _ h => h.2)) (fun _ h => h.1)); replace fH := nE hk (zb fH.out) kI; replace dH := nE hk (zb dH.out) jQ; replace Ta := za (Kd.aQ (Kd.fC (aH.apart (show aH w0 _ g aK aCh aCi aCj aCk from wO) (zr Ta.out) (by decide)) hk (fun _ h => h.2)) (fun _ h => h.1)); replace HK := sN rW hk; replace HB := za (hb); replace HI0 := za (hi)) | ((with_reducible refine zg 37 rfl ?_); refine kZ (some 77) Try.func37 #[.pointer (some ⟨g, 0, none⟩)] ?_; refine (fO.calls k3 g aK aH8 aH9 aIa aIb aCl bKA bKB bKC bKD w0 _ wO uN A98.out).mono ?_; rintro e bKE ⟨bQo, rfl, ho0, hi, hb, hk⟩; refine ⟨_, rfl, ?_⟩; replace bY := za (Kd.aQ (Kd.fC (aH.apart (show aH w0 _ g aK aH8 aH9 aIa aIb from wO) (zr bY.out) (by decide)) hk (fun _ h => h.2)) (fun _ h => h.1)); replace fH := nE hk (zb fH.out) kI; replace dH := nE hk (zb dH.out) jQ; replace Ta := za (Kd.aQ (Kd.fC (aH.apart (show aH w0 _ g aK aH8 aH9 aIa aIb from wO) (zr Ta.out) (by decide)) hk (fun _ h => h.2)) (fun _ h => h.1)); have aKE := za (Kd.eU ho0 (eG (w := w) (g := g) (row := none) rW)); replace HK := sN rW hk; replace HB := za (hb); replace HI0 := za (hi); (try clear hb hk hi ho0); obtain ⟨bSA, jb, aVs⟩ := Kd.bJ aKE.out; subst aVs; have bKF := vG.out; have bKG := lL.out; have bKH := jQ.out; have bKI := zF.out; obtain ⟨aVt, aVu, aVv, aVw, aVx, aVy, aVz, aVA⟩ := qi dH.out; obtain ⟨aVB, aVC, aVD, aVE, aVF, aVG, aVH, aVI⟩ := zf8 dH.out; have bKJ := kI.out; have bKK := Ma.out; obtain ⟨aVJ, aVK, aVL, aVM, aVN, aVO, aVP, aVQ⟩ := qi fH.out; obtain ⟨aVR, aVS, aVT, aVU, aVV, aVW, aVX, aVY⟩ := zf8 fH.out; obtain ⟨aVZ, aV0, aV1⟩ := Kd.bJ bY.out; subst aV1))
          refine bodyPost_ret (results_cell_row rfl _ _ sQ 38 #[.string Di, .slice aVZ pF.length aV0, .bool nJ, .string nK, .string EG, .slice aNz QE.length aNA, .slice bSA aCl.length jb, .int .i64 Dh] (0, 0) _ rfl (zP8 (Vp fH.out lL.out)) Try.underlying38 rfl dU) rfl ?_
          exact ⟨_, _, _, jR, by (with_reducible repeat (first | apply Kd.bC | apply Kd.bF | apply Kd.bP)); exact Kd.aQ (zR8 (Kd.nL (p := ⟨mF, 6, none⟩) (Kd.dS (Kd.dS bY.out dH.out (by decide)) fH.out (by decide)) (fun _ hk => hk.1.2) (.slice bSA aCl.length jb)) (fun _ hk => hk.2)) (fun _ hk => trivial), by (with_reducible repeat (first | apply Kd.bC | apply Kd.bF | apply Kd.bP)); exact Kd.aQ (zR8 (Kd.nL (p := ⟨mF, 6, none⟩) (Kd.dS (Kd.dS Ta.out dH.out (by decide)) fH.out (by decide)) (fun _ hk => hk.1.2) (.slice bSA aCl.length jb)) (fun _ hk => hk.2)) (fun _ hk => trivial), by (with_reducible repeat (first | apply Kd.bC | apply Kd.bF | apply Kd.bP)); exact Kd.aQ (zR8 (Kd.nL (p := ⟨mF, 6, none⟩) (Kd.dS (Kd.dS aKE.out dH.out (by decide)) fH.out (by decide)) (fun _ hk => hk.1.2) (.slice bSA aCl.length jb)) (fun _ hk => hk.2)) (fun _ hk => trivial), wO, uN, rW⟩
        ·
         (first | rw [KG] | (simp only [dO, dQ]; rw [KG]) | skip)
         replace H := jT H
         obtain ⟨⟨aIc, aId, aIe, aIf⟩, bKL, H⟩ := H
         (try dsimp only at H)
         replace H := jT H
         obtain ⟨⟨aCm, bKM, bKN, bKO, bKP⟩, bKQ, H⟩ := H
         (try dsimp only at H)
         simp only [Option.some.injEq, Prod.mk.injEq] at H
         obtain ⟨rfl, rfl, rfl, rfl, rfl, rfl, rfl, rfl, rfl, rfl, rfl, rfl⟩ := H
         go_wp2_with (first | ((with_reducible refine zg 27 rfl ?_); refine kZ (some 75) Try.func27 #[.pointer (some ⟨g, 0, none⟩), .string (⟨#[125]⟩ : ByteArray)] ?_; refine (dI.calls g aK zO zP zQ zR (⟨#[125]⟩ : ByteArray) aIc aId aIe aIf w0 _ wO uN bKL.out).mono ?_; rintro e bQp ⟨rfl, hi, hb, hk⟩; refine ⟨_, rfl, ?_⟩; replace bY := za (Kd.aQ (Kd.fC (aH.apart (show aH w0 _ g aK zO zP zQ zR from wO) (zr bY.out) (by decide)) hk (fun _ h => h.2)) (fun _ h => h.1)); replace lC := za (Kd.aQ (Kd.fC (aH.apart (show aH w0 _ g aK zO zP zQ zR from wO) (zr lC.out) (by decide)) hk (fun _ h => h.2)) (fun _ h => h.1)); replace fH := nE hk (zb fH.out) kI; replace dH := nE hk (zb dH.out) jQ; replace HK := sN rW hk; replace HB := za (hb); replace HI0 := za (hi)) | ((with_reducible refine zg 37 rfl ?_); refine kZ (some 77) Try.func37 #[.pointer (some ⟨g, 0, none⟩)] ?_; refine (fO.calls k3 g aK aIc aId aIe aIf aCm bKM bKN bKO bKP w0 _ wO uN bKQ.out).mono ?_; rintro e bQq ⟨bQr, rfl, ho0, hi, hb, hk⟩; refine ⟨_, rfl, ?_⟩; replace bY := za (Kd.aQ (Kd.fC (aH.apart (show aH w0 _ g aK aIc aId aIe aIf from wO) (zr bY.out) (by decide)) hk (fun _ h => h.2)) (fun _ h => h.1)); replace lC := za (Kd.aQ (Kd.fC (aH.apart (show aH w0 _ g aK aIc aId aIe aIf from wO) (zr lC.out) (by decide)) hk (fun _ h => h.2)) (fun _ h => h.1)); replace fH := nE hk (zb fH.out) kI; replace dH := nE hk (zb dH.out) jQ; have aKF := za (Kd.eU ho0 (eG (w := w) (g := g) (row := none) rW)); replace HK := sN rW hk; replace HB := za (hb); replace HI0 := za (hi); (try clear hb hk hi ho0); obtain ⟨jc, jd, aV2⟩ := Kd.bJ aKF.out; subst aV2; have bKR := vG.out; have bKS := lL.out; have bKT := jQ.out; have bKU := zF.out; obtain ⟨aV3, aV4, aV5, aV6, aV7, aV8, aV9, aWa⟩ := qi dH.out; obtain ⟨aWb, aWc, aWd, aWe, aWf, aWg, aWh, aWi⟩ := zf8 dH.out; have bKV := kI.out; have bKW := Ma.out; obtain ⟨aWj, aWk, aWl, aWm, aWn, aWo, aWp, aWq⟩ := qi fH.out; obtain ⟨aWr, aWs, aWt, aWu, aWv, aWw, aWx, aWy⟩ := zf8 fH.out; obtain ⟨aWz, aWA, aWB⟩ := Kd.bJ bY.out; subst aWB; obtain ⟨aWC, aWD, aWE⟩ := Kd.bJ lC.out; subst aWE))
         refine bodyPost_ret (results_cell_row rfl _ _ sQ 38 #[.string Di, .slice aWz pF.length aWA, .bool nJ, .string nK, .string EG, .slice aWC zZ.length aWD, .slice jc aCm.length jd, .int .i64 Dh] (0, 0) _ rfl (zP8 (Vp fH.out lL.out)) Try.underlying38 rfl dU) rfl ?_
         exact ⟨_, _, _, jR, by (with_reducible repeat (first | apply Kd.bC | apply Kd.bF | apply Kd.bP)); exact Kd.aQ (zR8 (Kd.nL (p := ⟨mF, 6, none⟩) (Kd.dS (Kd.dS bY.out dH.out (by decide)) fH.out (by decide)) (fun _ hk => hk.1.2) (.slice jc aCm.length jd)) (fun _ hk => hk.2)) (fun _ hk => trivial), by (with_reducible repeat (first | apply Kd.bC | apply Kd.bF | apply Kd.bP)); exact Kd.aQ (zR8 (Kd.nL (p := ⟨mF, 6, none⟩) (Kd.dS (Kd.dS lC.out dH.out (by decide)) fH.out (by decide)) (fun _ hk => hk.1.2) (.slice jc aCm.length jd)) (fun _ hk => hk.2)) (fun _ hk => trivial), by (with_reducible repeat (first | apply Kd.bC | apply Kd.bF | apply Kd.bP)); exact Kd.aQ (zR8 (Kd.nL (p := ⟨mF, 6, none⟩) (Kd.dS (Kd.dS aKF.out dH.out (by decide)) fH.out (by decide)) (fun _ hk => hk.1.2) (.slice jc aCm.length jd)) (fun _ hk => hk.2)) (fun _ hk => trivial), wO, uN, rW⟩
end Go.Proofs.Ytiaeldibklcobaa.eZ
