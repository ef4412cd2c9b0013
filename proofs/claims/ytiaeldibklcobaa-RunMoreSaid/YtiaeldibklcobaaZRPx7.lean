import Derived.Test.YtiaeldibklcobaaZRPx6
namespace Go.Proofs.Ytiaeldibklcobaa.eZ
open Go.RowKit Go.Proofs.YtiaeldibklcobaaW.bL Go.Proofs.YtiaeldibklcobaaW.fV Go.Proofs.YtiaeldibklcobaaW.iZ
attribute [local go_sem] kL kM lX lY jC jD kN kP
set_option linter.unusedVariables false
set_option linter.unusedSimpArgs false
mutual
def dY.j0 : Nat → List (dP) → Bool → List (iJ) → Int → Int → Int → Int → Int → ByteArray → Int → Option ((List (dP)) × Int × Int × Int × Int)
 | 0, _, _, _, _, _, _, _, _, _, _ => none
 | k + 1, x1, x25, x1000, jK, kE, jE, kF, E_, Zm, Zn => if x25 = true then (if Zm.toList = ([33] : List UInt8) then ((gW.f k x1000 jK kE jE kF Zm).bind fun F_ => ((dY.f k x1000 F_.1 F_.2.1 F_.2.2.1 F_.2.2.2 x1).bind fun DJ => (if DJ.1.length < 1954687338268 then (some ((DJ.1 ++ [(⟨4, 0, (⟨#[]⟩ : ByteArray), (⟨#[]⟩ : ByteArray), wrap64 ((DJ.1.length : Int) - 1), (-1), Zn⟩ : dP)]), DJ.2.1, wrap64 (DJ.2.2.1 - 1), DJ.2.2.2.1, DJ.2.2.2.2)) else (none)))) else ((gW.f k x1000 jK kE jE kF Zm).bind fun G_ => ((dY.f k x1000 G_.1 G_.2.1 G_.2.2.1 G_.2.2.2 x1).bind fun DK => (if DK.1.length < 1954687338268 then (some ((DK.1 ++ [(⟨3, 0, (⟨#[]⟩ : ByteArray), (⟨#[]⟩ : ByteArray), wrap64 ((DK.1.length : Int) - 1), (-1), Zn⟩ : dP)]), DK.2.1, wrap64 (DK.2.2.1 - 1), DK.2.2.2.1, DK.2.2.2.2)) else (none))))) else ((nN.f x1000 jK kE jE kF (⟨#[40]⟩ : ByteArray)).bind fun xW => (if xW.1 = true then ((gW.f k x1000 xW.2.1 xW.2.2.1 xW.2.2.2.1 xW.2.2.2.2 (⟨#[40]⟩ : ByteArray)).bind fun H_ => ((fZ.f k x1000 H_.1 H_.2.1 H_.2.2.1 H_.2.2.2 x1).bind fun TV => ((dI.f x1000 TV.2.1 TV.2.2.1 TV.2.2.2.1 TV.2.2.2.2 (⟨#[41]⟩ : ByteArray)).bind fun I_ => (some (TV.1, I_.1, wrap64 (I_.2.1 - 1), I_.2.2.1, I_.2.2.2))))) else (if E_ = 2 then ((kS.f k Zm).bind fun H9 => (if x1.length < 1954687338268 then (some ((x1 ++ [(⟨1, H9, (⟨#[]⟩ : ByteArray), (⟨#[]⟩ : ByteArray), (-1), (-1), Zn⟩ : dP)]), wrap64 (xW.2.1 + 1), xW.2.2.1, xW.2.2.2.1, xW.2.2.2.2)) else (none))) else (if E_ = 1 then ((rX.f x1000 xW.2.1 xW.2.2.1 xW.2.2.2.1 xW.2.2.2.2).bind fun KR => (if x1.length < 1954687338268 then (some ((x1 ++ [(⟨2, 0, KR.1, KR.2.1, (-1), (-1), Zn⟩ : dP)]), KR.2.2.1, KR.2.2.2.1, KR.2.2.2.2.1, KR.2.2.2.2.2)) else (none))) else ((jP.f x1000 xW.2.1 xW.2.2.1 xW.2.2.2.1 xW.2.2.2.2 11).bind fun J_ => (some (x1, J_.1, J_.2.1, J_.2.2.1, J_.2.2.2)))))))
def dY.f : Nat → List (iJ) → Int → Int → Int → Int → List (dP) → Option ((List (dP)) × Int × Int × Int × Int)
 | 0, _, _, _, _, _, _ => none
 | k + 1, aK, aX, bM, bN, bQ, l1 => if bN = 0 then (if 0 ≤ aX then (if aX < (aK.length : Int) then ((nN.f aK aX bM bN bQ (⟨#[45]⟩ : ByteArray)).bind fun wD => (if wD.1 = true then (dY.j0 k l1 true aK wD.2.1 wD.2.2.1 wD.2.2.2.1 wD.2.2.2.2 ((cK aK aX).f0) ((cK aK aX).f1) ((cK aK aX).f2)) else ((nN.f aK wD.2.1 wD.2.2.1 wD.2.2.2.1 wD.2.2.2.2 (⟨#[33]⟩ : ByteArray)).bind fun Ic => (dY.j0 k l1 Ic.1 aK Ic.2.1 Ic.2.2.1 Ic.2.2.2.1 Ic.2.2.2.2 ((cK aK aX).f0) ((cK aK aX).f1) ((cK aK aX).f2))))) else (none)) else (none)) else (some (l1, aX, bM, bN, bQ))
def fZ.l0 : Nat → List (dP) → List ByteArray → Int → List (iJ) → Int → Int → Int → Int → Option ((List (dP)) × Int × Int × Int × Int)
 | 0, _, _, _, _, _, _, _, _ => none
 | k + 1, x1, x5, x6, x1000, jK, kE, jE, kF => if x6 < (x5.length : Int) then ((mD.f x1000 jK kE jE kF).bind fun TW => (if 0 ≤ x6 then ((eX.f x1000 TW.2.1 TW.2.2.1 TW.2.2.2.1 TW.2.2.2.2 (Dt ByteArray.empty x5 x6)).bind fun Rf => (if Rf.1 = true then ((kT.f k x1000 Rf.2.1 Rf.2.2.1 Rf.2.2.2.1 Rf.2.2.2.2 x1).bind fun TY => ((wC.f TY.1 (wrap64 ((x1.length : Int) - 1)) (wrap64 (10 + x6)) TW.1).bind fun aLV => (some (aLV, TY.2.1, TY.2.2.1, TY.2.2.2.1, TY.2.2.2.2)))) else (fZ.l0 k x1 x5 (wrap64 (x6 + 1)) x1000 Rf.2.1 Rf.2.2.1 Rf.2.2.2.1 Rf.2.2.2.2))) else (none))) else (some (x1, jK, kE, jE, kF))
def fZ.f : Nat → List (iJ) → Int → Int → Int → Int → List (dP) → Option ((List (dP)) × Int × Int × Int × Int)
 | 0, _, _, _, _, _, _ => none
 | k + 1, aK, aX, bM, bN, bQ, l1 => (kT.f k aK aX bM bN bQ l1).bind fun Ie => (fZ.l0 k Ie.1 (([(⟨#[61, 61]⟩ : ByteArray), (⟨#[60]⟩ : ByteArray), (⟨#[60, 61]⟩ : ByteArray)] : List ByteArray)) 0 aK Ie.2.1 Ie.2.2.1 Ie.2.2.2.1 Ie.2.2.2.2)
def kT.l0 : Nat → List (dP) → List (iJ) → Int → Int → Int → Int → Option ((List (dP)) × Int × Int × Int × Int)
 | 0, _, _, _, _, _, _ => none
 | k + 1, x1, x1000, jK, kE, jE, kF => if jE = 0 then ((mD.f x1000 jK kE jE kF).bind fun KS => ((eX.f x1000 KS.2.1 KS.2.2.1 KS.2.2.2.1 KS.2.2.2.2 (⟨#[43]⟩ : ByteArray)).bind fun Rh => (if Rh.1 = true then ((iN.f k x1000 Rh.2.1 Rh.2.2.1 Rh.2.2.2.1 Rh.2.2.2.2 x1).bind fun TZ => ((wC.f TZ.1 (wrap64 ((x1.length : Int) - 1)) 5 KS.1).bind fun aF9 => (kT.l0 k aF9 x1000 TZ.2.1 TZ.2.2.1 TZ.2.2.2.1 TZ.2.2.2.2))) else ((eX.f x1000 Rh.2.1 Rh.2.2.1 Rh.2.2.2.1 Rh.2.2.2.2 (⟨#[45]⟩ : ByteArray)).bind fun Ri => (if Ri.1 = true then ((iN.f k x1000 Ri.2.1 Ri.2.2.1 Ri.2.2.2.1 Ri.2.2.2.2 x1).bind fun UA => ((wC.f UA.1 (wrap64 ((x1.length : Int) - 1)) 6 KS.1).bind fun aGa => (kT.l0 k aGa x1000 UA.2.1 UA.2.2.1 UA.2.2.2.1 UA.2.2.2.2))) else (some (x1, Ri.2.1, Ri.2.2.1, Ri.2.2.2.1, Ri.2.2.2.2))))))) else (some (x1, jK, kE, jE, kF))
def kT.f : Nat → List (iJ) → Int → Int → Int → Int → List (dP) → Option ((List (dP)) × Int × Int × Int × Int)
 | 0, _, _, _, _, _, _ => none
 | k + 1, aK, aX, bM, bN, bQ, l1 => (iN.f k aK aX bM bN bQ l1).bind fun Ig => (kT.l0 k Ig.1 aK Ig.2.1 Ig.2.2.1 Ig.2.2.2.1 Ig.2.2.2.2)
def iN.l0 : Nat → List (dP) → List (iJ) → Int → Int → Int → Int → Option ((List (dP)) × Int × Int × Int × Int)
 | 0, _, _, _, _, _, _ => none
 | k + 1, x1, x1000, jK, kE, jE, kF => if jE = 0 then ((mD.f x1000 jK kE jE kF).bind fun DL => ((eX.f x1000 DL.2.1 DL.2.2.1 DL.2.2.2.1 DL.2.2.2.2 (⟨#[42]⟩ : ByteArray)).bind fun Rj => (if Rj.1 = true then ((dY.f k x1000 Rj.2.1 Rj.2.2.1 Rj.2.2.2.1 Rj.2.2.2.2 x1).bind fun UB => ((wC.f UB.1 (wrap64 ((x1.length : Int) - 1)) 7 DL.1).bind fun aGb => (iN.l0 k aGb x1000 UB.2.1 UB.2.2.1 UB.2.2.2.1 UB.2.2.2.2))) else ((eX.f x1000 Rj.2.1 Rj.2.2.1 Rj.2.2.2.1 Rj.2.2.2.2 (⟨#[47]⟩ : ByteArray)).bind fun Rk => (if Rk.1 = true then ((dY.f k x1000 Rk.2.1 Rk.2.2.1 Rk.2.2.2.1 Rk.2.2.2.2 x1).bind fun UC => ((wC.f UC.1 (wrap64 ((x1.length : Int) - 1)) 8 DL.1).bind fun aGc => (iN.l0 k aGc x1000 UC.2.1 UC.2.2.1 UC.2.2.2.1 UC.2.2.2.2))) else ((eX.f x1000 Rk.2.1 Rk.2.2.1 Rk.2.2.2.1 Rk.2.2.2.2 (⟨#[37]⟩ : ByteArray)).bind fun Rl => (if Rl.1 = true then ((dY.f k x1000 Rl.2.1 Rl.2.2.1 Rl.2.2.2.1 Rl.2.2.2.2 x1).bind fun UD => ((wC.f UD.1 (wrap64 ((x1.length : Int) - 1)) 9 DL.1).bind fun aGd => (iN.l0 k aGd x1000 UD.2.1 UD.2.2.1 UD.2.2.2.1 UD.2.2.2.2))) else (some (x1, Rl.2.1, Rl.2.2.1, Rl.2.2.2.1, Rl.2.2.2.2))))))))) else (some (x1, jK, kE, jE, kF))
def iN.f : Nat → List (iJ) → Int → Int → Int → Int → List (dP) → Option ((List (dP)) × Int × Int × Int × Int)
 | 0, _, _, _, _, _, _ => none
 | k + 1, aK, aX, bM, bN, bQ, l1 => (dY.f k aK aX bM bN bQ l1).bind fun Ih => (iN.l0 k Ih.1 aK Ih.2.1 Ih.2.2.1 Ih.2.2.2.1 Ih.2.2.2.2)
end
theorem lD.fT : ∀ k, (∀ y0 y1 y2 y3 y4 y5, bV (dY.f k y0 y1 y2 y3 y4 y5) (dY.f (k + 1) y0 y1 y2 y3 y4 y5)) ∧ (∀ y0 y1 y2 y3 y4 y5 y6 y7 y8 y9, bV (dY.j0 k y0 y1 y2 y3 y4 y5 y6 y7 y8 y9) (dY.j0 (k + 1) y0 y1 y2 y3 y4 y5 y6 y7 y8 y9)) ∧ (∀ y0 y1 y2 y3 y4 y5, bV (fZ.f k y0 y1 y2 y3 y4 y5) (fZ.f (k + 1) y0 y1 y2 y3 y4 y5)) ∧ (∀ y0 y1 y2 y3 y4 y5 y6 y7, bV (fZ.l0 k y0 y1 y2 y3 y4 y5 y6 y7) (fZ.l0 (k + 1) y0 y1 y2 y3 y4 y5 y6 y7)) ∧ (∀ y0 y1 y2 y3 y4 y5, bV (kT.f k y0 y1 y2 y3 y4 y5) (kT.f (k + 1) y0 y1 y2 y3 y4 y5)) ∧ (∀ y0 y1 y2 y3 y4 y5, bV (kT.l0 k y0 y1 y2 y3 y4 y5) (kT.l0 (k + 1) y0 y1 y2 y3 y4 y5)) ∧ (∀ y0 y1 y2 y3 y4 y5, bV (iN.f k y0 y1 y2 y3 y4 y5) (iN.f (k + 1) y0 y1 y2 y3 y4 y5)) ∧ (∀ y0 y1 y2 y3 y4 y5, bV (iN.l0 k y0 y1 y2 y3 y4 y5) (iN.l0 (k + 1) y0 y1 y2 y3 y4 y5))
 | 0 => ⟨fun _ _ _ _ _ _ r h => by simp [dY.f] at h, fun _ _ _ _ _ _ _ _ _ _ r h => by simp [dY.j0] at h, fun _ _ _ _ _ _ r h => by simp [fZ.f] at h, fun _ _ _ _ _ _ _ _ r h => by simp [fZ.l0] at h, fun _ _ _ _ _ _ r h => by simp [kT.f] at h, fun _ _ _ _ _ _ r h => by simp [kT.l0] at h, fun _ _ _ _ _ _ r h => by simp [iN.f] at h, fun _ _ _ _ _ _ r h => by simp [iN.l0] at h⟩
 | k + 1 => by
  obtain ⟨nV, ih1, ih2, ih3, We, Wh, RO, ih7⟩ := lD.fT k
  refine ⟨?_, ?_, ?_, ?_, ?_, ?_, ?_, ?_⟩
  ·
   intro y0 y1 y2 y3 y4 y5
   unfold dY.f
   repeat' with_reducible first | apply nV | apply ih1 | apply ih2 | apply ih3 | apply We | apply Wh | apply RO | apply ih7 | apply kS.mono | apply gW.mono | exact bV.refl _ | exact bV.none _ | refine bV.ite ?_ ?_ | refine bV.bind ?_ (fun _ => ?_)
  ·
   intro y0 y1 y2 y3 y4 y5 y6 y7 y8 y9
   unfold dY.j0
   repeat' with_reducible first | apply nV | apply ih1 | apply ih2 | apply ih3 | apply We | apply Wh | apply RO | apply ih7 | apply kS.mono | apply gW.mono | exact bV.refl _ | exact bV.none _ | refine bV.ite ?_ ?_ | refine bV.bind ?_ (fun _ => ?_)
  ·
   intro y0 y1 y2 y3 y4 y5
   unfold fZ.f
   repeat' with_reducible first | apply nV | apply ih1 | apply ih2 | apply ih3 | apply We | apply Wh | apply RO | apply ih7 | apply kS.mono | apply gW.mono | exact bV.refl _ | exact bV.none _ | refine bV.ite ?_ ?_ | refine bV.bind ?_ (fun _ => ?_)
  ·
   intro y0 y1 y2 y3 y4 y5 y6 y7
   unfold fZ.l0
   repeat' with_reducible first | apply nV | apply ih1 | apply ih2 | apply ih3 | apply We | apply Wh | apply RO | apply ih7 | apply kS.mono | apply gW.mono | exact bV.refl _ | exact bV.none _ | refine bV.ite ?_ ?_ | refine bV.bind ?_ (fun _ => ?_)
  ·
   intro y0 y1 y2 y3 y4 y5
   unfold kT.f
   repeat' with_reducible first | apply nV | apply ih1 | apply ih2 | apply ih3 | apply We | apply Wh | apply RO | apply ih7 | apply kS.mono | apply gW.mono | exact bV.refl _ | exact bV.none _ | refine bV.ite ?_ ?_ | refine bV.bind ?_ (fun _ => ?_)
  ·
   intro y0 y1 y2 y3 y4 y5
   unfold kT.l0
   repeat' with_reducible first | apply nV | apply ih1 | apply ih2 | apply ih3 | apply We | apply Wh | apply RO | apply ih7 | apply kS.mono | apply gW.mono | exact bV.refl _ | exact bV.none _ | refine bV.ite ?_ ?_ | refine bV.bind ?_ (fun _ => ?_)
  ·
   intro y0 y1 y2 y3 y4 y5
   unfold iN.f
   repeat' with_reducible first | apply nV | apply ih1 | apply ih2 | apply ih3 | apply We | apply Wh | apply RO | apply ih7 | apply kS.mono | apply gW.mono | exact bV.refl _ | exact bV.none _ | refine bV.ite ?_ ?_ | refine bV.bind ?_ (fun _ => ?_)
  ·
   intro y0 y1 y2 y3 y4 y5
   unfold iN.l0
   repeat' with_reducible first | apply nV | apply ih1 | apply ih2 | apply ih3 | apply We | apply Wh | apply RO | apply ih7 | apply kS.mono | apply gW.mono | exact bV.refl _ | exact bV.none _ | refine bV.ite ?_ ?_ | refine bV.bind ?_ (fun _ => ?_)
theorem dY.mono : ∀ a0 a1 a2 a3 a4 a5 k, bV (dY.f k a0 a1 a2 a3 a4 a5) (dY.f (k + 1) a0 a1 a2 a3 a4 a5) := fun a0 a1 a2 a3 a4 a5 k => (lD.fT k).1 a0 a1 a2 a3 a4 a5
theorem fZ.mono : ∀ a0 a1 a2 a3 a4 a5 k, bV (fZ.f k a0 a1 a2 a3 a4 a5) (fZ.f (k + 1) a0 a1 a2 a3 a4 a5) := fun a0 a1 a2 a3 a4 a5 k => (lD.fT k).2.2.1 a0 a1 a2 a3 a4 a5
theorem kT.mono : ∀ a0 a1 a2 a3 a4 a5 k, bV (kT.f k a0 a1 a2 a3 a4 a5) (kT.f (k + 1) a0 a1 a2 a3 a4 a5) := fun a0 a1 a2 a3 a4 a5 k => (lD.fT k).2.2.2.2.1 a0 a1 a2 a3 a4 a5
theorem iN.mono : ∀ a0 a1 a2 a3 a4 a5 k, bV (iN.f k a0 a1 a2 a3 a4 a5) (iN.f (k + 1) a0 a1 a2 a3 a4 a5) := fun a0 a1 a2 a3 a4 a5 k => (lD.fT k).2.2.2.2.2.2.1 a0 a1 a2 a3 a4 a5
end Go.Proofs.Ytiaeldibklcobaa.eZ
