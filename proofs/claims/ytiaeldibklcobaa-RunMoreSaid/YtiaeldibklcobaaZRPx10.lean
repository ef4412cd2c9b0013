import Derived.Test.YtiaeldibklcobaaZRPx9
namespace Go.Proofs.Ytiaeldibklcobaa.eZ
open Go.RowKit Go.Proofs.YtiaeldibklcobaaW.bL Go.Proofs.YtiaeldibklcobaaW.fV Go.Proofs.YtiaeldibklcobaaW.iZ
set_option maxHeartbeats 8000000
set_option maxRecDepth 100000
attribute [local go_sem] kL kM lX lY jC jD kN kP
set_option linter.unusedVariables false
set_option linter.unusedSimpArgs false
mutual
def gH.j0 : Nat → ByteArray → ByteArray → List (iJ) → Int → Int → Int → Int → Int → Int → ByteArray → ByteArray → ByteArray → Bool → ByteArray → ByteArray → Option (Int × Int × ByteArray × ByteArray × ByteArray × Bool × ByteArray × ByteArray × (List (dP)) × (List (List (dP))) × (List (mO)) × (List (mO)) × Int × Int × Int × Int)
 | 0, _, _, _, _, _, _, _, _, _, _, _, _, _, _, _ => none
 | k + 1, x5, x6, x1000, jK, kE, jE, kF, Md, Me, Mf, Mg, Mh, Mi, Zo, Zp => (dI.f x1000 jK kE jE kF (⟨#[40]⟩ : ByteArray)).bind fun R_ => ((nN.f x1000 R_.1 R_.2.1 R_.2.2.1 R_.2.2.2 (⟨#[41]⟩ : ByteArray)).bind fun Rs => (if Rs.1 = true then ((dI.f x1000 Rs.2.1 Rs.2.2.1 Rs.2.2.2.1 Rs.2.2.2.2 (⟨#[41]⟩ : ByteArray)).bind fun S_ => (some (Md, Me, Mf, Mg, Mh, Mi, x5, x6, ([] : List (dP)), ([] : List (List (dP))), ([] : List (mO)), ([] : List (mO)), S_.1, S_.2.1, S_.2.2.1, S_.2.2.2))) else (gH.l0 k x1000 Rs.2.1 Rs.2.2.1 Rs.2.2.2.1 Rs.2.2.2.2 Md Me Mf Mg Mh Mi x5 x6 ([] : List (List (dP))))))
def gH.l0 : Nat → List (iJ) → Int → Int → Int → Int → Int → Int → ByteArray → ByteArray → ByteArray → Bool → ByteArray → ByteArray → List (List (dP)) → Option (Int × Int × ByteArray × ByteArray × ByteArray × Bool × ByteArray × ByteArray × (List (dP)) × (List (List (dP))) × (List (mO)) × (List (mO)) × Int × Int × Int × Int)
 | 0, _, _, _, _, _, _, _, _, _, _, _, _, _, _ => none
 | k + 1, x1000, jK, kE, jE, kF, Md, Me, Mf, Mg, Mh, Mi, Zo, Zp, PU => if jE = 0 then ((fZ.f k x1000 jK kE jE kF ([] : List (dP))).bind fun UR => (if PU.length < 5864062014805 then ((some (PU ++ [UR.1] : List (List (dP)))).bind fun DR => ((eX.f x1000 UR.2.1 UR.2.2.1 UR.2.2.2.1 UR.2.2.2.2 (⟨#[44]⟩ : ByteArray)).bind fun wE => (if wE.1 = true then (gH.l0 k x1000 wE.2.1 wE.2.2.1 wE.2.2.2.1 wE.2.2.2.2 Md Me Mf Mg Mh Mi Zo Zp DR) else ((dI.f x1000 wE.2.1 wE.2.2.1 wE.2.2.2.1 wE.2.2.2.2 (⟨#[41]⟩ : ByteArray)).bind fun Rt => (some (Md, Me, Mf, Mg, Mh, Mi, Zo, Zp, ([] : List (dP)), DR, ([] : List (mO)), ([] : List (mO)), Rt.1, Rt.2.1, Rt.2.2.1, Rt.2.2.2)))))) else (none))) else ((dI.f x1000 jK kE jE kF (⟨#[41]⟩ : ByteArray)).bind fun T_ => (some (Md, Me, Mf, Mg, Mh, Mi, Zo, Zp, ([] : List (dP)), PU, ([] : List (mO)), ([] : List (mO)), T_.1, T_.2.1, T_.2.2.1, T_.2.2.2)))
end
def gH.f (k : Nat) (aK : List (iJ)) (aX : Int) (bM : Int) (bN : Int) (bQ : Int) (qW : Int) (mE : Int) (sI : ByteArray) (UT : ByteArray) (zL : ByteArray) (UU : Bool) (Yx : ByteArray) (Yy : ByteArray) : Option (Int × Int × ByteArray × ByteArray × ByteArray × Bool × ByteArray × ByteArray × (List (dP)) × (List (List (dP))) × (List (mO)) × (List (mO)) × Int × Int × Int × Int) := (rX.f aK aX bM bN bQ).bind fun xX => ((eX.f aK xX.2.2.1 xX.2.2.2.1 xX.2.2.2.2.1 xX.2.2.2.2.2 (⟨#[61]⟩ : ByteArray)).bind fun wF => (if wF.1 = true then ((rX.f aK wF.2.1 wF.2.2.1 wF.2.2.2.1 wF.2.2.2.2).bind fun Eh => (gH.j0 k Eh.1 Eh.2.1 aK Eh.2.2.1 Eh.2.2.2.1 Eh.2.2.2.2.1 Eh.2.2.2.2.2 4 mE xX.1 xX.2.1 zL true Yx Yy)) else (gH.j0 k xX.1 xX.2.1 aK wF.2.1 wF.2.2.1 wF.2.2.2.1 wF.2.2.2.2 4 mE sI UT zL UU Yx Yy)))
theorem gH.fT : ∀ k, (∀ y0 y1 y2 y3 y4 y5 y6 y7 y8 y9 uL zX OW y13 y14, bV (gH.j0 k y0 y1 y2 y3 y4 y5 y6 y7 y8 y9 uL zX OW y13 y14) (gH.j0 (k + 1) y0 y1 y2 y3 y4 y5 y6 y7 y8 y9 uL zX OW y13 y14)) ∧ (∀ y0 y1 y2 y3 y4 y5 y6 y7 y8 y9 uL zX OW y13, bV (gH.l0 k y0 y1 y2 y3 y4 y5 y6 y7 y8 y9 uL zX OW y13) (gH.l0 (k + 1) y0 y1 y2 y3 y4 y5 y6 y7 y8 y9 uL zX OW y13))
 | 0 => ⟨fun _ _ _ _ _ _ _ _ _ _ _ _ _ _ _ r h => by simp [gH.j0] at h, fun _ _ _ _ _ _ _ _ _ _ _ _ _ _ r h => by simp [gH.l0] at h⟩
 | k + 1 => by
  obtain ⟨nV, ih1⟩ := gH.fT k
  refine ⟨?_, ?_⟩
  ·
   intro y0 y1 y2 y3 y4 y5 y6 y7 y8 y9 uL zX OW y13 y14
   unfold gH.j0
   repeat' with_reducible first | apply nV | apply ih1 | apply fZ.mono | exact bV.refl _ | exact bV.none _ | refine bV.ite ?_ ?_ | refine bV.bind ?_ (fun _ => ?_)
  ·
   intro y0 y1 y2 y3 y4 y5 y6 y7 y8 y9 uL zX OW y13
   unfold gH.l0
   repeat' with_reducible first | apply nV | apply ih1 | apply fZ.mono | exact bV.refl _ | exact bV.none _ | refine bV.ite ?_ ?_ | refine bV.bind ?_ (fun _ => ?_)
theorem gH.mono : ∀ a0 a1 a2 a3 a4 a5 a6 a7 a8 a9 vK vO a12 k, bV (gH.f k a0 a1 a2 a3 a4 a5 a6 a7 a8 a9 vK vO a12) (gH.f (k + 1) a0 a1 a2 a3 a4 a5 a6 a7 a8 a9 vK vO a12) := by
 intro a0 a1 a2 a3 a4 a5 a6 a7 a8 a9 vK vO a12 k
 obtain ⟨nV, ih1⟩ := gH.fT k
 unfold gH.f
 repeat' with_reducible first | apply nV | apply ih1 | apply fZ.mono | exact bV.refl _ | exact bV.none _ | refine bV.ite ?_ ?_ | refine bV.bind ?_ (fun _ => ?_)
def gH.T15 : Bool × List (List Nat × List Nat) := (true, [([], []), ([0], [0]), ([], []), ([2], [2]), ([3], [3]), ([1, 4, 3], [1, 4]), ([0, 1, 2, 3, 4, 5], []), ([6, 5, 5, 0, 1, 2, 3, 4, 5], [5, 6])])
def gH.B15 : List Nat := [0, 1, 0, 4, 12, 31, 63, 127]
theorem gH.aTt : oL .any (opsOf Try.f50 15) = gH.T15 := by kernel_rfl
theorem gH.aMt : kH gH.T15.2 gH.B15 = true := by kernel_rfl
theorem gH.calls (k : Nat) (g : Nat) (aK : List (iJ)) (aX : Int) (bM : Int) (bN : Int) (bQ : Int) (qW : Int) (mE : Int) (sI : ByteArray) (UT : ByteArray) (zL : ByteArray) (UU : Bool) (Yx : ByteArray) (Yy : ByteArray) (r1 : Int) (r2 : Int) (r3 : ByteArray) (r4 : ByteArray) (r5 : ByteArray) (r6 : Bool) (r7 : ByteArray) (r8 : ByteArray) (r9 : List (dP)) (Hu : List (List (dP))) (Hw : List (mO)) (Ml : List (mO)) (DT : Int) (DU : Int) (DV : Int) (r16 : Int) (w0 w : World) (hI : aH w0 w g aK aX bM bN bQ) (hB : Below w0.heap.size w0 w) (h : gH.f k aK aX bM bN bQ qW mE sI UT zL UU Yx Yy = some (r1, r2, r3, r4, r5, r6, r7, r8, r9, Hu, Hw, Ml, DT, DU, DV, r16)) :
  Calls Try.prog 50 #[.pointer (some ⟨g, 0, none⟩), .agg #[.int .i64 qW, .int .i64 mE, .string sI, .string UT, .string zL, .bool UU, .string Yx, .string Yy, .slice none 0 0, .slice none 0 0, .slice none 0 0, .slice none 0 0]] w fun e w' => ∃ Ik Ru Ap Aq : Value, e = .returned (.agg #[.int .i64 r1, .int .i64 r2, .string r3, .string r4, .string r5, .bool r6, .string r7, .string r8, Ik, Ru, Ap, Aq]) ∧ Kd.R gU 112 w' w.heap.size (fun _ => True) Ik r9 ∧ Kd.S (Kd.slice 112 gU) 91 w' w.heap.size (fun k_ => some k_ ≠ (Ik : Value).ownBlock) Ru Hu ∧ Kd.R Fv 94 w' w.heap.size (fun k_ => some k_ ≠ (Ik : Value).ownBlock ∧ some k_ ≠ (Ru : Value).ownBlock ∧ some k_ ≠ (Aq : Value).ownBlock) Ap Hw ∧ Kd.R Fv 94 w' w.heap.size (fun k_ => some k_ ≠ (Ik : Value).ownBlock ∧ some k_ ≠ (Ru : Value).ownBlock ∧ some k_ ≠ (Ap : Value).ownBlock) Aq Ml ∧ aH w0 w' g aK DT DU DV r16 ∧ Below w0.heap.size w0 w' ∧ aU w w' g none := by
 have bP8 := Try.underlying94
 have HI0 := za hI
 have HK := za (aU.refl w g none)
 have HL := za hB.size
 clear hI
 have HW0 := za hB.size
 have HB := za hB
 clear hB
 have H : ((rX.f aK aX bM bN bQ).bind fun xX => ((eX.f aK xX.2.2.1 xX.2.2.2.1 xX.2.2.2.2.1 xX.2.2.2.2.2 (⟨#[61]⟩ : ByteArray)).bind fun wF => (if wF.1 = true then ((rX.f aK wF.2.1 wF.2.2.1 wF.2.2.2.1 wF.2.2.2.2).bind fun Eh => (gH.j0 k Eh.1 Eh.2.1 aK Eh.2.2.1 Eh.2.2.2.1 Eh.2.2.2.2.1 Eh.2.2.2.2.2 4 mE xX.1 xX.2.1 zL true Yx Yy)) else (gH.j0 k xX.1 xX.2.1 aK wF.2.1 wF.2.2.1 wF.2.2.2.1 wF.2.2.2.2 4 mE sI UT zL UU Yx Yy)))) = some (r1, r2, r3, r4, r5, r6, r7, r8, r9, Hu, Hw, Ml, DT, DU, DV, r16) := h
 clear h
 replace H := jT H
 obtain ⟨⟨aGT, aGU, aTu, aTv, aTw, aTx⟩, A3, H⟩ := H
 (try dsimp only at H)
 replace H := jT H
 obtain ⟨⟨bJI, aMu, aMv, aMw, aMx⟩, A4, H⟩ := H
 (try dsimp only at H)
 have uz := za H
 clear H
 go_enter Try.func50, Try.ntmps50
 go_upto_if 16 with (first | ((with_reducible refine bO (N := 3) rfl ?_); refine bZ ?hg (N := 3) ?hd (cs := #[.int .i64 qW, .int .i64 mE, .string sI, .string UT, .string zL, .bool UU, .string Yx, .string Yy, .slice none 0 0, .slice none 0 0, .slice none 0 0, .slice none 0 0]) (t := 94) ?hr ?_; (case hd => rfl); (case hg => rfl); (case hr => exact jA); intro oN hg w6 gP hb; replace HB := za (aM qJ hb); have fA := za (gP); have aJu := za ((by rw [hg]; exact (eG (w := w) (g := g) (row := none) vN) : w.heap.size ≤ oN)); have aJt := za ((Nat.le_trans HW0.out (by rw [hg]; exact (eG (w := w) (g := g) (row := none) vN) : w.heap.size ≤ oN) : w0.heap.size ≤ oN)); replace HK := za (aU.trans vN (aU.of_below hb g none) (.inl rfl)); have Ck := za ((by rw [hg]; exact Nat.ne_of_lt (aH.lt (show aH w0 _ g aK aX bM bN bQ from mZ)) : g ≠ oN)); have qO := za ((by rw [hg]; exact Nat.ne_of_gt (aH.lt (show aH w0 _ g aK aX bM bN bQ from mZ)) : oN ≠ g)); replace HI0 := za (aH.below mZ hb); clear hb gP hg) | ((with_reducible refine bO (N := 4) rfl ?_); refine bZ ?hg (N := 4) ?hd (cs := #[.int .i64 0, .int .i64 0, .string (⟨#[]⟩ : ByteArray), .string (⟨#[]⟩ : ByteArray), .string (⟨#[]⟩ : ByteArray), .bool false, .string (⟨#[]⟩ : ByteArray), .string (⟨#[]⟩ : ByteArray), .slice none 0 0, .slice none 0 0, .slice none 0 0, .slice none 0 0]) (t := 94) ?hr ?_; (case hd => rfl); (case hg => rfl); (case hr => exact jA); intro mY hg w7 gP hb; replace HB := za (aM (by repeat (first | (with_reducible first | exact HB.out | apply bT | apply bW | apply bK | refine aV ?_ (aH.ge HI0.out) | refine aV ?_ aJt.out) | exact HB.out)) hb); have lG := za (gP); have aPr := za ((by rw [hg]; exact (eG (w := w) (g := g) (row := none) aAe) : w.heap.size ≤ mY)); have aPq := za ((Nat.le_trans HW0.out (by rw [hg]; exact (eG (w := w) (g := g) (row := none) aAe) : w.heap.size ≤ mY) : w0.heap.size ≤ mY)); replace HK := za (aU.trans aAe (aU.of_below hb g none) (.inl rfl)); have xA := za ((by rw [hg]; exact Nat.ne_of_lt (gB (g := oN) (zb fA.out)) : oN ≠ mY)); have qX := za ((by rw [hg]; exact Nat.ne_of_gt (gB (g := oN) (zb fA.out)) : mY ≠ oN)); replace fA := za (aY (g := oN) (zb fA.out) hb); have Zg := za ((by rw [hg]; exact Nat.ne_of_lt (aH.lt (show aH w0 _ g aK aX bM bN bQ from aLt)) : g ≠ mY)); have tZ := za ((by rw [hg]; exact Nat.ne_of_gt (aH.lt (show aH w0 _ g aK aX bM bN bQ from aLt)) : mY ≠ g)); replace HI0 := za (aH.below aLt hb); clear hb gP hg; have bP9 := xA.out; have bQa := qX.out; have bQb := qO.out; have bQc := Ck.out; obtain ⟨bCu, bCv, bCw, bCx, bCy, bCz, bCA, bCB, bCC, bCD, aTy, aTz⟩ := NN fA.out; obtain ⟨bCE, bCF, bCG, bCH, bCI, bCJ, bCK, bCL, bCM, bCN, aTA⟩ := aLw fA.out; have aTB := aD fA.out 11) | ((with_reducible refine zg 48 rfl ?_); refine kZ (some 12) Try.func48 #[.pointer (some ⟨g, 0, none⟩)] ?_; refine (rX.calls g aK aX bM bN bQ aGT aGU aTu aTv aTw aTx w0 _ Dc Gt A3.out).mono ?_; rintro e OY ⟨rfl, hi, hb, hk⟩; refine ⟨_, rfl, ?_⟩; replace fA := za (aU.blk hk (g' := oN) (o := .cells #[.int .i64 4, .int .i64 mE, .string sI, .string UT, .string zL, .bool UU, .string Yx, .string Yy, .slice none 0 0, .slice none 0 0, .slice none 0 0, .slice none 0 0] 94 (0, 0)) (aLx fA.out) qO.out (by simp)); replace lG := nE hk (Vp lG.out qX.out) tZ; replace HK := sN Dx hk; replace HB := za (hb); replace HI0 := za (hi)) | ((with_reducible refine zg 30 rfl ?_); refine kZ (some 16) Try.func30 #[.pointer (some ⟨g, 0, none⟩), .string (⟨#[61]⟩ : ByteArray)] ?_; refine (eX.calls g aK aTu aTv aTw aTx (⟨#[61]⟩ : ByteArray) bJI aMu aMv aMw aMx w0 _ Dc Gt A4.out).mono ?_; rintro e Mk ⟨rfl, hi, hb, hk⟩; refine ⟨_, rfl, ?_⟩; replace fA := nE hk (zb fA.out) qO; replace lG := nE hk (zb lG.out) tZ; replace HK := sN Dx hk; replace HB := za (hb); replace HI0 := za (hi)))
 (try simp only [Act.put, List.setIfInBounds_toArray, List.set_cons_zero, List.set_cons_succ])
 go_cut [5, 6] (fun v5 v6 wc => ∃ (kq : Nat) (Oq : ByteArray) (Ot : ByteArray) (Zq : Int) (Zr : Int) (Zt : Int) (Zu : Int) (nG : ByteArray) (nH : ByteArray) (nI : Bool), v5 = .string Oq ∧ v6 = .string Ot ∧ aG (gH.j0 kq Oq Ot aK Zq Zr Zt Zu 4 mE nG nH zL nI Yx Yy = some (r1, r2, r3, r4, r5, r6, r7, r8, r9, Hu, Hw, Ml, DT, DU, DV, r16)) ∧ aG (kq ≤ k) ∧ aG (wc.heap[oN]? = some (.cells #[.int .i64 4, .int .i64 mE, .string nG, .string nH, .string zL, .bool nI, .string Yx, .string Yy, (.slice none 0 0), (.slice none 0 0), (.slice none 0 0), (.slice none 0 0)] 94 (0, 0))) ∧ aG (wc.heap[mY]? = some (.cells #[.int .i64 0, .int .i64 0, .string (⟨#[]⟩ : ByteArray), .string (⟨#[]⟩ : ByteArray), .string (⟨#[]⟩ : ByteArray), .bool false, .string (⟨#[]⟩ : ByteArray), .string (⟨#[]⟩ : ByteArray), (.slice none 0 0), (.slice none 0 0), (.slice none 0 0), (.slice none 0 0)] 94 (0, 0))) ∧ aG (aH w0 wc g aK Zq Zr Zt Zu) ∧ aG (aU w wc g none) ∧ aG (Below w0.heap.size w0 wc))
 case first =>
  have H := uz.out
  clear uz
  replace H := Bq H
  rcases H with ⟨rfl, H⟩ | ⟨rfl, H⟩
  ·
   replace H := jT H
   obtain ⟨⟨aTC, aTD, aTE, aTF, aTG, aTH⟩, A14, H⟩ := H
   (try dsimp only at H)
   have H' := za H
   clear H
   have aKk := xA.out
   have aKl := qX.out
   have aRo := qO.out
   have aRp := Ck.out
   obtain ⟨OI, OJ, OL, OM, Z7, bCO, bCP, bCQ, bCR, bCS, aTI, aTJ⟩ := NN fA.out
   obtain ⟨aFu, OO, OP, OQ, Z8, bCT, bCU, bCV, bCW, bCX, aTK, aTL⟩ := qj fA.out
   go_wp2_with (first | ((with_reducible refine zg 48 rfl ?_); refine kZ (some 24) Try.func48 #[.pointer (some ⟨g, 0, none⟩)] ?_; refine (rX.calls g aK aMu aMv aMw aMx aTC aTD aTE aTF aTG aTH w0 _ Dc Gt A14.out).mono ?_; rintro e w18 ⟨rfl, hi, hb, hk⟩; refine ⟨_, rfl, ?_⟩; replace fA := za (aU.blk hk (g' := oN) (o := .cells #[.int .i64 4, .int .i64 mE, .string aGT, .string aGU, .string zL, .bool true, .string Yx, .string Yy, .slice none 0 0, .slice none 0 0, .slice none 0 0, .slice none 0 0] 94 (0, 0)) (H6 fA.out) qO.out (by simp)); replace lG := nE hk (zF3 lG.out qX.out) tZ; replace HK := sN Dx hk; replace HB := za (hb); replace HI0 := za (hi)))
   go_meet
   case rel => exact ⟨_, (aTC), (aTD), (aTE), (aTF), (aTG), (aTH), (aGT), (aGU), (true), jG, jG, H', ⟨Cm⟩, ⟨R4⟩, ⟨R6⟩, ⟨Dc⟩, ⟨Dx⟩, ⟨Gt⟩⟩
  ·
   have H' := za H
   clear H
   go_wp2
   go_meet
   case rel => exact ⟨_, (aGT), (aGU), (aMu), (aMv), (aMw), (aMx), (sI), (UT), (UU), jG, jG, H', ⟨Cm⟩, ⟨R4⟩, ⟨R6⟩, ⟨Dc⟩, ⟨Dx⟩, ⟨Gt⟩⟩
 case rest =>
  clear uz
  obtain ⟨kq, Oq, Ot, Zq, Zr, Zt, Zu, nG, nH, nI, rfl, rfl, HA, HJ4, fA, lG, HI0, HK, HB⟩ := hcut
  cases kq with
  | zero => exact absurd HA.out (by simp [gH.j0])
  | succ kj4 =>
   have H := HA.out
   clear HA
   simp only [gH.j0] at H
   replace H := jT H
   obtain ⟨⟨aTM, aTN, aTO, aTP⟩, qz, H⟩ := H
   (try dsimp only at H)
   replace H := jT H
   obtain ⟨⟨bJJ, aMy, aMz, aMA, aMB⟩, A20, H⟩ := H
   (try dsimp only at H)
   have aTQ := za H
   clear H
   have aRf := xA.out
   have aRg := qX.out
   have aRY := qO.out
   have aRZ := Ck.out
   obtain ⟨NS, NT, NU, Y7, Y8, bCY, bCZ, bC0, bC1, bC2, aTR, aTS⟩ := NN fA.out
   obtain ⟨aGg, NV, NW, Y9, Z0, bC3, bC4, bC5, bC6, bC7, aTT, aTU⟩ := qj fA.out
   go_upto_if 37 with (first | ((with_reducible refine zg 27 rfl ?_); refine kZ (some 34) Try.func27 #[.pointer (some ⟨g, 0, none⟩), .string (⟨#[40]⟩ : ByteArray)] ?_; refine (dI.calls g aK Zq Zr Zt Zu (⟨#[40]⟩ : ByteArray) aTM aTN aTO aTP w0 _ Dc Gt qz.out).mono ?_; rintro e w25 ⟨rfl, hi, hb, hk⟩; refine ⟨_, rfl, ?_⟩; replace fA := za (aU.blk hk (g' := oN) (o := .cells #[.int .i64 4, .int .i64 mE, .string nG, .string nH, .string zL, .bool nI, .string Oq, .string Ot, .slice none 0 0, .slice none 0 0, .slice none 0 0, .slice none 0 0] 94 (0, 0)) (aAr fA.out) qO.out (by simp)); replace lG := nE hk (zF2 lG.out qX.out) tZ; replace HK := sN Dx hk; replace HB := za (hb); replace HI0 := za (hi)) | ((with_reducible refine zg 35 rfl ?_); refine kZ (some 36) Try.func35 #[.pointer (some ⟨g, 0, none⟩), .string (⟨#[41]⟩ : ByteArray)] ?_; refine (nN.calls g aK aTM aTN aTO aTP (⟨#[41]⟩ : ByteArray) bJJ aMy aMz aMA aMB w0 _ Dc Gt A20.out).mono ?_; rintro e w26 ⟨rfl, hi, hb, hk⟩; refine ⟨_, rfl, ?_⟩; replace fA := nE hk (zb fA.out) qO; replace lG := nE hk (zb lG.out) tZ; replace HK := sN Dx hk; replace HB := za (hb); replace HI0 := za (hi)))
   (try simp only [Act.put, List.setIfInBounds_toArray, List.set_cons_zero, List.set_cons_succ])
   have H := aTQ.out
   clear aTQ
   replace H := Bq H
   rcases H with ⟨rfl, H⟩ | ⟨rfl, H⟩
   ·
    replace H := jT H
    obtain ⟨⟨bJK, bJL, bJM, bJN⟩, A28, H⟩ := H
    (try dsimp only at H)
    simp only [Option.some.injEq, Prod.mk.injEq] at H
    obtain ⟨rfl, rfl, rfl, rfl, rfl, rfl, rfl, rfl, rfl, rfl, rfl, rfl, rfl, rfl, rfl, rfl⟩ := H
    go_wp2_with (first | ((with_reducible refine zg 27 rfl ?_); refine kZ (some 54) Try.func27 #[.pointer (some ⟨g, 0, none⟩), .string (⟨#[41]⟩ : ByteArray)] ?_; refine (dI.calls g aK aMy aMz aMA aMB (⟨#[41]⟩ : ByteArray) bJK bJL bJM bJN w0 _ Dc Gt A28.out).mono ?_; rintro e w29 ⟨rfl, hi, hb, hk⟩; refine ⟨_, rfl, ?_⟩; replace fA := nE hk (zb fA.out) qO; replace lG := nE hk (zb lG.out) tZ; replace HK := sN Dx hk; replace HB := za (hb); replace HI0 := za (hi); (try clear hb hk hi); have aTV := xA.out; have aTW := qX.out; have aKr := qO.out; have aKs := Ck.out; obtain ⟨bC8, bC9, bDa, bDb, bDc, bDd, bDe, bDf, bDg, bDh, aTX, aTY⟩ := NN fA.out; obtain ⟨bDi, bDj, bDk, bDl, bDm, bDn, bDo, bDp, bDq, bDr, aTZ, aT0⟩ := qj fA.out; have aKv := tZ.out; have aKw := Zg.out; obtain ⟨OZ, PD, PE, M_, N_, bDs, bDt, bDu, bDv, bDw, aT1, aT2⟩ := NN lG.out; obtain ⟨d_, PG, PH, O_, P_, bDx, bDy, bDz, bDA, bDB, aT3⟩ := aLw lG.out; have aT4 := aD lG.out 11))
    refine bodyPost_ret (results_cell_row rfl _ _ mY 94 #[.int .i64 4, .int .i64 mE, .string nG, .string nH, .string zL, .bool nI, .string Oq, .string Ot, .slice none 0 0, .slice none 0 0, .slice none 0 0, .slice none 0 0] (0, 0) _ rfl (aLy lG.out) Try.underlying94 rfl dU) rfl ?_
    exact ⟨_, _, _, _, jR, vJ, aJL, vJ, vJ, Dc, Gt, Dx⟩
   ·
    have H' := za H
    clear H
    go_wp2
    go_loopg [] kj4 (fun kq w' => ∃ (iM : Int) (lM : Int) (lN : Int) (lQ : Int) (xB : List (List (dP))) (u450009 : Value), aG (gH.l0 kq aK iM lM lN lQ 4 mE nG nH zL nI Oq Ot xB = some (r1, r2, r3, r4, r5, r6, r7, r8, r9, Hu, Hw, Ml, DT, DU, DV, r16)) ∧ aG (kq ≤ kj4) ∧ aG (Kd.S (Kd.slice 112 gU) 91 w' w.heap.size (fun _ => True) u450009 xB) ∧ aG (w'.heap[oN]? = some (.cells #[.int .i64 4, .int .i64 mE, .string nG, .string nH, .string zL, .bool nI, .string Oq, .string Ot, (.slice none 0 0), u450009, (.slice none 0 0), (.slice none 0 0)] 94 (0, 0))) ∧ aG (w'.heap[mY]? = some (.cells #[.int .i64 0, .int .i64 0, .string (⟨#[]⟩ : ByteArray), .string (⟨#[]⟩ : ByteArray), .string (⟨#[]⟩ : ByteArray), .bool false, .string (⟨#[]⟩ : ByteArray), .string (⟨#[]⟩ : ByteArray), (.slice none 0 0), (.slice none 0 0), (.slice none 0 0), (.slice none 0 0)] 94 (0, 0))) ∧ aG (aH w0 w' g aK iM lM lN lQ) ∧ aG (aU w w' g none) ∧ aG (Below w0.heap.size w0 w'))
    case atStart => exact ⟨(aMy), (aMz), (aMA), (aMB), (([] : List (List (dP)))), (.slice none 0 0), H', ⟨Nat.le_refl _⟩, ⟨aJL⟩, ⟨R4⟩, ⟨R6⟩, ⟨Dc⟩, ⟨Dx⟩, ⟨Gt⟩⟩
    case round =>
     clear H'
     obtain ⟨iM, lM, lN, lQ, xB, u450009, HA, Rv, lK, fA, lG, HI0, HK, HB⟩ := hrel
     cases gk with
     | zero => exact absurd HA.out (by simp [gH.l0])
     | succ k2 =>
      have H := HA.out
      clear HA
      simp only [gH.l0] at H
      have aT5 := za H
      clear H
      obtain ⟨bDC, bDD, Nf, aT6, bDE⟩ := HI0.out
      have PI := fI Nf
      have PK := fJ Nf
      have PL := fK Nf
      have aGV := fM Nf
      have aGW := fG Nf
      have PM := aD Nf 1
      have PN := aD Nf 2
      have aGX := aD Nf 3
      have aGY := aD Nf 4
      clear Nf aT6
      go_upto_if 42 with (fail)
      have H := aT5.out
      clear aT5
      revert H; refine oW (fun CV aT7 H => ?_) (fun c37 CV aT7 H => ?_)
      ·
       (first | rw [CV] | (simp only [dO, dQ]; rw [CV]) | skip)
       replace H := jT H
       obtain ⟨⟨aBE, aGZ, aG0, aG1, aG2⟩, A38, H⟩ := H
       (try dsimp only at H)
       revert H; refine IP fun aT8 H => ?_
       obtain ⟨DR, UW⟩ : ∃ y_ : List (List (dP)), y_ = (xB ++ [aBE]) := ⟨_, rfl⟩
       replace H : ((eX.f aK aGZ aG0 aG1 aG2 (⟨#[44]⟩ : ByteArray)).bind fun wE => (if wE.1 = true then (gH.l0 k2 aK wE.2.1 wE.2.2.1 wE.2.2.2.1 wE.2.2.2.2 4 mE nG nH zL nI Oq Ot DR) else ((dI.f aK wE.2.1 wE.2.2.1 wE.2.2.2.1 wE.2.2.2.2 (⟨#[41]⟩ : ByteArray)).bind fun Rt => (some (4, mE, nG, nH, zL, nI, Oq, Ot, ([] : List (dP)), DR, ([] : List (mO)), ([] : List (mO)), Rt.1, Rt.2.1, Rt.2.2.1, Rt.2.2.2))))) = some (r1, r2, r3, r4, r5, r6, r7, r8, r9, Hu, Hw, Ml, DT, DU, DV, r16) := by first | (rw [UW]; with_reducible exact H) | (have lS := (Option.bind_some _ _).symm.trans H; rw [UW]; with_reducible exact lS) | (have lS := (Option.bind_some _ _).symm.trans H; with_reducible exact lS) | with_reducible exact H | (rw [UW]; exact H) | exact H
       have aT9 := za UW
       clear UW
       replace H := jT H
       obtain ⟨⟨bJO, aG3, aG4, aG5, aG6⟩, A40, H⟩ := H
       (try dsimp only at H)
       have aUa := za H
       clear H
       try go_wp2
       replace lK := za (Kd.Hm lK.out)
       replace fA := za (dE fA.out)
       replace lG := za (dE lG.out)
       replace HI0 := za (aH.drew HI0.out)
       replace HK := za (iY HK.out)
       replace HB := za (bK HB.out)
       refine lW (n := 8) (S := fun w' => w'.cell? ⟨oN, 0, none⟩ = some (.int .i64 4) ∧ w'.cell? ⟨oN, 1, none⟩ = some (.int .i64 mE) ∧ w'.cell? ⟨oN, 2, none⟩ = some (.string nG) ∧ w'.cell? ⟨oN, 3, none⟩ = some (.string nH) ∧ w'.cell? ⟨oN, 4, none⟩ = some (.string zL) ∧ w'.cell? ⟨oN, 5, none⟩ = some (.bool nI) ∧ w'.cell? ⟨oN, 6, none⟩ = some (.string Oq) ∧ w'.cell? ⟨oN, 7, none⟩ = some (.string Ot) ∧ w'.cell? ⟨oN, 8, none⟩ = some (.slice none 0 0) ∧ w'.cell? ⟨oN, 9, none⟩ = some (u450009) ∧ w'.cell? ⟨oN, 10, none⟩ = some (.slice none 0 0) ∧ w'.cell? ⟨oN, 11, none⟩ = some (.slice none 0 0)) (ds := [7]) #[false, false, false, false, false, false, false, false] dU rfl rfl ⟨(aA fA.out 0).trans rfl, (aA fA.out 1).trans rfl, (aA fA.out 2).trans rfl, (aA fA.out 3).trans rfl, (aA fA.out 4).trans rfl, (aA fA.out 5).trans rfl, (aA fA.out 6).trans rfl, (aA fA.out 7).trans rfl, (aA fA.out 8).trans rfl, (aA fA.out 9).trans rfl, (aA fA.out 10).trans rfl, (aA fA.out 11).trans rfl⟩ (fun hHeld => ?_); refine gX gH.aTt gH.aMt (fun dB qB => ?_)
       generalize wr.drew = w42 at lK fA lG HI0 HK HB hHeld ⊢
       refine gV 0 (some 43) dB ?_
       refine gV 2 (some 45) dB ?_
       refine vP 1 (some 44) dB qB hHeld ?_
       refine Cn 3 (some 46) dB (fun K hK => ?_)
       refine wT Try.func49 dU rfl #[.pointer (some ⟨g, 0, none⟩), .slice none 0 0] (by rfl) rfl rfl Fb ?_
       refine (fZ.calls k2 g aK iM lM lN lQ (fun k_ => some k_ = (.slice none 0 0 : Value).ownBlock) (.slice none 0 0) ([] : List (dP)) aBE aGZ aG0 aG1 aG2 w0 _ ?side1 ?side2 ?side3 A38.out).mono ?_
       (case side1 => exact Dc)
       (case side2 => exact Gt)
       (case side3 => exact Kd.mW _ _ _ _ _)
       rintro e w43 ⟨bJP, rfl, ho0, hi, hb, hkp⟩
       refine ⟨_, rfl, ?_⟩
       replace lK := za (Kd.vS (ok' := fun k_ => some k_ ≠ (bJP : Value).ownBlock) (Kd.aEp ((aH.CX HI0.out lK.out (by decide))) hkp (fun k_ wZ hs_ => Or.elim hs_ (fun hs_ => (fun e_ => by simp [Value.ownBlock] at e_) hs_) (fun e_ => (wZ.2) e_))) (fun k_ wZ => fun e_ => Or.elim (ho0.1 k_ e_.symm) (fun hs_ => wZ.2.1 (.inl hs_)) (fun Gc => Nat.not_le.2 wZ.2.2 Gc)))
       replace fA := za (pQ (zb fA.out) hkp (fun hs_ => Or.elim hs_ (fun hs_ => (fun e_ => by simp [Value.ownBlock] at e_) hs_) (fun e_ => qO.out e_)))
       replace lG := za (pQ (zb lG.out) hkp (fun hs_ => Or.elim hs_ (fun hs_ => (fun e_ => by simp [Value.ownBlock] at e_) hs_) (fun e_ => tZ.out e_)))
       replace HI0 := za (hi)
       have U_ := za (Kd.aQ (ok' := fun k_ => True) (Kd.Q5 (d := gU) (b := w0.heap.size) (b' := w.heap.size) (fun _ _ _ _ h_ => h_) ho0 (fun k_ e_ => Or.elim (ho0.1 k_ e_) (fun hs_ => (fun e_ => by simp [Value.ownBlock] at e_) hs_) (fun Gc => Nat.le_trans (eG (w := w) (g := g) (row := none) Dx) Gc))) (fun k_ wZ => trivial))
       replace HK := za (Kept.aJl Dx hkp (fun k_ hs_ => Or.elim hs_ (fun hs_ => (fun e_ => by simp [Value.ownBlock] at e_) hs_) (fun e_ => .inl e_)))
       replace HB := za (hb)
       obtain ⟨aUb, aUc, aUd⟩ := Kd.bJ U_.out
       (first | subst aUd | (injection aUd with wU Gu wV; have Gv := wU.symm; have Gw := wV.symm; clear wU Gu wV; subst Gv; subst Gw))
       refine hK.out _ _ ⟨(aA fA.out 0).trans rfl, (aA fA.out 1).trans rfl, (aA fA.out 2).trans rfl, (aA fA.out 3).trans rfl, (aA fA.out 4).trans rfl, (aA fA.out 5).trans rfl, (aA fA.out 6).trans rfl, (aA fA.out 7).trans rfl, (aA fA.out 8).trans rfl, (aA fA.out 9).trans rfl, (aA fA.out 10).trans rfl, (aA fA.out 11).trans rfl⟩ (fun hHeld => ?_)
       clear hK K
       refine jS (a' := ?_) ?_ ?_
       rotate_left
       ·
        show Act.put _ (some 46) _ = _
        simp only [Act.put, List.setIfInBounds_toArray, List.set_cons_zero, List.set_cons_succ, dO, dQ]
        rfl
       refine Cn 4 (some 47) dB (fun K hK => ?_)
       refine Vw (w1 := ?_) (v := ?_) (by rfl) rfl ?_ ?_
       rotate_left 2
       ·
        go_simp
        constructor
        ·
         rfl
        ·
         rfl
       refine hK.out _ _ ⟨(aA (bX fA.out _) 0).trans rfl, (aA (bX fA.out _) 1).trans rfl, (aA (bX fA.out _) 2).trans rfl, (aA (bX fA.out _) 3).trans rfl, (aA (bX fA.out _) 4).trans rfl, (aA (bX fA.out _) 5).trans rfl, (aA (bX fA.out _) 6).trans rfl, (aA (bX fA.out _) 7).trans rfl, (aA (bX fA.out _) 8).trans rfl, (aA (bX fA.out _) 9).trans rfl, (aA (bX fA.out _) 10).trans rfl, (aA (bX fA.out _) 11).trans rfl⟩ (fun hHeld => ?_)
       clear hK K
       refine jS (a' := ?_) ?_ ?_
       rotate_left
       ·
        show Act.put _ (some 47) _ = _
        simp only [Act.put, List.setIfInBounds_toArray, List.set_cons_zero, List.set_cons_succ, dO, dQ]
        rfl
       refine Cn 5 (some 48) dB (fun K hK => ?_)
       refine Kd.IY (Kd.slice 112 gU) w.heap.size (by rfl) (.tmp 44) (.tmp 47) 92 91 (.slice none 0 0) 24 rfl Try.underlying92 aLk rfl (by decide) (by omega) u450009 xB aBE [.slice aUb aBE.length aUc] (fun _ => True) (fun k_ => some k_ = (.slice aUb aBE.length aUc : Value).ownBlock) rfl rfl ?aP (fun k_ wZ => ((Kd.aQ (ok' := fun k_ => ((fun _ => True)) k_ ∧ some k_ ≠ (u450009 : Value).ownBlock) (Kd.pK (U_.out) (Kd.P8 lK.out) (by decide)) (fun k_ hk => ⟨trivial, hk.2⟩))).1 k_ wZ.symm) ?aF ?aO (Below.refl _ _) ?aS ?aL ?_
       (case aP => exact Kd.aPd (Kd.aQ (Kd.sJ rfl (Kd.aQ (ok' := fun k_ => ((fun _ => True)) k_ ∧ some k_ ≠ (u450009 : Value).ownBlock) (Kd.pK (U_.out) (Kd.P8 lK.out) (by decide)) (fun k_ hk => ⟨trivial, hk.2⟩))) (fun _ h_ => h_)))
       (case aF => exact (fun _ _ => trivial))
       (case aO => exact (by (with_reducible repeat (first | apply Kd.Fp | apply Kd.Fq | apply Kd.Hm)); exact Kd.vS lK.out (fun k_ hk => ⟨trivial, fun e_ => hk e_⟩)))
       (case aS => exact (eG (w := w) (g := g) (row := none) Dx))
       (case aL => have := aT8.out; omega)
       intro bQd Fe ho hb hg hat
       rw [← aT9.out] at ho
       replace fA := za (eD (g := oN) (zb fA.out) hg (Kd.aEl lK.out fA.out (by decide)))
       replace lG := za (eD (g := mY) (zb lG.out) hg (Kd.aEl lK.out lG.out (by decide)))
       replace HB := za (rR Gt HL.out hb)
       replace HI0 := za (aH.grown Dc hg (aH.U8 HI0.out lK.out (by decide)))
       replace HK := za (aU.trans Dx (aU.mV hg g) (Kd.aEm lK.out))
       have DW := za (ho)
       clear lK U_
       clear ho hb hg hat
       obtain ⟨rJ, rM, aBF⟩ := Kd.NA DW.out
       (first | subst aBF | (injection aBF with wU Gu wV; have Gv := wU.symm; have Gw := wV.symm; clear wU Gu wV; subst Gv; subst Gw))
       refine hK.out _ _ ⟨(aA fA.out 0).trans rfl, (aA fA.out 1).trans rfl, (aA fA.out 2).trans rfl, (aA fA.out 3).trans rfl, (aA fA.out 4).trans rfl, (aA fA.out 5).trans rfl, (aA fA.out 6).trans rfl, (aA fA.out 7).trans rfl, (aA fA.out 8).trans rfl, (aA fA.out 9).trans rfl, (aA fA.out 10).trans rfl, (aA fA.out 11).trans rfl⟩ (fun hHeld => ?_)
       clear hK K
       refine jS (a' := ?_) ?_ ?_
       rotate_left
       ·
        show Act.put _ (some 48) _ = _
        simp only [Act.put, List.setIfInBounds_toArray, List.set_cons_zero, List.set_cons_succ, dO, dQ]
        rfl
       refine gV 6 (some 49) dB ?_
       refine Mo (i := 7) (N := none) #[true, true, true, true, true, true, true, true] rfl rfl (Ad dB.out dU) (by decide) (fun K hK => ?_)
       have bJQ : Fe.cell? ⟨oN, 9, none⟩ = some (u450009) := (aA fA.out 9).trans rfl
       have aUe := aD fA.out 9
       have bDF := qX.out
       have bDG := xA.out
       refine Cb (w1 := ?_) (by rfl) rfl ?_ ?_
       rotate_left
       ·
        go_simp
        rfl
       refine hK.out _ _ ?_
       clear hK K
       refine pO (jX dB.out dU) ?_
       go_upto_if 52 with (first | ((with_reducible refine zg 30 rfl ?_); refine kZ (some 51) Try.func30 #[.pointer (some ⟨g, 0, none⟩), .string (⟨#[44]⟩ : ByteArray)] ?_; refine (eX.calls g aK aGZ aG0 aG1 aG2 (⟨#[44]⟩ : ByteArray) bJO aG3 aG4 aG5 aG6 w0 _ Dc Gt A40.out).mono ?_; rintro e w48 ⟨rfl, hi, hb, hk⟩; refine ⟨_, rfl, ?_⟩; replace lG := nE hk (Vp lG.out qX.out) tZ; replace DW := za (Kd.vS (Kd.MZ (aH.CX (show aH w0 _ g aK aGZ aG0 aG1 aG2 from Dc) (by (with_reducible repeat (first | apply Kd.Fp | apply Kd.Fq | apply Kd.Hm)); exact (Kd.vS (Kd.rQ (p := ⟨oN, 9, none⟩) (Kd.Qd DW.out fA.out (by decide)) (fun _ hk => hk.2) (.slice rJ DR.length rM)) (fun _ h_ => h_.1))) (by decide)) hk (fun _ h => h.2)) (fun _ h => h.1)); replace fA := za (aU.blk hk (g' := oN) (o := .cells #[.int .i64 4, .int .i64 mE, .string nG, .string nH, .string zL, .bool nI, .string Oq, .string Ot, .slice none 0 0, .slice rJ DR.length rM, .slice none 0 0, .slice none 0 0] 94 (0, 0)) (aLz fA.out) qO.out (by simp)); replace HK := sN Dx hk; replace HB := za (hb); replace HI0 := za (hi)))
       (try simp only [Act.put, List.setIfInBounds_toArray, List.set_cons_zero, List.set_cons_succ])
       have H := aUa.out
       clear aUa
       replace H := Bq H
       rcases H with ⟨rfl, H⟩ | ⟨rfl, H⟩
       ·
        have H' := za H
        clear H
        go_wp2
        go_roundg k2
        case measure => have := HJ4.out; have := Rv.out; omega
        case rel => exact ⟨(aG3), (aG4), (aG5), (aG6), (DR), (.slice rJ DR.length rM), H', ⟨by have := HJ4.out; have := Rv.out; omega⟩, ⟨by (with_reducible repeat (first | apply Kd.Fp | apply Kd.Fq | apply Kd.Hm)); exact DW.out⟩, ⟨R4⟩, ⟨R6⟩, ⟨Dc⟩, ⟨Dx⟩, ⟨Gt⟩⟩
       ·
        replace H := jT H
        obtain ⟨⟨bJR, bJS, bJT, bJU⟩, A50, H⟩ := H
        (try dsimp only at H)
        simp only [Option.some.injEq, Prod.mk.injEq] at H
        obtain ⟨rfl, rfl, rfl, rfl, rfl, rfl, rfl, rfl, rfl, rfl, rfl, rfl, rfl, rfl, rfl, rfl⟩ := H
        go_wp2_with (first | ((with_reducible refine zg 27 rfl ?_); refine kZ (some 54) Try.func27 #[.pointer (some ⟨g, 0, none⟩), .string (⟨#[41]⟩ : ByteArray)] ?_; refine (dI.calls g aK aG3 aG4 aG5 aG6 (⟨#[41]⟩ : ByteArray) bJR bJS bJT bJU w0 _ Dc Gt A50.out).mono ?_; rintro e w51 ⟨rfl, hi, hb, hk⟩; refine ⟨_, rfl, ?_⟩; replace fA := nE hk (zb fA.out) qO; replace lG := nE hk (zb lG.out) tZ; replace DW := za (Kd.vS (Kd.MZ (aH.CX (show aH w0 _ g aK aG3 aG4 aG5 aG6 from Dc) (by (with_reducible repeat (first | apply Kd.Fp | apply Kd.Fq | apply Kd.Hm)); exact DW.out) (by decide)) hk (fun _ h => h.2)) (fun _ h => h.1)); replace HK := sN Dx hk; replace HB := za (hb); replace HI0 := za (hi); (try clear hb hk hi); have aUf := xA.out; have aUg := qX.out; have aBc := qO.out; have aBd := Ck.out; obtain ⟨V_, W_, X_, aG7, aG8, aG9, aHa, aHb, bDH, bDI, aUh, aUi⟩ := NN fA.out; obtain ⟨Y_, Z_, aa, aHc, aHd, aHe, aHf, aHg, bDJ, bDK, aUj, aUk⟩ := qj fA.out; have bOn := tZ.out; have bOo := Zg.out; obtain ⟨aHh, aHi, aHj, aHk, aHl, aHm, aHn, aHo, bDL, bDM, aUl, aUm⟩ := NN lG.out; obtain ⟨aHp, aHq, aHr, aHs, aHt, aHu, aHv, aHw, bDN, bDO, aUn⟩ := aLw lG.out; have aUo := aD lG.out 11))
        refine bodyPost_ret (results_cell_row rfl _ _ mY 94 #[.int .i64 4, .int .i64 mE, .string nG, .string nH, .string zL, .bool nI, .string Oq, .string Ot, .slice none 0 0, .slice rJ DR.length rM, .slice none 0 0, .slice none 0 0] (0, 0) _ rfl (aLy lG.out) Try.underlying94 rfl dU) rfl ?_
        exact ⟨_, _, _, _, jR, vJ, by (with_reducible repeat (first | apply Kd.Fp | apply Kd.Fq | apply Kd.Hm)); exact Kd.vS (Kd.rQ (p := ⟨mY, 11, none⟩) (Kd.rQ (p := ⟨mY, 10, none⟩) (Kd.rQ (p := ⟨mY, 9, none⟩) (Kd.rQ (p := ⟨mY, 8, none⟩) (Kd.rQ (p := ⟨mY, 7, none⟩) (Kd.rQ (p := ⟨mY, 6, none⟩) (Kd.rQ (p := ⟨mY, 5, none⟩) (Kd.rQ (p := ⟨mY, 4, none⟩) (Kd.rQ (p := ⟨mY, 3, none⟩) (Kd.rQ (p := ⟨mY, 2, none⟩) (Kd.rQ (p := ⟨mY, 1, none⟩) (Kd.rQ (p := ⟨mY, 0, none⟩) (Kd.Qd DW.out lG.out (by decide)) (fun _ hk => hk.2) (.int .i64 4)) (fun _ hk => hk.2) (.int .i64 mE)) (fun _ hk => hk.2) (.string nG)) (fun _ hk => hk.2) (.string nH)) (fun _ hk => hk.2) (.string zL)) (fun _ hk => hk.2) (.bool nI)) (fun _ hk => hk.2) (.string Oq)) (fun _ hk => hk.2) (.string Ot)) (fun _ hk => hk.2) (.slice none 0 0)) (fun _ hk => hk.2) (.slice rJ DR.length rM)) (fun _ hk => hk.2) (.slice none 0 0)) (fun _ hk => hk.2) (.slice none 0 0)) (fun _ hk => Xj), vJ, vJ, Dc, Gt, Dx⟩
      ·
       (first | rw [CV] | (simp only [dO, dQ]; rw [CV]) | skip)
       replace H := jT H
       obtain ⟨⟨bJV, bJW, bJX, bJY⟩, A57, H⟩ := H
       (try dsimp only at H)
       simp only [Option.some.injEq, Prod.mk.injEq] at H
       obtain ⟨rfl, rfl, rfl, rfl, rfl, rfl, rfl, rfl, rfl, rfl, rfl, rfl, rfl, rfl, rfl, rfl⟩ := H
       go_wp2_with (first | ((with_reducible refine zg 27 rfl ?_); refine kZ (some 54) Try.func27 #[.pointer (some ⟨g, 0, none⟩), .string (⟨#[41]⟩ : ByteArray)] ?_; refine (dI.calls g aK iM lM lN lQ (⟨#[41]⟩ : ByteArray) bJV bJW bJX bJY w0 _ Dc Gt A57.out).mono ?_; rintro e w58 ⟨rfl, hi, hb, hk⟩; refine ⟨_, rfl, ?_⟩; replace lK := za (Kd.vS (Kd.MZ (aH.CX (show aH w0 _ g aK iM lM lN lQ from Dc) (by (with_reducible repeat (first | apply Kd.Fp | apply Kd.Fq | apply Kd.Hm)); exact lK.out) (by decide)) hk (fun _ h => h.2)) (fun _ h => h.1)); replace fA := nE hk (zb fA.out) qO; replace lG := nE hk (zb lG.out) tZ; replace HK := sN Dx hk; replace HB := za (hb); replace HI0 := za (hi); (try clear hb hk hi); have aRz := xA.out; have aRA := qX.out; have aRB := qO.out; have aRC := Ck.out; obtain ⟨t_, u_, v_, w_, aGs, bDP, bDQ, bDR, bDS, bDT, aUp, aUq⟩ := NN fA.out; obtain ⟨aFK, x_, z_, A_, aGt, bDU, bDV, bDW, bDX, bDY, aUr, aUs⟩ := qj fA.out; have bOp := tZ.out; have bOq := Zg.out; obtain ⟨aFL, aFM, aFN, aFO, bDZ, bD0, bD1, bD2, bD3, bD4, aUt, aUu⟩ := NN lG.out; obtain ⟨aFP, aFQ, aFR, aFS, bD5, bD6, bD7, bD8, bD9, bEa, aUv, aUw⟩ := qj lG.out; obtain ⟨aUx, aUy, bJZ⟩ := Kd.NA lK.out; subst bJZ))
       refine bodyPost_ret (results_cell_row rfl _ _ mY 94 #[.int .i64 4, .int .i64 mE, .string nG, .string nH, .string zL, .bool nI, .string Oq, .string Ot, .slice none 0 0, .slice aUx xB.length aUy, .slice none 0 0, .slice none 0 0] (0, 0) _ rfl (aLy lG.out) Try.underlying94 rfl dU) rfl ?_
       exact ⟨_, _, _, _, jR, vJ, by (with_reducible repeat (first | apply Kd.Fp | apply Kd.Fq | apply Kd.Hm)); exact Kd.vS (Kd.rQ (p := ⟨mY, 11, none⟩) (Kd.rQ (p := ⟨mY, 10, none⟩) (Kd.rQ (p := ⟨mY, 9, none⟩) (Kd.rQ (p := ⟨mY, 8, none⟩) (Kd.rQ (p := ⟨mY, 7, none⟩) (Kd.rQ (p := ⟨mY, 6, none⟩) (Kd.rQ (p := ⟨mY, 5, none⟩) (Kd.rQ (p := ⟨mY, 4, none⟩) (Kd.rQ (p := ⟨mY, 3, none⟩) (Kd.rQ (p := ⟨mY, 2, none⟩) (Kd.rQ (p := ⟨mY, 1, none⟩) (Kd.rQ (p := ⟨mY, 0, none⟩) (Kd.Qd lK.out lG.out (by decide)) (fun _ hk => hk.2) (.int .i64 4)) (fun _ hk => hk.2) (.int .i64 mE)) (fun _ hk => hk.2) (.string nG)) (fun _ hk => hk.2) (.string nH)) (fun _ hk => hk.2) (.string zL)) (fun _ hk => hk.2) (.bool nI)) (fun _ hk => hk.2) (.string Oq)) (fun _ hk => hk.2) (.string Ot)) (fun _ hk => hk.2) (.slice none 0 0)) (fun _ hk => hk.2) (.slice aUx xB.length aUy)) (fun _ hk => hk.2) (.slice none 0 0)) (fun _ hk => hk.2) (.slice none 0 0)) (fun _ hk => Xj), vJ, vJ, Dc, Gt, Dx⟩
mutual
def bU.j0 : Nat → Bool → List (iJ) → Int → Int → Int → Int → Int → Int → ByteArray → ByteArray → ByteArray → Bool → ByteArray → ByteArray → Option (Int × Int × ByteArray × ByteArray × ByteArray × Bool × ByteArray × ByteArray × (List (dP)) × (List (List (dP))) × (List (mO)) × (List (mO)) × Int × Int × Int × Int)
 | 0, _, _, _, _, _, _, _, _, _, _, _, _, _, _ => none
 | k + 1, x12, x1000, jK, kE, jE, kF, ae, xL, zM, bRM, zN, xM, xN, xO => if x12 = true then ((rX.f x1000 jK kE jE kF).bind fun LF => ((dI.f x1000 LF.2.2.1 LF.2.2.2.1 LF.2.2.2.2.1 LF.2.2.2.2.2 (⟨#[61]⟩ : ByteArray)).bind fun af => ((fZ.f k x1000 af.1 af.2.1 af.2.2.1 af.2.2.2 ([] : List (dP))).bind fun UX => ((dI.f x1000 UX.2.1 UX.2.2.1 UX.2.2.2.1 UX.2.2.2.2 (⟨#[59]⟩ : ByteArray)).bind fun ag => (some (2, xL, LF.1, LF.2.1, zN, xM, xN, xO, UX.1, ([] : List (List (dP))), ([] : List (mO)), ([] : List (mO)), ag.1, ag.2.1, ag.2.2.1, ag.2.2.2)))))) else ((eX.f x1000 jK kE jE kF (⟨#[108, 101, 116]⟩ : ByteArray)).bind fun Rw => (if Rw.1 = true then ((gG.f x1000 Rw.2.1 Rw.2.2.1 Rw.2.2.2.1 Rw.2.2.2.2).bind fun UY => ((dI.f x1000 UY.2.1 UY.2.2.1 UY.2.2.2.1 UY.2.2.2.2 (⟨#[58]⟩ : ByteArray)).bind fun ah => ((gG.f x1000 ah.1 ah.2.1 ah.2.2.1 ah.2.2.2).bind fun UZ => ((dI.f x1000 UZ.2.1 UZ.2.2.1 UZ.2.2.2.1 UZ.2.2.2.2 (⟨#[61]⟩ : ByteArray)).bind fun ai => ((fZ.f k x1000 ai.1 ai.2.1 ai.2.2.1 ai.2.2.2 ([] : List (dP))).bind fun VA => ((dI.f x1000 VA.2.1 VA.2.2.1 VA.2.2.2.1 VA.2.2.2.2 (⟨#[59]⟩ : ByteArray)).bind fun aj => (some (1, xL, zM, UY.1, UZ.1, xM, xN, xO, VA.1, ([] : List (List (dP))), ([] : List (mO)), ([] : List (mO)), aj.1, aj.2.1, aj.2.2.1, aj.2.2.2)))))))) else ((eX.f x1000 Rw.2.1 Rw.2.2.1 Rw.2.2.2.1 Rw.2.2.2.2 (⟨#[114, 101, 115, 117, 108, 116]⟩ : ByteArray)).bind fun Rx => (if Rx.1 = true then ((dI.f x1000 Rx.2.1 Rx.2.2.1 Rx.2.2.2.1 Rx.2.2.2.2 (⟨#[61]⟩ : ByteArray)).bind fun ak => ((fZ.f k x1000 ak.1 ak.2.1 ak.2.2.1 ak.2.2.2 ([] : List (dP))).bind fun VB => ((dI.f x1000 VB.2.1 VB.2.2.1 VB.2.2.2.1 VB.2.2.2.2 (⟨#[59]⟩ : ByteArray)).bind fun au => (some (3, xL, zM, bRM, zN, xM, xN, xO, VB.1, ([] : List (List (dP))), ([] : List (mO)), ([] : List (mO)), au.1, au.2.1, au.2.2.1, au.2.2.2))))) else ((eX.f x1000 Rx.2.1 Rx.2.2.1 Rx.2.2.2.1 Rx.2.2.2.2 (⟨#[99, 97, 108, 108]⟩ : ByteArray)).bind fun Ry => (if Ry.1 = true then ((gH.f k x1000 Ry.2.1 Ry.2.2.1 Ry.2.2.2.1 Ry.2.2.2.2 ae xL zM bRM zN xM xN xO).bind fun zC => ((dI.f x1000 zC.2.2.2.2.2.2.2.2.2.2.2.2.1 zC.2.2.2.2.2.2.2.2.2.2.2.2.2.1 zC.2.2.2.2.2.2.2.2.2.2.2.2.2.2.1 zC.2.2.2.2.2.2.2.2.2.2.2.2.2.2.2 (⟨#[59]⟩ : ByteArray)).bind fun av => (some (zC.1, zC.2.1, zC.2.2.1, zC.2.2.2.1, zC.2.2.2.2.1, zC.2.2.2.2.2.1, zC.2.2.2.2.2.2.1, zC.2.2.2.2.2.2.2.1, zC.2.2.2.2.2.2.2.2.1, zC.2.2.2.2.2.2.2.2.2.1, zC.2.2.2.2.2.2.2.2.2.2.1, zC.2.2.2.2.2.2.2.2.2.2.2.1, av.1, av.2.1, av.2.2.1, av.2.2.2)))) else ((eX.f x1000 Ry.2.1 Ry.2.2.1 Ry.2.2.2.1 Ry.2.2.2.2 (⟨#[101, 109, 105, 116]⟩ : ByteArray)).bind fun Rz => (if Rz.1 = true then ((gG.f x1000 Rz.2.1 Rz.2.2.1 Rz.2.2.2.1 Rz.2.2.2.2).bind fun VC => ((dI.f x1000 VC.2.1 VC.2.2.1 VC.2.2.2.1 VC.2.2.2.2 (⟨#[59]⟩ : ByteArray)).bind fun ay => (some (7, xL, zM, VC.1, zN, xM, xN, xO, ([] : List (dP)), ([] : List (List (dP))), ([] : List (mO)), ([] : List (mO)), ay.1, ay.2.1, ay.2.2.1, ay.2.2.2)))) else ((eX.f x1000 Rz.2.1 Rz.2.2.1 Rz.2.2.2.1 Rz.2.2.2.2 (⟨#[115, 107, 105, 112]⟩ : ByteArray)).bind fun Sa => (if Sa.1 = true then ((dI.f x1000 Sa.2.1 Sa.2.2.1 Sa.2.2.2.1 Sa.2.2.2.2 (⟨#[59]⟩ : ByteArray)).bind fun az => (some (8, xL, zM, bRM, zN, xM, xN, xO, ([] : List (dP)), ([] : List (List (dP))), ([] : List (mO)), ([] : List (mO)), az.1, az.2.1, az.2.2.1, az.2.2.2))) else ((eX.f x1000 Sa.2.1 Sa.2.2.1 Sa.2.2.2.1 Sa.2.2.2.2 (⟨#[105, 102]⟩ : ByteArray)).bind fun Sb => (if Sb.1 = true then ((fZ.f k x1000 Sb.2.1 Sb.2.2.1 Sb.2.2.2.1 Sb.2.2.2.2 ([] : List (dP))).bind fun LG => ((fO.f k x1000 LG.2.1 LG.2.2.1 LG.2.2.2.1 LG.2.2.2.2).bind fun LH => ((eX.f x1000 LH.2.1 LH.2.2.1 LH.2.2.2.1 LH.2.2.2.2 (⟨#[101, 108, 115, 101]⟩ : ByteArray)).bind fun Sc => (if Sc.1 = true then ((fO.f k x1000 Sc.2.1 Sc.2.2.1 Sc.2.2.2.1 Sc.2.2.2.2).bind fun VD => (some (5, xL, zM, bRM, zN, xM, xN, xO, LG.1, ([] : List (List (dP))), LH.1, VD.1, VD.2.1, VD.2.2.1, VD.2.2.2.1, VD.2.2.2.2))) else (some (5, xL, zM, bRM, zN, xM, xN, xO, LG.1, ([] : List (List (dP))), LH.1, ([] : List (mO)), Sc.2.1, Sc.2.2.1, Sc.2.2.2.1, Sc.2.2.2.2)))))) else ((eX.f x1000 Sb.2.1 Sb.2.2.1 Sb.2.2.2.1 Sb.2.2.2.2 (⟨#[119, 104, 105, 108, 101]⟩ : ByteArray)).bind fun Sd => (if Sd.1 = true then ((fZ.f k x1000 Sd.2.1 Sd.2.2.1 Sd.2.2.2.1 Sd.2.2.2.2 ([] : List (dP))).bind fun VE => ((fO.f k x1000 VE.2.1 VE.2.2.1 VE.2.2.2.1 VE.2.2.2.2).bind fun VF => (some (6, xL, zM, bRM, zN, xM, xN, xO, VE.1, ([] : List (List (dP))), VF.1, ([] : List (mO)), VF.2.1, VF.2.2.1, VF.2.2.2.1, VF.2.2.2.2)))) else ((jP.f x1000 Sd.2.1 Sd.2.2.1 Sd.2.2.2.1 Sd.2.2.2.2 11).bind fun bg => (some (ae, xL, zM, bRM, zN, xM, xN, xO, ([] : List (dP)), ([] : List (List (dP))), ([] : List (mO)), ([] : List (mO)), bg.1, bg.2.1, bg.2.2.1, bg.2.2.2)))))))))))))))))
def bU.f : Nat → List (iJ) → Int → Int → Int → Int → Option (Int × Int × ByteArray × ByteArray × ByteArray × Bool × ByteArray × ByteArray × (List (dP)) × (List (List (dP))) × (List (mO)) × (List (mO)) × Int × Int × Int × Int)
 | 0, _, _, _, _, _ => none
 | k + 1, aK, aX, bM, bN, bQ => (mD.f aK aX bM bN bQ).bind fun Cr => (if Cr.2.2.2.1 = 0 then (if 0 ≤ Cr.2.1 then (if Cr.2.1 < (aK.length : Int) then (bU.j0 k (((cK aK Cr.2.1).f0) == 1) aK Cr.2.1 Cr.2.2.1 Cr.2.2.2.1 Cr.2.2.2.2 0 Cr.1 (⟨#[]⟩ : ByteArray) (⟨#[]⟩ : ByteArray) (⟨#[]⟩ : ByteArray) false (⟨#[]⟩ : ByteArray) (⟨#[]⟩ : ByteArray)) else (none)) else (none)) else (bU.j0 k false aK Cr.2.1 Cr.2.2.1 Cr.2.2.2.1 Cr.2.2.2.2 0 Cr.1 (⟨#[]⟩ : ByteArray) (⟨#[]⟩ : ByteArray) (⟨#[]⟩ : ByteArray) false (⟨#[]⟩ : ByteArray) (⟨#[]⟩ : ByteArray)))
def fO.l0 : Nat → List (mO) → List (iJ) → Int → Int → Int → Int → Option ((List (mO)) × Int × Int × Int × Int)
 | 0, _, _, _, _, _, _ => none
 | k + 1, x3, x1000, jK, kE, jE, kF => if jE = 0 then ((nN.f x1000 jK kE jE kF (⟨#[125]⟩ : ByteArray)).bind fun Sg => (if Sg.1 = true then ((dI.f x1000 Sg.2.1 Sg.2.2.1 Sg.2.2.2.1 Sg.2.2.2.2 (⟨#[125]⟩ : ByteArray)).bind fun bn => (some (x3, bn.1, wrap64 (bn.2.1 - 1), bn.2.2.1, bn.2.2.2))) else ((bU.f k x1000 Sg.2.1 Sg.2.2.1 Sg.2.2.2.1 Sg.2.2.2.2).bind fun zD => (if x3.length < 703687441776 then (fO.l0 k (x3 ++ [(⟨zD.1, zD.2.1, zD.2.2.1, zD.2.2.2.1, zD.2.2.2.2.1, zD.2.2.2.2.2.1, zD.2.2.2.2.2.2.1, zD.2.2.2.2.2.2.2.1, zD.2.2.2.2.2.2.2.2.1, zD.2.2.2.2.2.2.2.2.2.1, zD.2.2.2.2.2.2.2.2.2.2.1, zD.2.2.2.2.2.2.2.2.2.2.2.1⟩ : mO)]) x1000 zD.2.2.2.2.2.2.2.2.2.2.2.2.1 zD.2.2.2.2.2.2.2.2.2.2.2.2.2.1 zD.2.2.2.2.2.2.2.2.2.2.2.2.2.2.1 zD.2.2.2.2.2.2.2.2.2.2.2.2.2.2.2) else (none))))) else ((dI.f x1000 jK kE jE kF (⟨#[125]⟩ : ByteArray)).bind fun bq => (some (x3, bq.1, wrap64 (bq.2.1 - 1), bq.2.2.1, bq.2.2.2)))
def fO.f : Nat → List (iJ) → Int → Int → Int → Int → Option ((List (mO)) × Int × Int × Int × Int)
 | 0, _, _, _, _, _ => none
 | k + 1, aK, aX, bM, bN, bQ => (gW.f k aK aX bM bN bQ (⟨#[123]⟩ : ByteArray)).bind fun Si => (fO.l0 k ([] : List (mO)) aK Si.1 Si.2.1 Si.2.2.1 Si.2.2.2)
end
theorem sF.fT : ∀ k, (∀ y0 y1 y2 y3 y4, bV (bU.f k y0 y1 y2 y3 y4) (bU.f (k + 1) y0 y1 y2 y3 y4)) ∧ (∀ y0 y1 y2 y3 y4 y5 y6 y7 y8 y9 uL zX OW y13, bV (bU.j0 k y0 y1 y2 y3 y4 y5 y6 y7 y8 y9 uL zX OW y13) (bU.j0 (k + 1) y0 y1 y2 y3 y4 y5 y6 y7 y8 y9 uL zX OW y13)) ∧ (∀ y0 y1 y2 y3 y4, bV (fO.f k y0 y1 y2 y3 y4) (fO.f (k + 1) y0 y1 y2 y3 y4)) ∧ (∀ y0 y1 y2 y3 y4 y5, bV (fO.l0 k y0 y1 y2 y3 y4 y5) (fO.l0 (k + 1) y0 y1 y2 y3 y4 y5))
 | 0 => ⟨fun _ _ _ _ _ r h => by simp [bU.f] at h, fun _ _ _ _ _ _ _ _ _ _ _ _ _ _ r h => by simp [bU.j0] at h, fun _ _ _ _ _ r h => by simp [fO.f] at h, fun _ _ _ _ _ _ r h => by simp [fO.l0] at h⟩
 | k + 1 => by
  obtain ⟨nV, ih1, ih2, ih3⟩ := sF.fT k
  refine ⟨?_, ?_, ?_, ?_⟩
  ·
   intro y0 y1 y2 y3 y4
   unfold bU.f
   repeat' with_reducible first | apply nV | apply ih1 | apply ih2 | apply ih3 | apply gH.mono | apply fZ.mono | apply gW.mono | exact bV.refl _ | exact bV.none _ | refine bV.ite ?_ ?_ | refine bV.bind ?_ (fun _ => ?_)
  ·
   intro y0 y1 y2 y3 y4 y5 y6 y7 y8 y9 uL zX OW y13
   unfold bU.j0
   repeat' with_reducible first | apply nV | apply ih1 | apply ih2 | apply ih3 | apply gH.mono | apply fZ.mono | apply gW.mono | exact bV.refl _ | exact bV.none _ | refine bV.ite ?_ ?_ | refine bV.bind ?_ (fun _ => ?_)
  ·
   intro y0 y1 y2 y3 y4
   unfold fO.f
   repeat' with_reducible first | apply nV | apply ih1 | apply ih2 | apply ih3 | apply gH.mono | apply fZ.mono | apply gW.mono | exact bV.refl _ | exact bV.none _ | refine bV.ite ?_ ?_ | refine bV.bind ?_ (fun _ => ?_)
  ·
   intro y0 y1 y2 y3 y4 y5
   unfold fO.l0
   repeat' with_reducible first | apply nV | apply ih1 | apply ih2 | apply ih3 | apply gH.mono | apply fZ.mono | apply gW.mono | exact bV.refl _ | exact bV.none _ | refine bV.ite ?_ ?_ | refine bV.bind ?_ (fun _ => ?_)
theorem bU.mono : ∀ a0 a1 a2 a3 a4 k, bV (bU.f k a0 a1 a2 a3 a4) (bU.f (k + 1) a0 a1 a2 a3 a4) := fun a0 a1 a2 a3 a4 k => (sF.fT k).1 a0 a1 a2 a3 a4
theorem fO.mono : ∀ a0 a1 a2 a3 a4 k, bV (fO.f k a0 a1 a2 a3 a4) (fO.f (k + 1) a0 a1 a2 a3 a4) := fun a0 a1 a2 a3 a4 k => (sF.fT k).2.2.1 a0 a1 a2 a3 a4
end Go.Proofs.Ytiaeldibklcobaa.eZ
